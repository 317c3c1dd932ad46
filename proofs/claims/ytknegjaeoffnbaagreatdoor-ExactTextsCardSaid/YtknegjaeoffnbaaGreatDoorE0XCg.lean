/- Steps of the proof of the theorem in the last file. -/
import Derived.Test.YtknegjaeoffnbaaGreatDoorQ0
import Derived.Test.YtknegjaeoffnbaaGreatDoorProg
import Derived.KernelRfl
set_option linter.all false
set_option maxHeartbeats 4000000
namespace Go.Proofs.YtknegjaeoffnbaaGreatDoor
section
theorem MQ:GF Tryz.prog 22=true:=by kernel_rfl
end
section
open Go.RowKit Go.ChangeShapes Go.WideShapes Ig
section
variable {H:Type} {enc:TypeId×Value→H} {w:World} {b:Nat} {v:Value} {d:DataW H} {p:List MemPlace}
set_option maxRecDepth 100000 in
theorem Xh8 {t:TypeId} (ht:Tryz.prog.underlying t=some .string) (hv:Value.okWide Tryz.prog w .any b t v) (h:DataW.Trod enc Tryz.prog w 0 (fun _=>true) true t v d p):∃ l,v=tx l:=by
 obtain ⟨s,rfl,_⟩:=ChangeMaps.open_string ht hv h
 exact⟨s.data.toList,by simp [tx]⟩
set_option maxRecDepth 100000 in
theorem Xfk {t:TypeId} (ht:Tryz.prog.underlying t=some (.int .i64)) (hv:Value.okWide Tryz.prog w .any b t v) (h:DataW.Trod enc Tryz.prog w 0 (fun _=>true) true t v d p):∃ n:Int,v = .int .i64 n∧-9223372036854775808≤n∧n≤9223372036854775807:=by
 obtain ⟨n,rfl,_,_,hw⟩:=open_int ht hv h
 refine⟨n,rfl,?_⟩
 simpa [Lit.wf,IntKind.min,IntKind.max,IntKind.signed,IntKind.bits] using hw
end
end
section
open Go.RowKit Ig
def ofT (n d:Int):List UInt8×Int:=if d=0 then([],6) else Pj (Rat.divInt n d)
theorem Xi3 {w:World} {F:Gs} {n d:Int} (hF:Fits F w) (hG:JB F) (hn : -9223372036854775808≤n∧n≤9223372036854775807) (hd : -9223372036854775808≤d∧d≤9223372036854775807):QZ Tryz.prog 73 [.int .i64 n,.int .i64 d] w F (.tuple #[tx (ofT n d).1,.int .i64 (ofT n d).2]):=by
 have hzn:sz n≤64:=(Xx n 64).2 (by omega)
 have hzd:sz d≤64:=(Xx d 64).2 (by omega)
 refine QS.intro (G:=fun F=>JB F) Tryz.func73 rfl (by rfl) rfl rfl hF (fun F' hF'=>hG.le hF')<|J_sr<|JS_as rfl<|JS_as rfl<|JS_nt<|QG<|J_sr<|JS_mv rfl<|QA (QV rfl rfl rfl)<|QE<|QC ?_
 refine QR rfl (fun hc=>?_) (fun hc=>?_)
 ·
  refine J_sr<|JS_as rfl<|JS_as rfl<|JS_nt<|QT ?_
  exact JY () rfl (.tmp rfl (.tmp rfl .nil)) (by unfold ofT;rw [if_pos (by simpa using hc)]) (fun _ _=>trivial)
 ·
  have h0:d≠0:=by simpa using hc
  have hz:=Yd (a:=n) h0
  refine QP<|QC<|J_sr<|JS_mv rfl<|QI rfl (fun w F hF hGl=>Mh hF hn.1 hn.2) (fun g9=>JS_mv rfl<|QI rfl (fun w F hF ⟨hGl,h9⟩=>Mh hF hd.1 hd.2) (fun g11=>QI rfl (fun w F hF ⟨⟨hGl,h9⟩,h11⟩=>Ms hF h9 h11 h0 (by omega) (by omega)) (fun x12=>QI rfl (fun w F hF ⟨⟨⟨hGl,h9⟩,h11⟩,⟨h12,h12_⟩⟩=>OR (r:=Rat.divInt n d) hF hGl ⟨h12,h12_⟩ (by omega)) (fun _=>QA (QM rfl rfl)<|QA (QM rfl rfl)<|JS_as rfl<|JS_as rfl<|JS_nt<|QT ?_))))
  exact JY () rfl (.tmp rfl (.tmp rfl .nil)) (by unfold ofT;rw [if_neg h0];rfl) (fun _ _=>trivial)
end
section
open Go.RowKit Ig
theorem O8 {w:World} {F:Gs} {s:List UInt8} (hF:Fits F w) (hl:s.length≤1000000000):QZ Tryz.prog 175 [tx s] w F (.bool (XF s)):=by
 refine QS.intro (G:=fun _=>True) Tryz.func175 rfl (by rfl) rfl rfl hF (fun F' hF'=>trivial)<|J_sr<|JS_as rfl<|JS_nt<|QG<|J_sr<|JS_as rfl<|JS_nt<|Qa<|XU (ι:=Hl s.length (fun i=>(s.take i).all T6=true)) (fun i=>[(0,tx s),(3,.int .i64 i.i)]) (fun _=>[]) (fun _ _=>True) (fun i=>s.length - i.i) ⟨0,Nat.zero_le _,rfl⟩ ⟨rfl,rfl,trivial⟩ subl_r (fun _ h=>trivial) (fun i=>?_)
 have hle:=i.le
 refine QG<|J_sr<|JS_mv rfl<|JS_mv rfl<|QA (J9 rfl Xh)<|QA (QV rfl rfl rfl)<|QE<|QC ?_
 refine QR rfl (fun hc=>?_) (fun hc=>?_)
 ·
  have hi:i.i<s.length:=by simp at hc;omega
  clear hc
  refine QP<|QC<|QG<|Qa<|J_sr<|JS_mv rfl<|JS_mv rfl<|QA (Vn rfl rfl Xh (hi))<|QA (QV rfl rfl rfl)<|JS_mv rfl ?_
  refine Qn (t:=14) rfl (fun hb14=>?_) (fun hb14=>?_)
  ·
   refine QO rfl rfl rfl<|QO rfl rfl rfl<|QO rfl rfl rfl<|QO rfl rfl rfl<|QA (Qi rfl rfl rfl)<|JS_nt<|WT rfl<|J_sr<|JS_as rfl<|JS_nt<|QT ?_
   repeat (first | refine JJ ?_ | refine JA ?_)
   exact QQ () rfl (.tmp rfl .nil) (congrArg Value.bool (by rw [RW hi (by have h1:=dec_t hb14;cases hd:T6 s[i.i] with | false=>rfl | true=>(have:=YZ.1 hd;omega))])) (fun _ _=>trivial)
  ·
   refine QL rfl rfl<|JS_mv rfl<|QL rfl rfl<|JS_mv rfl<|QL rfl rfl<|QA (Vn rfl rfl Xh (hi))<|QL rfl rfl<|QA (QV rfl rfl rfl)<|QA (Qh rfl rfl rfl)<|QE<|QC ?_
   refine QR rfl (fun hc=>?_) (fun hc=>?_)
   ·
    refine J_sr<|JS_as rfl<|JS_nt<|QT ?_
    repeat (first | refine JJ ?_ | refine JA ?_)
    exact QQ () rfl (.tmp rfl .nil) (congrArg Value.bool (by rw [RW hi (by have h1:=dec_t hc;cases hd:T6 s[i.i] with | false=>rfl | true=>(have:=YZ.1 hd;omega))])) (fun _ _=>trivial)
   ·
    refine QP<|Qk<|QC<|QB<|JS_mv rfl<|QA (Qu rfl rfl (by omega))<|JS_as rfl<|QE ?_
    exact Qo (⟨i.i+1,by omega,DY hi i.h (YZ.2 (by have h1:=dec_f hb14;have h2:=dec_f hc;constructor<;>omega))⟩:Hl s.length (fun i=>(s.take i).all T6=true)) (by show s.length - (i.i+1)<s.length - i.i;omega) ⟨rfl,rfl,trivial⟩ subl_r (fun _ h=>trivial)
 ·
  refine Q5 ?_
  repeat (first | refine Qd ?_ | refine QW (by rfl) ?_)
  refine Qe<|QC<|J_sr<|JS_as rfl<|JS_nt<|QT ?_
  exact QQ () rfl (.tmp rfl .nil) (congrArg Value.bool (by have e:=i.h;rw [List.take_of_length_le (by simp at hc;omega)] at e;exact e)) (fun _ _=>trivial)
theorem kc {s:List UInt8} (h1:(1:Int)<(s.length:Int)) (h:s[0]'(by omega)=48):XV s=false:=by
 cases s with
 |nil=>simp at h1
 |cons c r =>
  have hc:c=48:=h
  subst hc
  have hr:r≠[]:=by intro e;subst e;simp at h1
  simp [XV,hr]
theorem yL {s:List UInt8} (h1:(1:Int)<(s.length:Int)) (h:¬ s[0]'(by omega)=48):XV s=XF s:=by
 cases s with
 |nil=>simp at h1
 |cons c r =>
  have hc:¬ c=48:=h
  simp [XV,hc]
theorem kb {s:List UInt8} (h0:0<s.length) (h1:s.length≤1):XV s=XF s:=by
 match s,h0,h1 with
 |[c],_,_ =>
  by_cases hc:c=48
  ·subst hc;rfl
  ·simp [XV,hc]
theorem zU {w:World} {F:Gs} {s:List UInt8} (hF:Fits F w) (hl:s.length≤1000000000):QZ Tryz.prog 118 [tx s] w F (.bool (XV s)):=by
 refine QS.intro (G:=fun _=>True) Tryz.func118 rfl (by rfl) rfl rfl hF (fun F' hF'=>trivial)<|J_sr<|JS_as rfl<|JS_nt<|QG<|J_sr<|JS_mv rfl<|QA (J9 rfl Xh)<|QA (QV rfl rfl rfl)<|JS_mv rfl ?_
 refine Qn (t:=6) rfl (fun hb6=>?_) (fun hb6=>?_)
 ·
  refine QO rfl rfl rfl<|QO rfl rfl rfl<|QO rfl rfl rfl<|QO rfl rfl rfl<|JV rfl rfl<|JV rfl rfl<|JV rfl rfl<|QO rfl rfl rfl<|QA (Qi rfl rfl rfl)<|JS_nt<|WT rfl<|J_sr<|JS_as rfl<|JS_nt<|QT ?_
  exact QQ () rfl (.tmp rfl .nil) (congrArg Value.bool (by have h0:s=[]:=(by simpa using hb6);subst h0;rfl)) (fun _ _=>trivial)
 ·
  refine QL rfl rfl<|JS_mv rfl<|QL rfl rfl<|QA (J9 rfl Xh)<|QL rfl rfl<|QA (QV rfl rfl rfl)<|QL rfl rfl<|JS_mv rfl ?_
  refine Qn (t:=10) rfl (fun hb10=>?_) (fun hb10=>?_)
  ·
   refine QL rfl rfl<|JS_mv rfl<|QL rfl rfl<|QA (Vn (i:=0) rfl rfl Xh (by have:=dec_t hb10;omega))<|QL rfl rfl<|QA (QV rfl rfl rfl)<|QL rfl rfl<|QA (Qi rfl rfl rfl)<|QA (Qh rfl rfl rfl)<|QE<|QC ?_
   refine QR rfl (fun hc=>?_) (fun hc=>?_)
   ·
    refine J_sr<|JS_as rfl<|JS_nt<|QT ?_
    exact QQ () rfl (.tmp rfl .nil) (congrArg Value.bool (kc (dec_t hb10) (by have h:=hc;rw [MD (d:=48) (z:=48) rfl] at h;simpa using h))) (fun _ _=>trivial)
   ·
    refine QP<|QC<|J_sr<|JS_mv rfl<|QI rfl (fun w F hF _=>O8 hF hl) (fun _=>JS_as rfl<|JS_nt<|QT ?_)
    exact QQ () rfl (.tmp rfl .nil) (congrArg Value.bool (yL (dec_t hb10) (by have h:=hc;rw [MD (d:=48) (z:=48) rfl] at h;simpa using h))) (fun _ _=>trivial)
  ·
   refine QO rfl rfl rfl<|QO rfl rfl rfl<|QO rfl rfl rfl<|QL rfl rfl<|QA (Qh rfl rfl rfl)<|QA (Qh rfl rfl rfl)<|JS_nt<|Z8 rfl<|QP<|QC<|J_sr<|JS_mv rfl<|QI rfl (fun w F hF _=>O8 hF hl) (fun _=>JS_as rfl<|JS_nt<|QT ?_)
   exact QQ () rfl (.tmp rfl .nil) (congrArg Value.bool (kb (List.length_pos_iff.2 (by simpa using hb6)) (by have h:=dec_f hb10;omega))) (fun _ _=>trivial)
end
section
open Go.RowKit Ig
def xX (s:List UInt8):List UInt8:=if NW s<0 then s.drop 1 else if NW s=0 then s else 45::s
def BJ (s:List UInt8):Int:=if(decide (600<(O4 (numOf s)).length)||decide (600<(T8 s).length))=true then 4 else 0
theorem Bi (p:UInt8→Bool) (s:List UInt8):ahead p s≤s.length:=(List.takeWhile_sublist _).length_le
theorem AY {s:List UInt8} (h:NW s<0):0<s.length:=by
 cases s with
 |nil=>exact absurd h (by decide)
 |cons=>simp
theorem Ad {w:World} {F:Gs} {s:List UInt8} (hF:Fits F w):QZ Tryz.prog 38 [tx s] w F (.int .i64 (NW s)):=by
 refine QS.intro (G:=fun _=>True) Tryz.func38 rfl (by rfl) rfl rfl hF (fun F' hF'=>trivial)<|J_sr<|JS_as rfl<|JS_nt<|QG<|J_sr<|JS_mv rfl<|QA (K3 rfl rfl)<|QE<|QC ?_
 refine QR rfl (fun hc4=>?_) (fun hc4=>?_)
 ·
  refine J_sr<|JS_as rfl<|JS_nt<|QT ?_
  exact QQ () rfl (.tmp rfl .nil) (congrArg (Value.int .i64) (by unfold NW;rw [if_pos (by simpa using hc4)])) (fun _ _=>trivial)
 ·
  refine QP<|QC<|QG<|J_sr<|JS_mv rfl<|QA (J9 rfl MQ)<|QA (QV rfl rfl rfl)<|JS_mv rfl ?_
  refine Qn (t:=8) rfl (fun hb8=>?_) (fun hb8=>?_)
  ·
   refine QL rfl rfl<|JS_mv rfl<|QL rfl rfl<|QA (Vn (i:=0) rfl rfl MQ (by have:=dec_t hb8;omega))<|QL rfl rfl<|QA (QV rfl rfl rfl)<|QA (Qi rfl rfl rfl)<|QE<|QC ?_
   refine QR rfl (fun hc=>?_) (fun hc=>?_)
   ·
    refine J_sr<|JS_as rfl<|JS_nt<|QT ?_
    exact QQ () rfl (.tmp rfl .nil) (congrArg (Value.int .i64) (by unfold NW;rw [if_neg (by simpa using hc4),if_pos];rw [Wr (by have:=dec_t hb8;omega),← MD (z:=45) rfl];exact hc)) (fun _ _=>trivial)
   ·
    refine QP<|QC<|J_sr<|JS_as rfl<|JS_nt<|QT ?_
    exact QQ () rfl (.tmp rfl .nil) (congrArg (Value.int .i64) (by unfold NW;rw [if_neg (by simpa using hc4),if_neg];rw [Wr (by have:=dec_t hb8;omega),← MD (z:=45) rfl,hc];decide)) (fun _ _=>trivial)
  ·
   refine QO rfl rfl rfl<|QO rfl rfl rfl<|QO rfl rfl rfl<|QA (Qh rfl rfl rfl)<|JS_nt<|Z8 rfl<|QP<|QC<|J_sr<|JS_as rfl<|JS_nt<|QT ?_
   exact QQ () rfl (.tmp rfl .nil) (congrArg (Value.int .i64) (by have h0:s=[]:=(by have:=hb8;simp at this;exact this);subst h0;rfl)) (fun _ _=>trivial)
theorem y2 {w:World} {F:Gs} {s:List UInt8} (hF:Fits F w) (hl:s.length≤1000000000):QZ Tryz.prog 35 [tx s] w F (tx (xX s)):=by
 refine QS.intro (G:=fun _=>True) Tryz.func35 rfl (by rfl) rfl rfl hF (fun F' hF'=>trivial)<|J_sr<|JS_as rfl<|JS_nt<|QG<|J_sr<|JS_mv rfl<|QI rfl (fun w F hF _=>Ad hF ) (fun _=>QA (QV rfl rfl rfl)<|QE<|QC ?_)
 refine QR rfl (fun hc5=>?_) (fun hc5=>?_)
 ·
  refine J_sr<|JS_mv rfl<|QA (Kd 1 rfl rfl MQ rfl (AY (dec_t hc5)))<|JS_as rfl<|JS_nt<|QT ?_
  exact QQ () rfl (.tmp rfl .nil) (congrArg tx (by unfold xX;rw [if_pos (dec_t hc5)])) (fun _ _=>trivial)
 ·
  refine QP<|QC<|QG<|J_sr<|JS_mv rfl<|QI rfl (fun w F hF ⟨_,_⟩=>Ad hF ) (fun _=>QA (QV rfl rfl rfl)<|QE<|QC ?_)
  refine QR rfl (fun hc10=>?_) (fun hc10=>?_)
  ·
   refine J_sr<|JS_mv rfl<|JS_as rfl<|JS_nt<|QT ?_
   exact QQ () rfl (.tmp rfl .nil) (congrArg tx (by unfold xX;rw [if_neg (dec_f hc5),if_pos (by simpa using hc10)])) (fun _ _=>trivial)
  ·
   refine QP<|QC<|J_sr<|JS_mv rfl<|QA (Zc rfl rfl (by simp;omega))<|JS_as rfl<|JS_nt<|QT ?_
   exact QQ () rfl (.tmp rfl .nil) (congrArg tx (by unfold xX;rw [if_neg (dec_f hc5),if_neg (by simpa using hc10)];rfl)) (fun _ _=>trivial)
theorem gq {w:World} {F:Gs} {s:List UInt8} (hF:Fits F w):QZ Tryz.prog 33 [tx s] w F (tx (O4 s)):=by
 refine QS.intro (G:=fun _=>True) Tryz.func33 rfl (by rfl) rfl rfl hF (fun F' hF'=>trivial)<|J_sr<|JS_as rfl<|JS_nt<|QG<|J_sr<|JS_mv rfl<|QI rfl (fun w F hF _=>Ad hF ) (fun _=>QA (QV rfl rfl rfl)<|QE<|QC ?_)
 refine QR rfl (fun hc=>?_) (fun hc=>?_)
 ·
  refine J_sr<|JS_mv rfl<|QA (Kd 1 rfl rfl MQ rfl (AY (dec_t hc)))<|JS_as rfl<|JS_nt<|QT ?_
  exact QQ () rfl (.tmp rfl .nil) (congrArg tx (by unfold O4;rw [if_pos (dec_t hc)])) (fun _ _=>trivial)
 ·
  refine QP<|QC<|J_sr<|JS_mv rfl<|JS_as rfl<|JS_nt<|QT ?_
  exact QQ () rfl (.tmp rfl .nil) (congrArg tx (by unfold O4;rw [if_neg (dec_f hc)])) (fun _ _=>trivial)
theorem yx {w:World} {F:Gs} {s:List UInt8} (hF:Fits F w) (hl:s.length≤1000000000):QZ Tryz.prog 36 [tx s] w F (.bool (ahead XS s==s.length)):=by
 refine QS.intro (G:=fun _=>True) Tryz.func36 rfl (by rfl) rfl rfl hF (fun F' hF'=>trivial)<|J_sr<|JS_as rfl<|JS_nt<|J_sr<|JS_mv rfl<|QI rfl (fun w F hF _=>BA hF hl) (fun _=>JS_mv rfl<|QA (J9 rfl MQ)<|QA (QV rfl rfl rfl)<|JS_as rfl<|JS_nt<|QT ?_)
 exact QQ () rfl (.tmp rfl .nil) (congrArg Value.bool (by rw [Bool.eq_iff_iff];simp;try omega)) (fun _ _=>trivial)
theorem gn {w:World} {F:Gs} {s:List UInt8} (hF:Fits F w) (hl:s.length≤1000000000):QZ Tryz.prog 204 [tx s] w F (tx (numOf s)):=by
 refine QS.intro (G:=fun _=>True) Tryz.func204 rfl (by rfl) rfl rfl hF (fun F' hF'=>trivial)<|J_sr<|JS_as rfl<|JS_nt<|J_sr<|JS_mv rfl<|JS_mv rfl<|QI rfl (fun w F hF _=>BA hF hl) (fun _=>QA (Gx (ahead XS s) rfl rfl MQ rfl (Bi _ _))<|JS_as rfl<|JS_nt<|QT ?_)
 exact QQ () rfl (.tmp rfl .nil) (rfl) (fun _ _=>trivial)
theorem gp {w:World} {F:Gs} {s:List UInt8} (hF:Fits F w) (hl:s.length≤1000000000):QZ Tryz.prog 205 [tx s] w F (tx (T8 s)):=by
 refine QS.intro (G:=fun _=>True) Tryz.func205 rfl (by rfl) rfl rfl hF (fun F' hF'=>trivial)<|J_sr<|JS_as rfl<|JS_nt<|J_sr<|JS_mv rfl<|QI rfl (fun w F hF _=>BA hF hl) (fun _=>JS_as rfl<|JS_nt<|QG<|J_sr<|JS_mv rfl<|JS_mv rfl<|QA (J9 rfl MQ)<|QA (QV rfl rfl rfl)<|QE<|QC ?_)
 refine QR rfl (fun hc=>?_) (fun hc=>?_)
 ·
  refine J_sr<|JS_as rfl<|JS_nt<|QT ?_
  exact QQ () rfl (.tmp rfl .nil) (congrArg tx (by unfold T8;rw [if_pos (by simp at hc;omega)])) (fun _ _=>trivial)
 ·
  refine QP<|QC<|J_sr<|JS_mv rfl<|JS_mv rfl<|QA (Qu rfl rfl (by have:=Bi XS s;omega))<|QA (Kd (ahead XS s+1) rfl rfl MQ rfl (by have:=Bi XS s;simp at hc;omega))<|JS_as rfl<|JS_nt<|QT ?_
  exact QQ () rfl (.tmp rfl .nil) (congrArg tx (by unfold T8;rw [if_neg (by simp at hc;omega)])) (fun _ _=>trivial)
theorem y3 {w:World} {F:Gs} {s:List UInt8} (hF:Fits F w) (hl:s.length≤1000000000):QZ Tryz.prog 124 [tx s] w F (.int .i64 (BJ s)):=by
 refine QS.intro (G:=fun _=>True) Tryz.func124 rfl (by rfl) rfl rfl hF (fun F' hF'=>trivial)<|J_sr<|JS_as rfl<|JS_nt<|QG<|J_sr<|JS_mv rfl<|QI rfl (fun w F hF _=>gn hF hl) (fun _=>QI rfl (fun w F hF ⟨_,_⟩=>gq hF ) (fun _=>QA (J9 rfl MQ)<|QA (QV rfl rfl rfl)<|JS_mv rfl ?_))
 refine Qn (t:=8) rfl (fun hb8=>?_) (fun hb8=>?_)
 ·
  refine QO rfl rfl rfl<|QO rfl rfl rfl<|QO rfl rfl rfl<|QO rfl rfl rfl<|QA (Qi rfl rfl rfl)<|JS_nt<|WT rfl<|J_sr<|JS_as rfl<|JS_nt<|QT ?_
  exact QQ () rfl (.tmp rfl .nil) (congrArg (Value.int .i64) (by have h:=dec_t hb8;unfold BJ;rw [if_pos (by rw [decide_eq_true (by omega)];rfl)])) (fun _ _=>trivial)
 ·
  refine QL rfl rfl<|JS_mv rfl<|QL rfl rfl<|QI rfl (fun w F hF ⟨⟨_,_⟩,_⟩=>gp hF hl) (fun _=>QL rfl rfl<|QA (J9 rfl MQ)<|QL rfl rfl<|QA (QV rfl rfl rfl)<|QA (Qh rfl rfl rfl)<|QE<|QC ?_)
  refine QR rfl (fun hc=>?_) (fun hc=>?_)
  ·
   refine J_sr<|JS_as rfl<|JS_nt<|QT ?_
   exact QQ () rfl (.tmp rfl .nil) (congrArg (Value.int .i64) (by have h:=dec_t hc;unfold BJ;rw [if_pos (by rw [decide_eq_true (show 600<(T8 s).length by omega),Bool.or_true])])) (fun _ _=>trivial)
  ·
   refine QP<|QC<|J_sr<|JS_as rfl<|JS_nt<|QT ?_
   exact QQ () rfl (.tmp rfl .nil) (congrArg (Value.int .i64) (by have h:=dec_f hc;have h8:=dec_f hb8;unfold BJ;rw [if_neg (by rw [decide_eq_false (by omega),decide_eq_false (by omega)];decide)])) (fun _ _=>trivial)
end
section
open Go.RowKit Ig
theorem yj {d:Nat} (h:d<10):(([48,49,50,51,52,53,54,55,56,57]:List UInt8).take (d+1)).drop d=[UInt8.ofNat (48+d)]:=by
 match d,h with
 |0,_=>rfl
 |1,_=>rfl
 |2,_=>rfl
 |3,_=>rfl
 |4,_=>rfl
 |5,_=>rfl
 |6,_=>rfl
 |7,_=>rfl
 |8,_=>rfl
 |9,_=>rfl
theorem xF {w:World} {F:Gs} {n least:Nat} (hF:Fits F w) (hn:n≤9223372036854775807) (hl:least≤1000):QZ Tryz.prog 182 [.int .i64 (n:Int),.int .i64 (least:Int)] w F (tx (NU n least)):=by
 refine QS.intro (G:=fun _=>True) Tryz.func182 rfl (by rfl) rfl rfl hF (fun F' hF'=>trivial)<|J_sr<|JS_as rfl<|JS_nt<|J_sr<|JS_as rfl<|JS_nt<|QG<|Qa<|XU (ι:=O5 n least) (fun i=>[(0,.int .i64 (i.m:Int)),(1,.int .i64 (least:Int)),(5,tx i.t)]) (fun _=>[]) (fun _ _=>True) (fun i=>i.m+(least - i.t.length)) ⟨n,[],Nat.le_refl _,by unfold NU;simp,by have:=OP hn;simp;omega⟩ ⟨rfl,rfl,rfl,trivial⟩ subl_r (fun _ h=>trivial) (fun i=>?_)
 have hle:=i.le
 have htl:=i.tl
 refine QG<|J_sr<|JS_mv rfl<|QA (QV rfl rfl rfl)<|JS_mv rfl ?_
 refine Qn (t:=8) rfl (fun hb8=>?_) (fun hb8=>?_)
 ·
  refine QO rfl rfl rfl<|QO rfl rfl rfl<|QO rfl rfl rfl<|QO rfl rfl rfl<|QA (Qi rfl rfl rfl)<|JS_nt<|WT rfl<|QP<|QC<|Qa<|J_sr<|JS_mv rfl<|QA (Kc rfl rfl (by omega) (by omega))<|JS_mv rfl<|QA (Kc rfl rfl (by omega) (by omega))<|QA (Qu rfl rfl (by omega))<|QA (MY (i.m%10) (i.m%10+1) rfl rfl rfl Xh (.inr rfl) (.inr rfl) (by omega) (by show i.m%10+1≤10;omega)) ?_
  rw [yj (Nat.mod_lt _ (by decide))]
  refine JS_mv rfl<|QA (Zc rfl rfl (by simp;omega))<|JS_as rfl<|JS_nt<|QB<|JS_mv rfl<|QA (Wb rfl rfl (by omega) (by omega) (by omega))<|JS_as rfl<|QE<|Qk ?_
  exact Qo (O5.next i (Or.inl (by have:=dec_t hb8;omega):0<i.m∨i.t.length<least)) (by show i.m / 10+(least - (i.t.length+1))<i.m+(least - i.t.length);rcases (Or.inl (by have:=dec_t hb8;omega):0<i.m∨i.t.length<least) with g | g<;>omega) ⟨rfl,rfl,rfl,trivial⟩ subl_r (fun _ h=>trivial)
 ·
  refine QL rfl rfl<|JS_mv rfl<|QL rfl rfl<|QA (J9 rfl Xh)<|QL rfl rfl<|JS_mv rfl<|QL rfl rfl<|QA (QV rfl rfl rfl)<|QA (Qh rfl rfl rfl)<|QE<|QC ?_
  refine QR rfl (fun hc=>?_) (fun hc=>?_)
  ·
   refine QP<|QC<|Qa<|J_sr<|JS_mv rfl<|QA (Kc rfl rfl (by omega) (by omega))<|JS_mv rfl<|QA (Kc rfl rfl (by omega) (by omega))<|QA (Qu rfl rfl (by omega))<|QA (MY (i.m%10) (i.m%10+1) rfl rfl rfl Xh (.inr rfl) (.inr rfl) (by omega) (by show i.m%10+1≤10;omega)) ?_
   rw [yj (Nat.mod_lt _ (by decide))]
   refine JS_mv rfl<|QA (Zc rfl rfl (by simp;omega))<|JS_as rfl<|JS_nt<|QB<|JS_mv rfl<|QA (Wb rfl rfl (by omega) (by omega) (by omega))<|JS_as rfl<|QE<|Qk ?_
   exact Qo (O5.next i (Or.inr (by have:=dec_t hc;omega):0<i.m∨i.t.length<least)) (by show i.m / 10+(least - (i.t.length+1))<i.m+(least - i.t.length);rcases (Or.inr (by have:=dec_t hc;omega):0<i.m∨i.t.length<least) with g | g<;>omega) ⟨rfl,rfl,rfl,trivial⟩ subl_r (fun _ h=>trivial)
  ·
   refine Q5 ?_
   repeat (first | refine Qd ?_ | refine QW (by rfl) ?_)
   refine Qe<|QC<|J_sr<|JS_mv rfl<|JS_as rfl<|JS_nt<|QT ?_
   exact QQ () rfl (.tmp rfl .nil) (congrArg tx (by have h1:=dec_f hb8;have h2:=dec_f hc;have h0:i.m=0:=(by omega);rw [← i.h,h0];simp [hd,VM,show least - i.t.length=0 by omega,Lib.repeatL])) (fun _ _=>trivial)
end
section
open Go.RowKit Ig
theorem vc {a b out:List Int} {c:Int} (da:DG B9 out) (hl:out.length=a.length) (hb:b.length≤a.length) (h:dv B9 out+dv B9 (b.take a.length)=dv B9 (a.take a.length)+B9^a.length*c) (h0:0≤c) (h1:c≤1) (hle:dv B9 b≤dv B9 a):dv B9 out=dv B9 a - dv B9 b:=by
 rw [List.take_length,List.take_of_length_le hb] at h
 have hlt:=Zw (b:=B9) (by decide) da
 rw [hl] at hlt
 have hc:c=0∨c=1:=by omega
 rcases hc with rfl | rfl
 ·rw [Int.mul_zero] at h;omega
 ·rw [Int.mul_one] at h;omega
theorem Ac {w:World} {F:Gs} {ra rb:Sr} {a b:List Int} (hF:Fits F w) (hA:JP F ra a) (hB:JP F rb b) (da:DG B9 a) (db:DG B9 b) (la:a.length≤100000000) (lb:b.length≤a.length) (hle:dv B9 b≤dv B9 a) :
  E7 Tryz.prog 239 [ra.v,rb.v] w F (fun l=>dv B9 l=dv B9 a - dv B9 b∧NZ l∧l.length≤a.length):=by
 obtain ⟨q,n,c⟩:=ra
 have na:=hA.2.1
 have nb:=hB.2.1
 dsimp only at na
 have h9:B9=1000000000:=rfl
 refine QS.intro (G:=fun F=>JP F ⟨q,n,c⟩ a∧JP F rb b) Tryz.func239 rfl (by rfl) rfl rfl hF (fun F' hF'=>⟨hA.le hF',hB.le hF'⟩) ?_
 dsimp only [Sr.v]
 refine J_sr<|JS_as rfl<|JS_nt<|J_sr<|JS_as rfl<|JS_nt<|J_sr<|JS_as rfl<|JS_nt<|QG<|J_sr<|JS_as rfl<|JS_nt<|Qa ?_
 refine XU (ι:=gM a b) (fun i=>[(0,.slice q n c),(1,.slice rb.q rb.n rb.cap),(5,i.v),(6,.int .i64 i.borrow),(7,.int .i64 (i.i:Int))]) (fun i=>i.ob) (fun _ F=>JP F ⟨q,n,c⟩ a∧JP F rb b) (fun i=>a.length - i.i)
  ⟨0,[],0,.slice none 0 0,[],Nat.zero_le _,rfl,DG.nil _,by decide,by decide,by simp,.nil⟩ ⟨rfl,rfl,rfl,rfl,rfl,trivial⟩ (List.nil_sublist _) (fun _ h=>h) (fun i=>?_)
 have hile:=i.le
 have hlen:=i.len
 have hc0:=i.c0
 have hc1:=i.c1
 refine QG<|J_sr<|JS_mv rfl<|JS_mv rfl<|QA (Ql rfl Qf)<|QA (QV rfl rfl rfl)<|QE<|QC ?_
 refine QR rfl (fun hc=>?_) (fun hc=>?_)
 ·
  have hi:i.i<n:=by have:=dec_t hc;omega
  have hia:i.i<a.length:=by omega
  have b1:=Rl da i.i
  have b2:=Rl db i.i
  have e1:a[i.i]=a.getD i.i 0:=by simp [hia]
  refine Xz _ (fun w F hF h=>h.1.1.ptr (by dsimp only;omega)) (fun hq=>?_)
  obtain ⟨qb,qo,hq⟩:=hq
  dsimp only at hq
  subst hq
  refine QP<|QC<|QG<|Qa<|QG<|JN subl_r mixed (by kernel_rfl)<|QK (QD rfl)<|QK (QD rfl)<|QK (Qv (i:=i.i) rfl rfl Qf Qp (by omega))<|QK (XR (n:=n) (sz:=1) (cs:=a.map Qx) (u:=.int .i64 (a.getD i.i 0)) rfl Qp (fun F h=>h.1.1) (by omega) (by simp [hia,Qx]))<|QK (QD rfl)<|QK (QD rfl)<|QY rfl (fun w F hF ⟨hA,hB⟩=>PH (r:=rb) (l:=b) hF hB (by omega)) (fun _=>QK (J6 rfl rfl (by omega))<|QK (QD rfl)<|QK (J6 rfl rfl (by omega))<|QK (QF rfl)<|Q4<|QC<|J_sr<|JS_as rfl<|JS_nt<|QG ?_)
  refine J_sr<|JS_mv rfl<|QA (QV rfl rfl rfl)<|QE<|QC ?_
  refine QR rfl (fun hs=>?_) (fun hs=>?_)
  ·
   refine J_sr<|JS_mv rfl<|QA (Qu rfl rfl (by omega))<|JS_as rfl<|JS_nt<|QB<|JS_as rfl<|JS_nt<|QB<|JS_mv rfl<|JS_mv rfl<|QU rfl (Q6 Qf) Qp VQ rfl rfl (fun b31=>?_)
   refine VI (bs1:=[]) (ob:=i.ob) (k:=1) (sz:=1) (news:=[.int .i64 ((a.getD i.i 0 - b.getD i.i 0 - i.borrow)+1000000000)]) rfl rfl Qf Qp VQ rfl DF i.hr (Src.row (off:=0) (fun F h=>h.2) (fun j v hv=>by rw [Nat.zero_add];show([Value.int .i64 ((a.getD i.i 0 - b.getD i.i 0 - i.borrow)+1000000000)].toArray)[j]?=some v;rw [List.getElem?_toArray];exact hv) rfl) (by omega) (by omega) (fun u hu=>by rw [List.mem_singleton.1 hu];rfl) (fun v' ob' hr'=>?_)
   refine JS_as rfl<|QE<|Qk<|QC<|QB<|JS_mv rfl<|QA (Qu rfl rfl (by omega))<|JS_as rfl<|QE ?_
   exact Qo (⟨i.i+1,i.out++[((a.getD i.i 0 - b.getD i.i 0 - i.borrow)+1000000000)],1,v',ob',by omega,by simp [hlen],i.dg.append (DG.cons (by have:=dec_t hs;omega) (by have:=dec_t hs;rw [h9];omega) (DG.nil _)),by decide,by decide,yo hlen i.h (by rw [h9];omega),by simpa [Qx] using hr'⟩:gM a b) (by show a.length - (i.i+1)<a.length - i.i;omega) ⟨rfl,rfl,rfl,rfl,rfl,trivial⟩ subl_r (fun F h=>h.1.1)
  ·
   refine QP<|QC<|QB<|JS_mv rfl<|JS_mv rfl<|QU rfl (Q6 Qf) Qp VQ rfl rfl (fun b31=>?_)
   refine VI (bs1:=[]) (ob:=i.ob) (k:=1) (sz:=1) (news:=[.int .i64 (a.getD i.i 0 - b.getD i.i 0 - i.borrow)]) rfl rfl Qf Qp VQ rfl DF i.hr (Src.row (off:=0) (fun F h=>h.2) (fun j v hv=>by rw [Nat.zero_add];show([Value.int .i64 (a.getD i.i 0 - b.getD i.i 0 - i.borrow)].toArray)[j]?=some v;rw [List.getElem?_toArray];exact hv) rfl) (by omega) (by omega) (fun u hu=>by rw [List.mem_singleton.1 hu];rfl) (fun v' ob' hr'=>?_)
   refine JS_as rfl<|QE<|Qk<|QC<|QB<|JS_mv rfl<|QA (Qu rfl rfl (by omega))<|JS_as rfl<|QE ?_
   exact Qo (⟨i.i+1,i.out++[(a.getD i.i 0 - b.getD i.i 0 - i.borrow)],0,v',ob',by omega,by simp [hlen],i.dg.append (DG.cons (by have:=dec_f hs;omega) (by have:=dec_f hs;rw [h9];omega) (DG.nil _)),by decide,by decide,yo hlen i.h (by rw [h9];omega),by simpa [Qx] using hr'⟩:gM a b) (by show a.length - (i.i+1)<a.length - i.i;omega) ⟨rfl,rfl,rfl,rfl,rfl,trivial⟩ subl_r (fun F h=>h.1.1)
 ·
  refine Q5 ?_
  repeat (first | refine Qd ?_ | refine QW (by rfl) ?_)
  refine Qe<|QC<|QG ?_
  obtain ⟨r,hv,hrn,hrc,hfix⟩:=Q3.fix (w0:=w) (F0:=F) (bs1:=[]) (G:=fun F=>JP F ⟨q,n,c⟩ a∧JP F rb b) i.hr
  have hex:i.i=a.length:=by have:=dec_f hc;omega
  have hlz:=Xq i.out
  refine T9 hfix ?_
  rw [hv]
  refine QB<|JS_mv rfl<|QI rfl (fun w F hF ⟨⟨hA,hB⟩,hX⟩=>We (r:=r) (l:=i.out) hF ⟨by rw [hrn];exact hX,hrn.symm,by omega⟩ (by omega)) (fun c34=>JS_as rfl<|JS_nt<|QT ?_)
  exact QQ ((⟨r.q,(Q2 i.out).length,r.cap⟩,Q2 i.out):Sr×List Int) rfl (.tmp rfl .nil) rfl (fun F h=>⟨h.2,i.dg.Q2,by show dv B9 (Q2 i.out)=_;rw [J7];exact vc i.dg (by omega) lb (by have e:=i.h;rw [hex] at e;exact e) hc0 hc1 hle,Xa _,by show(Q2 i.out).length≤_;omega⟩)
end
section
open Go.RowKit Ig
section
variable {P:Program} {N:Nat} {m:Sl} {S:World→Prop} {ty:TypeId}
def CE (P:Program) (T:TypeId):Bool:=match P.underlying T with
 |some .bool=>true
 |_=>false
theorem gL {T:TypeId} (h:CE P T=true):P.underlying T=some .bool:=by
 unfold CE at h;split at h
 ·assumption
 ·cases h
theorem LK {T:TypeId} (hT:CE P T=true) (a b:Bool) (w:World):(Op.equal T (.bool a) (.bool b)).run P w = .ok (a==b) w:=by
 have e:∃ n,Op.maxDepth=n+1:=⟨Op.maxDepth - 1,by decide⟩
 obtain ⟨n,e⟩:=e
 unfold Op.equal
 rw [e]
 unfold Op.equalIn
 simp [run_underlying (gL hT)]
theorem gu {T yT:TypeId} {x y:Operand} {a b:Bool} (hT:CE P T=true) (hx:ev m x=some (.bool a)) (hy:ev m y=some (.bool b)):Qt P N m S (.binOp .eql T x y yT) ty (.bool (a==b)):=fun s w _ _ _ _ ha _=>by
 simp only [execOp,ha.ev hx,ha.ev hy,eqGuard,binOp,Sem.run_bind,Sem.run_pure,Result.andThen_ok,LK hT]
 rfl
theorem y8 {T yT:TypeId} {x y:Operand} {a b:Bool} (hT:CE P T=true) (hx:ev m x=some (.bool a)) (hy:ev m y=some (.bool b)):Qt P N m S (.binOp .neq T x y yT) ty (.bool (!(a==b))):=fun s w _ _ _ _ ha _=>by
 simp only [execOp,ha.ev hx,ha.ev hy,eqGuard,binOp,Sem.run_bind,Sem.run_pure,Result.andThen_ok,LK hT]
 rfl
end
theorem qW:CE Tryz.prog 4=true:=by kernel_rfl
theorem gI {x y:Int} (h:ZO x y≥0):y≤x:=by
 unfold ZO at h;split at h
 ·omega
 ·split at h<;>omega
theorem jJ {w:World} {F:Gs} {x:Ri} {zx:Int} (hF:Fits F w) (hx:VP F x zx) (hz:sz zx≤1000000):G2 Tryz.prog 179 [x.v] w F (-zx):=by
 obtain ⟨xn,⟨xq,xm,xc⟩,xl⟩:=x
 have px:=hx.p
 have lx:=px.len
 have kx:=hx.1.2.1
 have vx:=px.v0
 dsimp only at px lx kx vx
 dsimp only [Ri.v]
 have eqn : -zx=G9 (!xn) xl:=by rw [px.e];cases xn<;>simp [G9]
 refine QS.intro (G:=fun F=>VP F ⟨xn,⟨xq,xm,xc⟩,xl⟩ zx) Tryz.func179 rfl (by rfl) rfl rfl hF (fun F' hF'=>hx.le hF')<|J_sr<|Qw rfl (vs:=[_,_]) rfl (fun b1=>Qb Z6 (fun b2=>JS_nt<|J_sr<|QA (QH rfl KO Vy)<|QA (Qj rfl Vy (.there .here) (.here .nil))<|QA (Yt rfl)<|QA (QH rfl Z1 Qz)<|QA (Qj rfl Qz (.there .here) (.skip (.here .nil)))<|QI rfl (fun w F hF hx=>Zy hF (r:=⟨xq,xm,xc⟩) (l:=xl) (neg:=!xn) hx.1 (px.dg) (by omega)) (fun c8=>QN (vs:=[_,_]) rfl rfl rfl JH rfl .here (.here (.here .nil)) ⟨rfl,rfl,trivial⟩<|JS_nt<|QT ?_)))
 exact QQ (c8) rfl (.JU (c:=[_,_]) rfl JH .here .nil) (rfl) (fun F ⟨hx,h8⟩=>(by rw [eqn];exact h8))
theorem Gn {w:World} {F:Gs} {x y:Ri} {zx zy:Int} (hF:Fits F w) (hx:VP F x zx) (hy:VP F y zy) (hzx:sz zx≤1000000) (hzy:sz zy≤1000000):G2 Tryz.prog 178 [x.v,y.v] w F (zx*zy):=by
 obtain ⟨xn,⟨xq,xm,xc⟩,xl⟩:=x
 have px:=hx.p
 have lx:=px.len
 have kx:=hx.1.2.1
 have vx:=px.v0
 dsimp only at px lx kx vx
 obtain ⟨yn,⟨yq,ym,yc⟩,yl⟩:=y
 have py:=hy.p
 have ly:=py.len
 have ky:=hy.1.2.1
 have vy:=py.v0
 dsimp only at py ly ky vy
 dsimp only [Ri.v]
 refine QS.intro (G:=fun F=>VP F ⟨xn,⟨xq,xm,xc⟩,xl⟩ zx∧VP F ⟨yn,⟨yq,ym,yc⟩,yl⟩ zy) Tryz.func178 rfl (by rfl) rfl rfl hF (fun F' hF'=>⟨hx.le hF',hy.le hF'⟩)<|J_sr<|Qw rfl (vs:=[_,_]) rfl (fun b2=>Qw rfl (vs:=[_,_]) rfl (fun b3=>Qb Z6 (fun b4=>JS_nt<|QG<|JN (.cons _ (.cons_cons _ (.cons_cons _ .slnil))) mixed (by kernel_rfl)<|QK (QH rfl KO Vy)<|QK (Qj rfl Vy (.there .here) (.here .nil))<|QK (QH rfl KO Vy)<|QK (Qj rfl Vy .here (.here .nil))<|QK (y8 qW rfl rfl)<|QK (QH rfl Z1 Qz)<|QK (Qj rfl Qz (.there .here) (.skip (.here .nil)))<|QK (QH rfl Z1 Qz)<|QK (Qj rfl Qz .here (.skip (.here .nil))) ?_)))
 refine QY rfl (fun w F hF ⟨hx,hy⟩=>GI hF (a:=xl) (b:=yl) (ra:=⟨xq,xm,xc⟩) (rb:=⟨yq,ym,yc⟩) hx.1 (hy.1) (px.dg) (py.dg) (by omega) (by first | omega | (simp;done) | (simp;omega))) (fun c14=>?_);rcases c14 with ⟨v14,l14⟩;dsimp only
 refine E4 _ (fun w F hF ⟨⟨hx,hy⟩,⟨h14,h14p⟩⟩=>And.intro h14.2 h14p) (fun p14=>?_)
 have eqn:zx*zy=G9 (!(xn==yn)) l14:=by
  have e14:=p14.2.2.1
  rw [px.e,py.e];unfold G9;rw [e14];cases xn<;>cases yn<;>simp [Int.mul_neg,Int.neg_mul]
 have m14:=p14.2.2.2.2
 refine QY rfl (fun w F hF ⟨⟨hx,hy⟩,⟨h14,h14p⟩⟩=>Zy hF (r:=v14) (l:=l14) (neg:=!(xn==yn)) h14 (p14.2.1) (by omega)) (fun c15=>Q7 (vs:=[_,_]) rfl rfl rfl JH rfl .here (.cons_cons _ (.cons_cons _ .slnil)) (fun _ h=>h.1.1) (.here (.here .nil)) ⟨rfl,rfl,trivial⟩<|Q4<|QC<|QT ?_)
 exact QQ (c15) rfl (.JU (c:=[_,_]) rfl JH .here .nil) (rfl) (fun F ⟨⟨⟨hx,hy⟩,⟨h14,h14p⟩⟩,h15⟩=>(by rw [eqn];exact h15))
theorem zS {w:World} {F:Gs} {x y:Ri} {zx zy:Int} (hF:Fits F w) (hx:VP F x zx) (hy:VP F y zy) (hzx:sz zx≤1000000) (hzy:sz zy≤1000000):G2 Tryz.prog 177 [x.v,y.v] w F (zx+zy):=by
 obtain ⟨xn,⟨xq,xm,xc⟩,xl⟩:=x
 have px:=hx.p
 have lx:=px.len
 have kx:=hx.1.2.1
 have vx:=px.v0
 dsimp only at px lx kx vx
 obtain ⟨yn,⟨yq,ym,yc⟩,yl⟩:=y
 have py:=hy.p
 have ly:=py.len
 have ky:=hy.1.2.1
 have vy:=py.v0
 dsimp only at py ly ky vy
 dsimp only [Ri.v]
 refine QS.intro (G:=fun F=>VP F ⟨xn,⟨xq,xm,xc⟩,xl⟩ zx∧VP F ⟨yn,⟨yq,ym,yc⟩,yl⟩ zy) Tryz.func177 rfl (by rfl) rfl rfl hF (fun F' hF'=>⟨hx.le hF',hy.le hF'⟩)<|J_sr<|Qw rfl (vs:=[_,_]) rfl (fun b2=>Qw rfl (vs:=[_,_]) rfl (fun b3=>Qb Z6 (fun b4=>JS_nt<|QG<|J_sr<|QA (QH rfl KO Vy)<|QA (Qj rfl Vy (.there (.there .here)) (.here .nil))<|QA (QH rfl KO Vy)<|QA (Qj rfl Vy (.there .here) (.here .nil))<|QA (gu qW rfl rfl)<|QE<|QC ?_)))
 refine QR rfl (fun hc=>?_) (fun hc=>?_)
 ·
  have hne:xn=yn:=by simpa using hc
  refine QG<|JN (.cons _ (.cons_cons _ (.cons_cons _ .slnil))) mixed (by kernel_rfl)<|QK (QH rfl KO Vy)<|QK (Qj rfl Vy (.there .here) (.here .nil))<|QK (QH rfl Z1 Qz)<|QK (Qj rfl Qz (.there .here) (.skip (.here .nil)))<|QK (QH rfl Z1 Qz)<|QK (Qj rfl Qz .here (.skip (.here .nil))) ?_
  refine QY rfl (fun w F hF ⟨hx,hy⟩=>EV hF (a:=xl) (b:=yl) (ra:=⟨xq,xm,xc⟩) (rb:=⟨yq,ym,yc⟩) hx.1 (hy.1) (px.dg) (py.dg) (by omega) (by first | omega | (simp;done) | (simp;omega))) (fun c16=>?_);rcases c16 with ⟨v16,l16⟩;dsimp only
  refine E4 _ (fun w F hF ⟨⟨hx,hy⟩,⟨h16,h16p⟩⟩=>And.intro h16.2 h16p) (fun p16=>?_)
  have eqn:zx+zy=G9 xn l16:=by
   have e16:=p16.2.2.1
   rw [px.e,py.e,hne];unfold G9;rw [e16];cases yn<;>simp<;>omega
  have m16:=p16.2.2.2
  refine QY rfl (fun w F hF ⟨⟨hx,hy⟩,⟨h16,h16p⟩⟩=>Zy hF (r:=v16) (l:=l16) (neg:=xn) h16 (p16.2.1) (by omega)) (fun c17=>Q7 (vs:=[_,_]) rfl rfl rfl JH rfl .here (.cons_cons _ (.cons_cons _ .slnil)) (fun _ h=>h.1.1) (.here (.here .nil)) ⟨rfl,rfl,trivial⟩<|Q4<|QC<|QT ?_)
  exact QQ (c17) rfl (.JU (c:=[_,_]) rfl JH .here .nil) (rfl) (fun F ⟨⟨⟨hx,hy⟩,⟨h16,h16p⟩⟩,h17⟩=>(by rw [eqn];exact h17))
 ·
  have hne:xn=!yn:=by cases xn<;>cases yn<;>simp_all
  refine QP<|QC<|QG<|J_sr<|QA (QH rfl Z1 Qz)<|QA (Qj rfl Qz (.there (.there .here)) (.skip (.here .nil)))<|QA (QH rfl Z1 Qz)<|QA (Qj rfl Qz (.there .here) (.skip (.here .nil)))<|QI rfl (fun w F hF ⟨hx,hy⟩=>GK hF (a:=xl) (b:=yl) (ra:=⟨xq,xm,xc⟩) (rb:=⟨yq,ym,yc⟩) hx.1 (hy.1) (px.dg) (py.dg) (px.nz) (py.nz) (by omega) (by omega)) (fun _=>QA (QV rfl rfl rfl)<|QE<|QC ?_)
  refine QR rfl (fun hc=>?_) (fun hc=>?_)
  ·
   have hle:dv B9 yl≤dv B9 xl:=gI (dec_t hc)
   have hll:=Ww py.dg px.dg py.nz hle
   refine QG<|JN (.cons _ (.cons_cons _ (.cons_cons _ .slnil))) mixed (by kernel_rfl)<|QK (QH rfl KO Vy)<|QK (Qj rfl Vy (.there .here) (.here .nil))<|QK (QH rfl Z1 Qz)<|QK (Qj rfl Qz (.there .here) (.skip (.here .nil)))<|QK (QH rfl Z1 Qz)<|QK (Qj rfl Qz .here (.skip (.here .nil))) ?_
   refine QY rfl (fun w F hF ⟨⟨hx,hy⟩,_⟩=>Ac hF (a:=xl) (b:=yl) (ra:=⟨xq,xm,xc⟩) (rb:=⟨yq,ym,yc⟩) hx.1 (hy.1) (px.dg) (py.dg) (by omega) (by omega) (hle)) (fun c30=>?_);rcases c30 with ⟨v30,l30⟩;dsimp only
   refine E4 _ (fun w F hF ⟨⟨⟨hx,hy⟩,_⟩,⟨h30,h30p⟩⟩=>And.intro h30.2 h30p) (fun p30=>?_)
   have eqn:zx+zy=G9 xn l30:=by
    have e30:=p30.2.2.1
    rw [px.e,py.e,hne];unfold G9;rw [e30];cases yn<;>simp<;>omega
   have m30:=p30.2.2.2
   refine QY rfl (fun w F hF ⟨⟨⟨hx,hy⟩,_⟩,⟨h30,h30p⟩⟩=>Zy hF (r:=v30) (l:=l30) (neg:=xn) h30 (p30.2.1) (by omega)) (fun c31=>Q7 (vs:=[_,_]) rfl rfl rfl JH rfl .here (.cons_cons _ (.cons_cons _ .slnil)) (fun _ h=>h.1.1) (.here (.here .nil)) ⟨rfl,rfl,trivial⟩<|Q4<|QC<|QT ?_)
   exact QQ (c31) rfl (.JU (c:=[_,_]) rfl JH .here .nil) (rfl) (fun F ⟨⟨⟨⟨hx,hy⟩,_⟩,⟨h30,h30p⟩⟩,h31⟩=>(by rw [eqn];exact h31))
  ·
   have hle:dv B9 xl≤dv B9 yl:=ju (dec_f hc)
   have hll:=Ww px.dg py.dg px.nz hle
   refine QP<|QC<|QG<|JN (.cons _ (.cons_cons _ (.cons_cons _ .slnil))) mixed (by kernel_rfl)<|QK (QH rfl KO Vy)<|QK (Qj rfl Vy .here (.here .nil))<|QK (QH rfl Z1 Qz)<|QK (Qj rfl Qz .here (.skip (.here .nil)))<|QK (QH rfl Z1 Qz)<|QK (Qj rfl Qz (.there .here) (.skip (.here .nil))) ?_
   refine QY rfl (fun w F hF ⟨⟨hx,hy⟩,_⟩=>Ac hF (a:=yl) (b:=xl) (ra:=⟨yq,ym,yc⟩) (rb:=⟨xq,xm,xc⟩) hy.1 (hx.1) (py.dg) (px.dg) (by omega) (by omega) (hle)) (fun c38=>?_);rcases c38 with ⟨v38,l38⟩;dsimp only
   refine E4 _ (fun w F hF ⟨⟨⟨hx,hy⟩,_⟩,⟨h38,h38p⟩⟩=>And.intro h38.2 h38p) (fun p38=>?_)
   have eqn:zx+zy=G9 yn l38:=by
    have e38:=p38.2.2.1
    rw [px.e,py.e,hne];unfold G9;rw [e38];cases yn<;>simp<;>omega
   have m38:=p38.2.2.2
   refine QY rfl (fun w F hF ⟨⟨⟨hx,hy⟩,_⟩,⟨h38,h38p⟩⟩=>Zy hF (r:=v38) (l:=l38) (neg:=yn) h38 (p38.2.1) (by omega)) (fun c39=>Q7 (vs:=[_,_]) rfl rfl rfl JH rfl .here (.cons_cons _ (.cons_cons _ .slnil)) (fun _ h=>h.1.1) (.here (.here .nil)) ⟨rfl,rfl,trivial⟩<|Q4<|QC<|QT ?_)
   exact QQ (c39) rfl (.JU (c:=[_,_]) rfl JH .here .nil) (rfl) (fun F ⟨⟨⟨⟨hx,hy⟩,_⟩,⟨h38,h38p⟩⟩,h39⟩=>(by rw [eqn];exact h39))
end
section
open Go.RowKit Ig
theorem yK (x y:Int):Int.gcd y (x%y)=Int.gcd x y:=by
 rw [Int.gcd_comm y,Int.emod_def]
 first | rw [Int.gcd_sub_mul_left_left] | rw [Int.gcd_sub_mul_right_left] | rw [Int.gcd_sub_mul_left] | simp
theorem O9 {w:World} {F:Gs} {ra rb:Sr} {a b:List Int} (hF:Fits F w) (hA:JP F ra a) (hB:JP F rb b) (da:DG B9 a) (db:DG B9 b) (za:NZ a) (zb:NZ b) (la:a.length≤10000000) (lb:b.length≤10000000) :
  QS Tryz.prog 120 [ra.v,rb.v] w F (fun(c:Sr×List Int)=>.slice c.1.q c.1.n c.1.cap) (fun c F=>JP F c.1 c.2∧DG B9 c.2∧NZ c.2∧dv B9 c.2=(Int.gcd (dv B9 a) (dv B9 b):Int)):=by
 refine QS.intro (G:=fun F=>JP F ra a∧JP F rb b) Tryz.func120 rfl (by rfl) rfl rfl hF (fun F' hF'=>⟨hA.le hF',hB.le hF'⟩)<|J_sr<|JS_as rfl<|JS_nt<|QG<|Qa<|Jz (ι:=pJ (dv B9 a) (dv B9 b)) [] (fun i=>[(0,.slice i.ra.q i.ra.n i.ra.cap),(1,.slice i.rb.q i.rb.n i.rb.cap)]) (fun i=>[]) (fun i F=>JP F i.ra i.a∧JP F i.rb i.b) (fun i=>(dv B9 i.b).toNat) (⟨ra,rb,a,b,da,db,za,zb,la,lb,hB.2.1,rfl⟩) trivial ⟨rfl,rfl,trivial⟩ subl_r (fun F h=>h) (fun i=>?_)
 simp only [List.cons_append,List.nil_append]
 have hla:=i.la
 have hlb:=i.lb
 have hnb:=i.nb
 refine QG<|J_sr<|JS_mv rfl<|QA (Ql rfl Qf)<|QA (QV rfl rfl rfl)<|QE<|QC ?_
 refine QR rfl (fun hc=>?_) (fun hc=>?_)
 ·
  have hpos:0<dv B9 i.b:=by
   have h1:=Yh VV i.db i.zb
   have h2:=Qs JE i.db
   rw [← List.length_eq_zero_iff] at h1
   have:=dec_t hc
   omega
  have hm0:=Int.emod_nonneg (dv B9 i.a) (Int.ne_of_gt hpos)
  have hm1:=Int.emod_lt_of_pos (dv B9 i.a) hpos
  refine QP<|QC<|Qa<|J_sr<|JS_mv rfl<|JS_mv rfl<|QI rfl (fun w F hF ⟨⟨hA,hB⟩,⟨hR1,hR2⟩⟩=>GJ hF (a:=i.a) (b:=i.b) (ra:=i.ra) (rb:=i.rb) hR1 (hR2) (i.da) (i.db) (i.za) (i.zb) (hpos) (by omega) (by omega)) (fun c13=>JS_mv rfl<|QA (QM rfl rfl)<|QA (QM rfl rfl)<|JS_as rfl<|JS_as rfl<|JS_nt<|Xz _ (fun w F hF h=>And.intro h.2.2.2 h.2.2.1.2.1) (fun q13=>?_))
  obtain ⟨q13,n13⟩:=q13
  refine QB<|JS_mv rfl<|JS_mv rfl<|JS_as rfl<|JS_as rfl<|QE<|Qk ?_
  exact Qo (⟨i.rb,c13.2.1,i.b,c13.2.2,i.db,q13.1,i.zb,q13.2.1,i.lb,by have:=Ww q13.1 i.db q13.2.1 (by rw [q13.2.2];omega);omega,n13,by rw [q13.2.2,yK];exact i.h⟩) (by show(dv B9 c13.2.2).toNat<(dv B9 i.b).toNat;rw [q13.2.2];omega) ⟨rfl,rfl,trivial⟩ subl_r (fun F ⟨⟨⟨hA,hB⟩,⟨hR1,hR2⟩⟩,h13⟩=>⟨⟨hA,hB⟩,⟨hR2,h13.2.1⟩⟩)
 ·
  have hz:i.b=[]:=by
   have:=dec_f hc
   exact List.eq_nil_of_length_eq_zero (by omega)
  refine Q5 ?_
  repeat (first | refine Qd ?_ | refine QW (by rfl) ?_)
  refine Qe<|QC<|J_sr<|JS_mv rfl<|JS_as rfl<|JS_nt<|QT ?_
  exact QQ ((i.ra,i.a):Sr×List Int) rfl (.tmp rfl .nil) (rfl) (fun F ⟨⟨hA,hB⟩,⟨hR1,hR2⟩⟩=>⟨hR1,i.da,i.za,by have e:=i.h;rw [hz,Tg,Int.gcd_zero_right] at e;have:=Qs JE i.da;show dv B9 i.a=_;omega⟩)
end
section
open Go.RowKit Ig
theorem NX {w:World} {F:Gs} {x:Int} {least:Nat} (hF:Fits F w) (h0:0≤x) (hn:x≤9223372036854775807) (hl:least≤1000):QZ Tryz.prog 182 [.int .i64 x,.int .i64 (least:Int)] w F (tx (NU x.toNat least)):=by
 have:=xF (n:=x.toNat) (least:=least) hF (by omega) hl
 rw [Int.toNat_of_nonneg h0] at this;exact this
theorem Im {w:World} {F:Gs} {x:Ri} {zx:Int} (hF:Fits F w) (hx:VP F x zx) (hz:sz zx≤1000000):QZ Tryz.prog 192 [x.v] w F (tx (Xu zx)):=by
 obtain ⟨xn,⟨xq,xm,xc⟩,xl⟩:=x
 have px:=hx.p
 have lx:=px.len
 have kx:=hx.1.2.1
 have vx:=px.v0
 dsimp only at px lx kx vx
 dsimp only [Ri.v]
 have h9:B9=1000000000:=rfl
 refine QS.intro (G:=fun F=>VP F ⟨xn,⟨xq,xm,xc⟩,xl⟩ zx) Tryz.func192 rfl (by rfl) rfl rfl hF (fun F' hF'=>hx.le hF')<|J_sr<|Qw rfl (vs:=[_,_]) rfl (fun b1=>JS_as rfl<|JS_nt<|QG<|J_sr<|QA (QH rfl Z1 Qz)<|QA (Qj rfl Qz .here (.skip (.here .nil)))<|QA (Ql rfl Qf)<|QA (QV rfl rfl rfl)<|QE<|QC ?_)
 refine QR rfl (fun hc=>?_) (fun hc=>?_)
 ·
  have hx0:zx=0:=(px.zero).1 (List.eq_nil_of_length_eq_zero (by have:=hc;simp at this;omega))
  refine J_sr<|JS_as rfl<|JS_nt<|QT ?_
  exact QQ (()) rfl (.tmp rfl .nil) (by rw [hx0,Jx (by decide)];exact congrArg (fun l=>tx l) Zt) (fun F hx=>trivial)
 ·
  have hl0:0<xl.length:=by
   rcases Nat.eq_zero_or_pos xm with g | g
   ·rw [g] at hc;simp at hc
   ·omega
  obtain ⟨d1,d2⟩:=Gz px.dg px.nz hl0
  have b0:=px.dg.Qg JE (xl.length - 1)
  rw [h9] at b0
  refine QP<|QC<|J_sr<|QA (QH rfl Z1 Qz)<|QA (Qj rfl Qz .here (.skip (.here .nil)))<|QA (QH rfl Z1 Qz)<|QA (Qj rfl Qz .here (.skip (.here .nil)))<|QA (Ql rfl Qf)<|QA (J6 rfl rfl (by omega))<|QA (Ja (n:=xm) (xl.length - 1) (fun F hx=>(hx.1).1) rfl (congrArg (fun z:Int=>some (Value.int .i64 z)) (by omega)) Qf Qp (by omega))<|QA (Jk (n:=xm) ((xl.length - 1)*1) (fun F hx=>(hx.1).1) (by omega) rfl Qp (JO (o:=xl) (by omega)))<|QI rfl (fun w F hF hx=>NX hF (least:=1) (by omega) (by omega) (by omega)) (fun _=>JS_as rfl<|JS_nt<|QG<|J_sr<|QA (QH rfl Z1 Qz)<|QA (Qj rfl Qz .here (.skip (.here .nil)))<|QA (Ql rfl Qf)<|QA (J6 rfl rfl (by omega))<|JS_as rfl<|QE ?_)
  refine QC<|Qa<|Z3 (ι:=qh xl) [(1,_)] (fun i=>[(3,tx i.s),(4,.int .i64 ((i.k:Int) - 1))]) (fun i=>i.k) (qh.start px.dg px.nz hl0) ⟨rfl,trivial⟩ ⟨rfl,(congrArg (fun z:Int=>some (Value.int .i64 z)) (by simp only [qh.start];omega)),trivial⟩ (fun i=>?_)
  simp only [List.cons_append,List.nil_append]
  have hle:=i.le
  have hsl:=i.sl
  refine QG<|J_sr<|JS_mv rfl<|QA (QV rfl rfl rfl)<|QE<|QC ?_
  refine QR rfl (fun hc=>?_) (fun hc=>?_)
  ·
   have hk0:0<i.k:=by have:=dec_t hc;omega
   have b1:=px.dg.Qg JE (i.k - 1)
   rw [h9] at b1
   have ln:=DX (n:=(Qg xl (i.k - 1)).toNat) (by omega)
   refine QP<|QC<|QG<|Qa<|QB<|JS_mv rfl<|QA (QH rfl Z1 Qz)<|QA (Qj rfl Qz .here (.skip (.here .nil)))<|JS_mv rfl<|QA (Ja (n:=xm) (i.k - 1) (fun F ⟨hx,_⟩=>(hx.1).1) rfl (congrArg (fun z:Int=>some (Value.int .i64 z)) (by omega)) Qf Qp (by omega))<|QA (Jk (n:=xm) ((i.k - 1)*1) (fun F ⟨hx,_⟩=>(hx.1).1) (by omega) rfl Qp (JO (o:=xl) (by omega)))<|QI rfl (fun w F hF ⟨hx,_⟩=>NX hF (least:=9) (by omega) (by omega) (by omega)) (fun _=>QA (Zc rfl rfl (by omega))<|JS_as rfl<|QE<|Qk<|QC<|QB<|JS_mv rfl<|QA (J6 rfl rfl (by omega))<|JS_as rfl<|QE ?_)
   exact Qo (i.next px.dg hk0) (by show i.k - 1<i.k;omega) ⟨rfl,rfl,(congrArg (fun z:Int=>some (Value.int .i64 z)) (by simp only [qh.next];omega)),trivial⟩ subl_r (fun F h=>h.1)
  ·
   have hk0:i.k=0:=by have:=dec_f hc;omega
   have hi:=i.h
   rw [hk0,List.drop_zero] at hi
   have ha:=px.abs
   refine Q5 ?_
   repeat (first | refine Qd ?_ | refine QW (by rfl) ?_)
   refine Qe<|QC<|QG<|J_sr<|QA (QH rfl KO Vy)<|QA (Qj rfl Vy .here (.here .nil))<|QE<|QC ?_
   refine QR rfl (fun hc=>?_) (fun hc=>?_)
   ·
    have hneg:zx<0:=by have:=px.neg;rw [hc] at this;exact dec_t this.symm
    refine J_sr<|JS_mv rfl<|QA (Zc rfl rfl (by simp;omega))<|JS_as rfl<|JS_nt<|QT ?_
    exact QQ (()) rfl (.tmp rfl .nil) (by rw [YB hneg,hi];exact congrArg (fun n=>tx (45::Lib.decDigits n)) (by omega)) (fun F ⟨hx,_⟩=>trivial)
   ·
    have hneg:¬ zx<0:=by have:=px.neg;rw [hc] at this;exact dec_f this.symm
    refine QP<|QC<|J_sr<|JS_mv rfl<|JS_as rfl<|JS_nt<|QT ?_
    exact QQ (()) rfl (.tmp rfl .nil) (by rw [Jx (by omega),hi];exact congrArg (fun n=>tx (Lib.decDigits n)) (by omega)) (fun F ⟨hx,_⟩=>trivial)
end
section
open Go.RowKit Ig
theorem gE {n d:Int} (h:0<d) {neg:Bool} {l p:List Int} (hn:Vw neg l n) (hp:dv B9 p=dv B9 l / (Int.gcd n d:Int)):G9 neg p=(Rat.divInt n d).num:=by
 rw [(Kh h).1]
 have hg:(0:Int)<(Int.gcd n d:Int):=by have:=WG (x:=n) h;omega
 obtain ⟨k,hk⟩:=Int.gcd_dvd_left (a:=n) (b:=d)
 have e:=hn.e
 have hv:=hn.v0
 unfold G9 at e ⊢
 rw [hp]
 cases neg with
 |true =>
  simp only [if_true] at e ⊢
  have e2:dv B9 l=(Int.gcd n d:Int)*(-k):=by rw [Int.mul_neg,← hk];omega
  rw [e2,Int.mul_ediv_cancel_left _ (by omega)]
  have e3:n / (Int.gcd n d:Int)=k:=by
   conv=>lhs;lhs;rw [hk]
   exact Int.mul_ediv_cancel_left _ (by omega)
  rw [e3];omega
 |false =>
  simp only [Bool.false_eq_true,if_false] at e ⊢
  rw [← e]
theorem gF {n d:Int} (h:0<d) {neg:Bool} {l p:List Int} (hn:Vw neg l d) (hp:dv B9 p=dv B9 l / (Int.gcd n d:Int)):dv B9 p=((Rat.divInt n d).den:Int):=by
 rw [(Kh h).2,hp]
 have:=hn.abs
 congr 1;omega
theorem jm {n d:Int} {a b:Bool} {l m:List Int} (hn:Vw a l n) (hd:Vw b m d):Int.gcd (dv B9 l) (dv B9 m)=Int.gcd n d:=by
 rw [← hn.abs,← hd.abs];simp [Int.gcd]
theorem js (x y:Int):Rat.divInt (-x) (-y)=Rat.divInt x y:=Rat.neg_divInt_neg x y
theorem L2 {l:List Int} (h:DG B9 l) (hz:NZ l):(l.length=1∧Qg l 0=1)↔dv B9 l=1:=by
 constructor
 ·rintro ⟨h1,h2⟩
  obtain ⟨x,rfl⟩:=List.length_eq_one_iff.1 h1
  simp [Qg] at h2
  simp [dv,h2]
 ·intro e
  have:l=[1]:=qN VV h (DG.cons (by decide) (by decide) (DG.nil _)) hz (by simp [NZ]) (by rw [e];simp [dv])
  subst this;exact⟨rfl,rfl⟩
theorem zV {x:Rat} (h:(x.den:Int)=1):Xu x.num=JQ x:=by unfold JQ;rw [if_pos (by omega)]
theorem CW {x:Rat} (h:¬ (x.den:Int)=1):Xu x.num++[47]++Xu (x.den:Int)=JQ x:=by
 unfold JQ;rw [if_neg (by omega),Jx (z:=(x.den:Int)) (by omega)];simp
theorem Hm {w:World} {F:Gs} {x y:Ri} {zx zy:Int} (hF:Fits F w) (hx:VP F x zx) (hy:VP F y zy) (h0:zy≠0) (hzx:sz zx≤500000) (hzy:sz zy≤500000):QZ Tryz.prog 180 [x.v,y.v] w F (tx (JQ (Rat.divInt zx zy))):=by
 obtain ⟨xn,⟨xq,xm,xc⟩,xl⟩:=x
 have px:=hx.p
 have lx:=px.len
 have kx:=hx.1.2.1
 have vx:=px.v0
 dsimp only at px lx kx vx
 obtain ⟨yn,⟨yq,ym,yc⟩,yl⟩:=y
 have py:=hy.p
 have ly:=py.len
 have ky:=hy.1.2.1
 have vy:=py.v0
 dsimp only at py ly ky vy
 dsimp only [Ri.v]
 have hny:=py.neg
 refine QS.intro (G:=fun F=>VP F ⟨xn,⟨xq,xm,xc⟩,xl⟩ zx∧VP F ⟨yn,⟨yq,ym,yc⟩,yl⟩ zy) Tryz.func180 rfl (by rfl) rfl rfl hF (fun F' hF'=>⟨hx.le hF',hy.le hF'⟩)<|J_sr<|Qw rfl (vs:=[_,_]) rfl (fun b2=>Qw rfl (vs:=[_,_]) rfl (fun b3=>JS_as rfl<|QE<|QC ?_))
 refine T3 (ι:=pH zx zy) [(2,_),(3,_)] (fun i=>[]) (fun i=>[(b3,.cells [.bool i.d.neg,.slice i.d.r.q i.d.r.n i.d.r.cap].toArray 143 (0,0)),(b2,.cells [.bool i.n.neg,.slice i.n.r.q i.n.r.n i.n.r.cap].toArray 143 (0,0))]) (fun i F=>VP F i.n i.zn∧VP F i.d i.zd) ⟨rfl,rfl,trivial⟩ ?_ ?_
 ·
  refine J_sr<|QA (QH rfl KO Vy)<|QA (Qj rfl Vy .here (.here .nil))<|QE<|QC ?_
  refine QR rfl (fun hc=>?_) (fun hc=>?_)
  ·
   refine Xv 4 subl_r mixed (by kernel_rfl) (by kernel_rfl) ?_
   simp only [List.take_succ_cons,List.take_zero,List.drop_succ_cons,List.drop_zero]
   refine QK (QJ (vs:=[_,_]) rfl JH (.there .here) (.here (.here .nil)) rfl)<|QY rfl (fun w F hF ⟨hx,hy⟩=>jJ hF (x:=⟨xn,⟨xq,xm,xc⟩,xl⟩) hx (by omega)) (fun c14=>QK (QJ (vs:=[_,_]) rfl JH .here (.here (.here .nil)) rfl)<|QY rfl (fun w F hF ⟨⟨hx,hy⟩,h14⟩=>jJ hF (x:=⟨yn,⟨yq,ym,yc⟩,yl⟩) hy (by omega)) (fun c16=>VL<|QN (vs:=[_,_]) rfl rfl rfl JH rfl (.there .here) (.here (.here .nil)) ⟨rfl,rfl,trivial⟩<|QN (vs:=[_,_]) rfl rfl rfl JH rfl .here (.here (.here .nil)) ⟨rfl,rfl,trivial⟩<|QE ?_))
   exact Jt (⟨c14,c16,-zx,-zy,by rw [hc] at hny;have:=dec_t hny.symm;omega,js _ _,by rw [YK];exact hzx,by rw [YK];exact hzy⟩) ⟨rfl,rfl,trivial⟩ subl_r (fun F ⟨⟨⟨hx,hy⟩,h14⟩,h16⟩=>⟨⟨hx,hy⟩,⟨h14,h16⟩⟩)
  ·
   refine QP ?_
   exact Jt (⟨⟨xn,⟨xq,xm,xc⟩,xl⟩,⟨yn,⟨yq,ym,yc⟩,yl⟩,zx,zy,by rw [hc] at hny;have:=dec_f hny.symm;omega,rfl,hzx,hzy⟩) ⟨rfl,rfl,trivial⟩ subl_r (fun F ⟨hx,hy⟩=>⟨⟨hx,hy⟩,⟨hx,hy⟩⟩)
 ·intro i
  simp only [List.cons_append,List.nil_append]
  refine Xz _ (fun w F hF h=>And.intro h.2.1.p (And.intro h.2.2.p (And.intro h.2.1.1.2.1 h.2.2.1.2.1))) (fun pp=>?_)
  obtain ⟨pn,pd,kn,kd⟩:=pp
  have ln:=pn.len
  have ld:=pd.len
  have hsn:=i.sn
  have hsd:=i.sd
  have hi:=i.h
  have gg:=jm pn pd
  have q1:=Yd (a:=i.zn) (b:=i.zd) (by omega)
  have q2:=Jf (Rat.divInt i.zn i.zd)
  have q3:=Jb (Rat.divInt i.zn i.zd)
  have q4:sz (Rat.divInt i.zn i.zd).num≤500000:=by omega
  have q5:sz ((Rat.divInt i.zn i.zd).den:Int)≤500000:=by omega
  refine J_sr<|QA (QH rfl Z1 Qz)<|QA (Qj rfl Qz (.there .here) (.skip (.here .nil)))<|QA (QH rfl Z1 Qz)<|QA (Qj rfl Qz .here (.skip (.here .nil))) ?_
  refine QI rfl (fun w F hF ⟨⟨hx,hy⟩,⟨hN,hD⟩⟩=>O9 hF (a:=i.n.l) (b:=i.d.l) (ra:=i.n.r) (rb:=i.d.r) hN.1 (hD.1) (pn.dg) (pd.dg) (pn.nz) (pd.nz) (by omega) (by omega)) (fun c21=>?_);rcases c21 with ⟨v21,l21⟩;dsimp only
  refine JK _ (fun w F hF ⟨⟨⟨hx,hy⟩,⟨hN,hD⟩⟩,⟨h21,h21p⟩⟩=>And.intro h21.2 h21p) (fun p21=>JS_as rfl<|JS_nt<|QG ?_)
  have g0:0<dv B9 l21:=by rw [p21.2.2.2,gg];have:=WG (x:=i.zn) i.h;omega
  have l21l:l21.length≤i.d.l.length:=by
   refine Ww p21.2.1 pd.dg p21.2.2.1 ?_
   rw [p21.2.2.2,gg]
   have h1:(Int.gcd i.zn i.zd:Int)≤i.zd:=Int.le_of_dvd i.h (Int.gcd_dvd_right (a:=i.zn) (b:=i.zd))
   have h2:=pd.abs
   omega
  refine QB<|QA (QH rfl Z1 Qz)<|QA (Qj rfl Qz (.there .here) (.skip (.here .nil)))<|JS_mv rfl<|QI rfl (fun w F hF ⟨⟨⟨hx,hy⟩,⟨hN,hD⟩⟩,⟨h21,h21p⟩⟩=>GJ hF (a:=i.n.l) (b:=l21) (ra:=i.n.r) (rb:=v21) hN.1 (h21) (pn.dg) (p21.2.1) (pn.nz) (p21.2.2.1) (g0) (by omega) (by omega)) (fun c26=>JS_mv rfl<|QA (QM rfl rfl)<|QA (QM rfl rfl)<|JS_as rfl<|JS_as rfl<|JS_nt<|QG<|Xz _ (fun w F hF h=>And.intro h.2.1.2 h.2.1.1.2.1) (fun p26=>?_))
  obtain ⟨p26,n26⟩:=p26
  refine QB<|QA (QH rfl Z1 Qz)<|QA (Qj rfl Qz .here (.skip (.here .nil)))<|JS_mv rfl<|QI rfl (fun w F hF ⟨⟨⟨⟨hx,hy⟩,⟨hN,hD⟩⟩,⟨h21,h21p⟩⟩,h26⟩=>GJ hF (a:=i.d.l) (b:=l21) (ra:=i.d.r) (rb:=v21) hD.1 (h21) (pd.dg) (p21.2.1) (pd.nz) (p21.2.2.1) (g0) (by omega) (by omega)) (fun c33=>JS_mv rfl<|QA (QM rfl rfl)<|QA (QM rfl rfl)<|JS_as rfl<|JS_as rfl<|JS_nt<|QG<|Xz _ (fun w F hF h=>And.intro h.2.1.2 h.2.1.1.2.1) (fun p33=>?_))
  obtain ⟨p33,n33⟩:=p33
  have en:G9 i.n.neg c26.1.2=(Rat.divInt i.zn i.zd).num:=gE i.h pn (by rw [p26.2.2,p21.2.2.2,gg])
  have ed:dv B9 c33.1.2=((Rat.divInt i.zn i.zd).den:Int):=gF i.h pd (by rw [p33.2.2,p21.2.2.2,gg])
  have ed2:G9 false c33.1.2=((Rat.divInt i.zn i.zd).den:Int):=by rw [← ed];rfl
  have lnp:=Ww p26.1 pn.dg p26.2.1 (by rw [p26.2.2];exact Int.ediv_le_self _ pn.v0)
  have lnq:=Ww p33.1 pd.dg p33.2.1 (by rw [p33.2.2];exact Int.ediv_le_self _ pd.v0)
  have one1:=L2 p33.1 p33.2.1
  have lr1:=DV (Rat.divInt i.zn i.zd).num
  have lr2:=DV ((Rat.divInt i.zn i.zd).den:Int)
  refine QB<|QA (QH rfl KO Vy)<|QA (Qj rfl Vy (.there .here) (.here .nil))<|JS_mv rfl<|QI rfl (fun w F hF ⟨⟨⟨⟨⟨hx,hy⟩,⟨hN,hD⟩⟩,⟨h21,h21p⟩⟩,h26⟩,h33⟩=>Zy hF (r:=c26.1.1) (l:=c26.1.2) (neg:=i.n.neg) h26.1.1 (p26.1) (by first | omega | (simp;omega))) (fun c39=>QI rfl (fun w F hF ⟨⟨⟨⟨⟨⟨hx,hy⟩,⟨hN,hD⟩⟩,⟨h21,h21p⟩⟩,h26⟩,h33⟩,h39⟩=>Im hF (zx:=(Rat.divInt i.zn i.zd).num) (by rw [← en];exact h39) (by omega)) (fun _=>JS_as rfl<|JS_nt<|QG<|J_sr<|JS_mv rfl<|QA (Ql rfl Qf)<|QA (QV rfl rfl rfl)<|JS_mv rfl ?_))
  refine Qn (t:=44) rfl (fun hb44=>?_) (fun hb44=>?_)
  ·
   have hn1:c33.1.1.n=1:=by simp at hb44;omega
   refine QL rfl rfl<|JS_mv rfl<|QL rfl rfl<|QA (Ja (n:=c33.1.1.n) (0) (fun F ⟨⟨⟨⟨⟨⟨⟨hx,hy⟩,⟨hN,hD⟩⟩,⟨h21,h21p⟩⟩,h26⟩,h33⟩,h39⟩,_⟩=>(h33.1.1).1) rfl (congrArg (fun z:Int=>some (Value.int .i64 z)) (by omega)) Qf Qp (by omega))<|QL rfl rfl<|QA (Jk (n:=c33.1.1.n) ((0)*1) (fun F ⟨⟨⟨⟨⟨⟨⟨hx,hy⟩,⟨hN,hD⟩⟩,⟨h21,h21p⟩⟩,h26⟩,h33⟩,h39⟩,_⟩=>(h33.1.1).1) (by omega) rfl Qp (JO (o:=c33.1.2) (by omega)))<|QL rfl rfl<|QA (QV rfl rfl rfl)<|QA (Qi rfl rfl rfl)<|QE<|QC ?_
   refine QR rfl (fun hc=>?_) (fun hc=>?_)
   ·
    refine J_sr<|JS_mv rfl<|JS_as rfl<|JS_nt<|QT ?_
    exact QQ (()) rfl (.tmp rfl .nil) (by rw [← i.e];exact congrArg (fun l=>tx l) (zV (by rw [← ed];exact one1.1 ⟨by omega,by simpa using hc⟩)).symm) (fun F ⟨⟨⟨⟨⟨⟨⟨hx,hy⟩,⟨hN,hD⟩⟩,⟨h21,h21p⟩⟩,h26⟩,h33⟩,h39⟩,_⟩=>trivial)
   ·
    refine QP<|QC<|J_sr<|JS_mv rfl<|QA (Zc rfl rfl (by simp;omega))<|JS_mv rfl<|QI rfl (fun w F hF ⟨⟨⟨⟨⟨⟨⟨hx,hy⟩,⟨hN,hD⟩⟩,⟨h21,h21p⟩⟩,h26⟩,h33⟩,h39⟩,_⟩=>Zy hF (r:=c33.1.1) (l:=c33.1.2) (neg:=false) h33.1.1 (p33.1) (by first | omega | (simp;omega))) (fun c54=>QI rfl (fun w F hF ⟨⟨⟨⟨⟨⟨⟨⟨hx,hy⟩,⟨hN,hD⟩⟩,⟨h21,h21p⟩⟩,h26⟩,h33⟩,h39⟩,_⟩,h54⟩=>Im hF (zx:=((Rat.divInt i.zn i.zd).den:Int)) (by rw [← ed2];exact h54) (by omega)) (fun _=>QA (Zc rfl rfl (by simp;omega))<|JS_as rfl<|JS_nt<|QT ?_))
    exact QQ (()) rfl (.tmp rfl .nil) (by rw [← i.e];exact congrArg (fun l=>tx l) (CW (fun g=>by have:=one1.2 (by rw [ed];exact g);rw [this.2] at hc;simp at hc)).symm) (fun F ⟨⟨⟨⟨⟨⟨⟨⟨⟨hx,hy⟩,⟨hN,hD⟩⟩,⟨h21,h21p⟩⟩,h26⟩,h33⟩,h39⟩,_⟩,h54⟩,_⟩=>trivial)
  ·
   have hn1:c33.1.1.n≠1:=by simp at hb44;omega
   refine QO rfl rfl rfl<|QO rfl rfl rfl<|QO rfl rfl rfl<|QO rfl rfl rfl<|QA (Qh rfl rfl rfl)<|JS_nt<|Z8 rfl<|QP<|QC<|J_sr<|JS_mv rfl<|QA (Zc rfl rfl (by simp;omega))<|JS_mv rfl<|QI rfl (fun w F hF ⟨⟨⟨⟨⟨⟨⟨hx,hy⟩,⟨hN,hD⟩⟩,⟨h21,h21p⟩⟩,h26⟩,h33⟩,h39⟩,_⟩=>Zy hF (r:=c33.1.1) (l:=c33.1.2) (neg:=false) h33.1.1 (p33.1) (by first | omega | (simp;omega))) (fun c54=>QI rfl (fun w F hF ⟨⟨⟨⟨⟨⟨⟨⟨hx,hy⟩,⟨hN,hD⟩⟩,⟨h21,h21p⟩⟩,h26⟩,h33⟩,h39⟩,_⟩,h54⟩=>Im hF (zx:=((Rat.divInt i.zn i.zd).den:Int)) (by rw [← ed2];exact h54) (by omega)) (fun _=>QA (Zc rfl rfl (by simp;omega))<|JS_as rfl<|JS_nt<|QT ?_))
   exact QQ (()) rfl (.tmp rfl .nil) (by rw [← i.e];exact congrArg (fun l=>tx l) (CW (fun g=>by have:=one1.2 (by rw [ed];exact g);omega)).symm) (fun F ⟨⟨⟨⟨⟨⟨⟨⟨⟨hx,hy⟩,⟨hN,hD⟩⟩,⟨h21,h21p⟩⟩,h26⟩,h33⟩,h39⟩,_⟩,h54⟩,_⟩=>trivial)
end
section
open Go.RowKit Ig
theorem zw {z:Int} (h:z<0):Xu z=45::Xu (-z):=by
 rw [YB h,Jx (z:=-z) (by omega)];congr 2;omega
theorem Ah {x:Rat} (h:x.num<0):JQ x=45::JQ (-x):=by
 unfold JQ
 rw [Rat.neg_num,Rat.neg_den,zw h]
 split<;>rfl
theorem NY (x:Rat):Lib.hasPrefix (JQ x) [45]=decide (x.num<0):=by
 by_cases h:x.num<0
 ·rw [Ah h];simp [Lib.hasPrefix,List.isPrefixOf,h]
 ·have e:(decide (x.num<0))=false:=by simpa using h
  rw [e]
  unfold JQ
  rw [Jx (by omega)]
  have hd:=Jh x.num.natAbs
  split
  ·exact K5 hd
  ·have hne:=Ki x.num.natAbs
   cases hl:Lib.decDigits x.num.natAbs with
   |nil=>exact absurd hl hne
   |cons c r =>
    have:=K5 hd
    rw [hl] at this
    simpa [Lib.hasPrefix,List.isPrefixOf] using this
end
section
open Go.RowKit Ig
section
variable {P:Program} {N:Nat} {m:Sl} {S:World→Prop} {ty:TypeId}
theorem gr {T yT:TypeId} {x y:Operand} {a b:Int} (hx:ev m x=some (.int .i64 a)) (hy:ev m y=some (.int .i64 b)) (h:0<b) (h0 : -9223372036854775807≤a) (h1:a≤9223372036854775807):Qt P N m S (.binOp .quo T x y yT) ty (.int .i64 (a.tdiv b)):=by
 have:=Ih (P:=P) (N:=N) (m:=m) (S:=S) (ty:=ty) (T:=T) (yT:=yT) hx hy (by omega)
 have e:=Int.natAbs_tdiv a b
 have e2:a.natAbs.div b.natAbs≤a.natAbs:=Nat.div_le_self _ _
 rw [IntWalk.i64_in _ (by omega)] at this;exact this
end
theorem vu {w:World} {F:Gs} {x y:Int} (hF:Fits F w) (h0:0≤x) (h1:x≤9223372036854775807) (k0:0≤y) (k1:y≤9223372036854775807):QZ Tryz.prog 181 [.int .i64 x,.int .i64 y] w F (.int .i64 (Nat.gcd x.toNat y.toNat:Nat)):=by
 have:=y4 (a:=x.toNat) (b:=y.toNat) hF (by omega) (by omega)
 rw [Int.toNat_of_nonneg h0,Int.toNat_of_nonneg k0] at this;exact this
theorem kK (z:Int):(if 0 - z>z then 0 - z else z)=((z.natAbs:Nat):Int):=by split<;>omega
theorem jt (n:Nat):NU n 1=Lib.decDigits n:=by
 rcases Nat.eq_zero_or_pos n with h | h
 ·subst h;unfold NU hd;rw [if_pos rfl,Zt];rfl
 ·exact Pr h
theorem kE {n:Int} {d:Nat} (h:0<d):n.tdiv ((Nat.gcd n.natAbs d:Nat):Int)=(Rat.divInt n d).num:=by
 rw [(Kh (x:=n) (y:=(d:Int)) (by omega)).1]
 have e:(Nat.gcd n.natAbs d:Nat)=Int.gcd n (d:Int):=by simp [Int.gcd]
 rw [e]
 exact Int.tdiv_eq_ediv_of_dvd (Int.gcd_dvd_left (a:=n) (b:=(d:Int)))
theorem kF {n:Int} {d:Nat} (h:0<d):(d:Int) / ((Nat.gcd n.natAbs d:Nat):Int)=((Rat.divInt n d).den:Int):=by
 rw [(Kh (x:=n) (y:=(d:Int)) (by omega)).2]
 have e:(Nat.gcd n.natAbs d:Nat)=Int.gcd n (d:Int):=by simp [Int.gcd]
 rw [e]
theorem gA (n:Int) {d:Int} (h:d≠0):Rat.divInt (if d<0 then 0 - n else n) (d.natAbs:Int)=Rat.divInt n d:=by
 split
 ·rename_i g
  rw [show((d.natAbs:Nat):Int) = -d by omega,Int.zero_sub];exact Rat.neg_divInt_neg n d
 ·rw [show((d.natAbs:Nat):Int)=d by omega]
theorem kG {n:Int} {d:Nat} (h:0<d) (hn:n.natAbs≤4000000000000000000) (hd:d≤4000000000000000000):(Rat.divInt n d).num.natAbs≤4000000000000000000∧(Rat.divInt n d).den≤4000000000000000000∧0<(Rat.divInt n d).den:=by
 have e1:=kE (n:=n) h
 have e2:=kF (n:=n) h
 have k1:=Int.natAbs_tdiv n ((Nat.gcd n.natAbs d:Nat):Int)
 have k2:n.natAbs.div ((Nat.gcd n.natAbs d:Nat):Int).natAbs≤n.natAbs:=Nat.div_le_self _ _
 have k3:(d:Int) / ((Nat.gcd n.natAbs d:Nat):Int)≤(d:Int):=Int.ediv_le_self _ (by omega)
 have k4:=(Rat.divInt n d).den_pos
 rw [e1] at k1
 omega
theorem jZ (z:Int):(if z<0 then [45] else [])++Lib.decDigits z.natAbs=Xu z:=by
 split
 ·rename_i h;rw [YB h];rfl
 ·rw [Jx (by omega)];rfl
theorem vb {z:Int} (h : -9223372036854775808≤z∧z≤9223372036854775807):sz z≤64:=by
 rw [Xx];omega
theorem gP {w:World} {F:Gs} {num den:Int} (hF:Fits F w) (hn : -9223372036854775808≤num∧num≤9223372036854775807) (hd : -9223372036854775808≤den∧den≤9223372036854775807) (h0:den≠0):QZ Tryz.prog 74 [.int .i64 num,.int .i64 den] w F (tx (JQ (Rat.divInt num den))):=by
 refine QS.intro (G:=fun F=>True) Tryz.func74 rfl (by rfl) rfl rfl hF (fun F' hF'=>trivial)<|J_sr<|JS_as rfl<|JS_nt<|QG ?_
 refine KZ [(0,_),(1,_)] [(20,.bool (decide (num < -4000000000000000000∨num>4000000000000000000∨den < -4000000000000000000∨den>4000000000000000000)))] ⟨rfl,rfl,trivial⟩ ?_ ?_
 ·
  refine QB<|JS_mv rfl<|QA (QV rfl rfl rfl)<|JS_mv rfl ?_
  refine Qn (t:=9) rfl (fun hb9=>?_) (fun hb9=>?_)
  ·
   refine QO rfl rfl rfl<|QO rfl rfl rfl<|QA (Qi rfl rfl rfl)<|JS_mv rfl<|QO rfl rfl rfl<|QO rfl rfl rfl<|QA (Qi rfl rfl rfl)<|JS_mv rfl<|QO rfl rfl rfl<|QO rfl rfl rfl<|QA (Qi rfl rfl rfl)<|QE ?_
   exact X0 ⟨rfl,rfl,(congrArg (fun b=>some (Value.bool b)) (by rw [Bool.eq_iff_iff];simp_all;try omega)),trivial⟩ subl_r (fun _ h=>h)
  ·
   refine QL rfl rfl<|JS_mv rfl<|QL rfl rfl<|QA (QV rfl rfl rfl)<|QA (Qh rfl rfl rfl)<|JS_mv rfl ?_
   refine Qn (t:=13) rfl (fun hb13=>?_) (fun hb13=>?_)
   ·
    refine QO rfl rfl rfl<|QO rfl rfl rfl<|QA (Qi rfl rfl rfl)<|JS_mv rfl<|QO rfl rfl rfl<|QO rfl rfl rfl<|QA (Qi rfl rfl rfl)<|QE ?_
    exact X0 ⟨rfl,rfl,(congrArg (fun b=>some (Value.bool b)) (by rw [Bool.eq_iff_iff];simp_all;try omega)),trivial⟩ subl_r (fun _ h=>h)
   ·
    refine QL rfl rfl<|JS_mv rfl<|QL rfl rfl<|QA (QV rfl rfl rfl)<|QA (Qh rfl rfl rfl)<|JS_mv rfl ?_
    refine Qn (t:=17) rfl (fun hb17=>?_) (fun hb17=>?_)
    ·
     refine QO rfl rfl rfl<|QO rfl rfl rfl<|QA (Qi rfl rfl rfl)<|QE ?_
     exact X0 ⟨rfl,rfl,(congrArg (fun b=>some (Value.bool b)) (by rw [Bool.eq_iff_iff];simp_all;try omega)),trivial⟩ subl_r (fun _ h=>h)
    ·
     refine QL rfl rfl<|JS_mv rfl<|QL rfl rfl<|QA (QV rfl rfl rfl)<|QA (Qh rfl rfl rfl)<|QE ?_
     exact X0 ⟨rfl,rfl,(congrArg (fun b=>some (Value.bool b)) (by rw [Bool.eq_iff_iff];simp_all;try omega)),trivial⟩ subl_r (fun _ h=>h)
 ·
  simp only [List.cons_append,List.nil_append]
  refine QR rfl (fun hc=>?_) (fun hc=>?_)
  ·
   refine J_sr<|JS_mv rfl<|QI rfl (fun w F hF hT=>E6 hF (by omega)) (fun c22=>JS_mv rfl<|QI rfl (fun w F hF ⟨hT,h22⟩=>E6 hF (by omega)) (fun c24=>QI rfl (fun w F hF ⟨⟨hT,h22⟩,h24⟩=>Hm hF (h22) (h24) (h0) (by have:=vb hn;omega) (by have:=vb hd;omega)) (fun _=>JS_as rfl<|JS_nt<|QT ?_)))
   exact QQ (()) rfl (.tmp rfl .nil) (rfl) (fun F ⟨⟨⟨hT,h22⟩,h24⟩,_⟩=>trivial)
  ·
   have hb:¬ (num < -4000000000000000000∨num>4000000000000000000∨den < -4000000000000000000∨den>4000000000000000000):=dec_f hc
   refine QP<|QC ?_
   refine KZ [] [(0,.int .i64 (if den<0 then 0 - num else num)),(1,.int .i64 ((den.natAbs:Nat):Int))] trivial ?_ ?_
   ·
    refine J_sr<|JS_mv rfl<|QA (QV rfl rfl rfl)<|QE<|QC ?_
    refine QR rfl (fun hc=>?_) (fun hc=>?_)
    ·
     refine QB<|JS_mv rfl<|QA (J6 rfl rfl (by omega))<|JS_mv rfl<|QA (J6 rfl rfl (by omega))<|JS_as rfl<|JS_as rfl<|QE ?_
     exact X0 ⟨(congrArg (fun z:Int=>some (Value.int .i64 z)) (if_pos (dec_t hc)).symm),(congrArg (fun z:Int=>some (Value.int .i64 z)) (by have:=dec_t hc;omega)),trivial⟩ subl_r (fun _ h=>h)
    ·
     refine QP ?_
     exact X0 ⟨(congrArg (fun z:Int=>some (Value.int .i64 z)) (if_neg (dec_f hc)).symm),(congrArg (fun z:Int=>some (Value.int .i64 z)) (by have:=dec_f hc;omega)),trivial⟩ subl_r (fun _ h=>h)
   ·
    simp only [List.cons_append,List.nil_append]
    have hq:=gA num h0
    have b1:(if den<0 then 0 - num else num).natAbs≤4000000000000000000:=by split<;>omega
    generalize (if den<0 then 0 - num else num)=n1 at *
    obtain ⟨c1,c2,c3⟩:=kG (n:=n1) (d:=den.natAbs) (by omega) b1 (by omega)
    have hg:0<Nat.gcd n1.natAbs den.natAbs:=Nat.gcd_pos_of_pos_right _ (by omega)
    have lr1:=DV (Rat.divInt n1 (den.natAbs:Int)).num
    have lr2:=T1 (Rat.divInt n1 (den.natAbs:Int)).den
    have lz1:=vb (z:=(Rat.divInt n1 (den.natAbs:Int)).num) (by omega)
    have lz2:=vb (z:=((Rat.divInt n1 (den.natAbs:Int)).den:Int)) (by omega)
    have e1:=kE (n:=n1) (d:=den.natAbs) (by omega)
    have e2:=kF (n:=n1) (d:=den.natAbs) (by omega)
    refine J_sr<|JS_mv rfl<|JS_mv rfl<|QA (J6 rfl rfl (by omega))<|QA (y9 rfl rfl) ?_
    rw [kK]
    refine JS_mv rfl<|QI rfl (fun w F hF hT=>vu hF (by omega) (by omega) (by omega) (by omega)) (fun _=>JS_as rfl<|JS_nt<|QG<|JN subl_r mixed (by kernel_rfl) ?_)
    simp only [Int.toNat_natCast]
    refine QK (QD rfl)<|QK (QD rfl)<|QK (gr rfl rfl (by omega) (by omega) (by omega)) ?_
    rw [e1]
    refine QK (QD rfl)<|QK (QD rfl)<|QK (Wb rfl rfl (by omega) (by omega) (by omega)) ?_
    rw [e2]
    refine QK (QF rfl)<|QK (QF rfl)<|Q4<|QC<|J_sr<|JS_as rfl<|QE<|QC ?_
    refine KZ [(0,_),(1,_)] [(6,tx (if(Rat.divInt n1 (den.natAbs:Int)).num<0 then [45] else []))] ⟨rfl,rfl,trivial⟩ ?_ ?_
    ·
     refine J_sr<|JS_mv rfl<|QA (QV rfl rfl rfl)<|QE<|QC ?_
     refine QR rfl (fun hc=>?_) (fun hc=>?_)
     ·
      refine QB<|JS_as rfl<|QE ?_
      exact X0 ⟨rfl,rfl,(congrArg (fun l=>some (tx l)) (if_pos (dec_t hc)).symm),trivial⟩ subl_r (fun _ h=>h)
     ·
      refine QP ?_
      exact X0 ⟨rfl,rfl,(congrArg (fun l=>some (tx l)) (if_neg (dec_f hc)).symm),trivial⟩ subl_r (fun _ h=>h)
    ·
     simp only [List.cons_append,List.nil_append]
     refine J_sr<|JS_mv rfl<|JS_mv rfl<|JS_mv rfl<|QA (J6 rfl rfl (by omega))<|QA (y9 rfl rfl) ?_
     rw [kK]
     refine QI rfl (fun w F hF ⟨hT,_⟩=>NX hF (least:=1) (by omega) (by omega) (by omega)) (fun _=>?_)
     simp only [Int.toNat_natCast,jt]
     refine QA (Zc rfl rfl (by have e:=congrArg List.length (jZ (Rat.divInt n1 (den.natAbs:Int)).num);rw [List.length_append] at e;omega))<|JS_as rfl<|JS_nt<|QG<|QG<|QB ?_
     rw [jZ]
     refine JS_mv rfl<|QA (QV rfl rfl rfl)<|QE<|QC ?_
     refine QR rfl (fun hc=>?_) (fun hc=>?_)
     ·
      have hd1:¬ ((Rat.divInt n1 (den.natAbs:Int)).den:Int)=1:=by have:=dec_t hc;omega
      refine QB<|JS_mv rfl<|QA (Zc rfl rfl (by simp only [List.length_append,List.length_cons,List.length_nil];omega))<|JS_mv rfl<|QI rfl (fun w F hF ⟨⟨hT,_⟩,_⟩=>NX hF (least:=1) (by omega) (by omega) (by omega)) (fun _=>?_)
      simp only [Int.toNat_natCast,jt]
      refine QA (Zc rfl rfl (by simp only [List.length_append,List.length_cons,List.length_nil];omega))<|JS_as rfl<|JS_nt<|J_sr<|JS_mv rfl<|JS_as rfl<|JS_nt<|QT ?_
      exact QQ (()) rfl (.tmp rfl .nil) (by rw [← hq];exact congrArg (fun l=>tx l) (by rw [← CW hd1,Ao])) (fun F ⟨⟨⟨hT,_⟩,_⟩,_⟩=>trivial)
     ·
      have hd1:((Rat.divInt n1 (den.natAbs:Int)).den:Int)=1:=by have:=dec_f hc;omega
      refine QP<|QC<|J_sr<|JS_mv rfl<|JS_as rfl<|JS_nt<|QT ?_
      exact QQ (()) rfl (.tmp rfl .nil) (by rw [← hq];exact congrArg (fun l=>tx l) (zV hd1).symm) (fun F ⟨⟨hT,_⟩,_⟩=>trivial)
end
section
open Go.RowKit Ig
theorem Cq (x:Rat):xX (JQ x)=JQ (-x):=by
 unfold xX NW
 rw [NY]
 by_cases h0:JQ x=[48]
 ·rw [if_pos h0]
  have hx:x=0:=by
   have hv:=Yo x.num
   by_cases hd:x.den=1
   ·rw [(Ni hd).1] at h0
    rw [h0] at hv
    have:x.num=0:=by rw [← hv];rfl
    exact Rat.num_eq_zero.1 this
   ·have:=(G7 hd).2.2.1
    have h1:=(G7 hd).2.1
    rw [h0] at h1
    have h2:=(G7 hd).1
    have h3:0<(Xu x.num).length:=by
     rcases Nat.eq_zero_or_pos (Xu x.num).length with g | g
     ·have e:=List.eq_nil_of_length_eq_zero g
      unfold Xu at e
      rcases Int.lt_or_le x.num 0 with q | q
      ·have:=YB q;unfold Xu at this;rw [this] at e;cases e
      ·have:=Jx q;unfold Xu at this;rw [this] at e;exact absurd e (Ki _)
     ·exact g
    rw [h0] at h2
    simp at h1;omega
  subst hx
  have e:(-0:Rat)=0:=by decide
  rw [e,if_neg (by decide),if_pos rfl]
 ·rw [if_neg h0]
  by_cases hn:x.num<0
  ·rw [if_pos (show(decide (x.num<0))=true by simpa using hn),if_pos (by decide),Ah hn];rfl
  ·rw [if_neg (show ¬ (decide (x.num<0))=true by simpa using hn),if_neg (by decide),if_neg (by decide)]
   have h1:(-x).num<0:=by
    rw [Rat.neg_num]
    have:x.num≠0:=by
     intro e
     have:=Rat.num_eq_zero.1 e
     subst this
     exact h0 PI
    omega
   have:=Ah h1
   rw [Rat.neg_neg] at this
   exact this.symm
theorem LA (x:Rat):NW (JQ x)=EP x.num:=by
 unfold NW
 rw [NY]
 by_cases h0:x=0
 ·subst h0;rw [if_pos PI];rfl
 ·have hn:x.num≠0:=fun e=>h0 (Rat.num_eq_zero.1 e)
  have h1:JQ x≠[48]:=by
   intro e
   have h2:=Cq x
   unfold xX NW at h2
   rw [if_pos e,if_neg (by decide),if_pos rfl,e] at h2
   by_cases hd:x.den=1
   ·have hv:=Yo x.num
    rw [← (Ni hd).1,e] at hv
    exact hn hv.symm
   ·have:=(G7 hd).2.2.1
    have hv:=Yo x.num
    rw [← this,e] at hv
    have h3:=(G7 hd).2.1
    rw [e] at h3
    have h4:ahead XS [48]=1:=by decide
    rw [h4] at h3
    exact absurd h3 (by decide)
  rw [if_neg h1]
  unfold EP
  by_cases g:x.num<0
  ·rw [if_pos (show(decide (x.num<0))=true by simpa using g),if_pos g]
  ·rw [if_neg (show ¬ (decide (x.num<0))=true by simpa using g),if_neg g,if_neg hn]
theorem qC (n:Int):JQ (n:Rat)=Xu n:=by unfold JQ;rw [if_pos (by simp)];simp
end
section
open Go.RowKit Ig
theorem zu {w:World} {F:Gs} {s:List UInt8} (hF:Fits F w) (hl:s.length≤1000000) (h1:XF (Lib.trimPrefix (s.take (ahead XS s)) [45])=true) (h2:ahead XS s<s.length→XF (Lib.trimPrefix (s.drop (ahead XS s+1)) [45])=true):QS Tryz.prog 119 [tx s] w F Ri.v2 (fun c F=>VP F c.1 (Zv (s.take (ahead XS s)))∧(ahead XS s<s.length→VP F c.2 (Zv (s.drop (ahead XS s+1))))):=by
 have hah:=Bi XS s
 refine QS.intro (G:=fun F=>True) Tryz.func119 rfl (by rfl) rfl rfl hF (fun F' hF'=>trivial)<|J_sr<|Qb Z6 (fun b2=>Qb Z6 (fun b3=>JS_nt<|J_sr<|JS_mv rfl<|JS_as rfl<|JS_nt<|J_sr<|JS_mv rfl<|QI rfl (fun w F hF hT=>BA hF (by omega)) (fun _=>JS_as rfl<|JS_nt<|QG<|J_sr<|JS_mv rfl<|JS_mv rfl ?_)))
 refine QA (J9 rfl Xh)<|QA (QV rfl rfl rfl)<|QE<|QC ?_
 refine QR rfl (fun hc=>?_) (fun hc=>?_)
 ·
  have hd:ahead XS s=s.length:=by have:(ahead XS s:Int)=(s.length:Int):=(by simpa using hc);omega
  refine J_sr<|JS_mv rfl<|QI rfl (fun w F hF ⟨hT,_⟩=>Gp hF (by rw [hd,List.take_length] at h1;exact h1) (by omega)) (fun c14=>QI rfl (fun w F hF ⟨⟨hT,_⟩,h14⟩=>E6 hF (by decide)) (fun c15=>QN (vs:=[_,_]) rfl rfl rfl JH rfl (.there .here) (.here (.here .nil)) ⟨rfl,rfl,trivial⟩<|QN (vs:=[_,_]) rfl rfl rfl JH rfl .here (.here (.here .nil)) ⟨rfl,rfl,trivial⟩<|JS_nt<|QT ?_))
  exact JY ((c14,c15):Ri×Ri) rfl (.JU (c:=[_,_]) rfl JH (.there .here) (.JU (c:=[_,_]) rfl JH .here .nil)) (rfl) (fun F ⟨⟨⟨hT,_⟩,h14⟩,h15⟩=>⟨by rw [hd,List.take_length];exact h14,fun g=>by omega⟩)
 ·
  have hd:ahead XS s<s.length:=by rcases Nat.lt_or_ge (ahead XS s) s.length with g | g;exact g;exact absurd (show ahead XS s=s.length by omega) (fun e=>by rw [e] at hc;simp at hc)
  refine QP<|QC<|QG<|JN (.cons _ (.cons _ .slnil)) mixed (by kernel_rfl)<|QK (QD rfl)<|QK (QD rfl)<|QK (Gx (ahead XS s) rfl rfl Xh rfl (by omega))<|QY rfl (fun w F hF ⟨hT,_⟩=>Gp hF (h1) (by rw [List.length_take];omega)) (fun c19=>QK (QD rfl)<|QK (QD rfl)<|QK (Qu rfl rfl (by omega))<|QK (Kd ((ahead XS s+1)) rfl rfl Xh (congrArg (fun z:Int=>some (Value.int .i64 z)) (by omega)) (by omega))<|QY rfl (fun w F hF ⟨⟨hT,_⟩,VV⟩=>Gp hF (h2 hd) (by rw [List.length_drop];omega)) (fun c24=>Q7 (vs:=[_,_]) rfl rfl rfl JH rfl (.there .here) (.cons _ .slnil) (fun _ h=>h.1.1) (.here (.here .nil)) ⟨rfl,rfl,trivial⟩<|Q7 (vs:=[_,_]) rfl rfl rfl JH rfl .here (.cons _ .slnil) (fun _ h=>h.1.1) (.here (.here .nil)) ⟨rfl,rfl,trivial⟩<|Q4<|QC<|QT ?_))
  exact JY ((c19,c24):Ri×Ri) rfl (.JU (c:=[_,_]) rfl JH (.there .here) (.JU (c:=[_,_]) rfl JH .here .nil)) (rfl) (fun F ⟨⟨⟨hT,_⟩,VV⟩,h24⟩=>⟨VV,fun _=>h24⟩)
theorem It {l:List UInt8} (h:(!XV l)=false):0<l.length:=by
 rcases Nat.eq_zero_or_pos l.length with g | g
 ·rw [List.eq_nil_of_length_eq_zero g] at h;simp [XV] at h
 ·exact g
theorem vZ {p:UInt8→Bool} {s:List UInt8} (h:∀ c∈s,p c=true):s.takeWhile p=s:=by
 induction s with
 |nil=>rfl
 |cons c r ih=>rw [List.takeWhile_cons_of_pos (h c (by simp)),ih (fun d hd=>h d (by simp [hd]))]
theorem zQ {l:List UInt8} (h:XF l=true):sz (Q8 l:Int)≤4*l.length:=by
 rw [Xx]
 have h1:=Vm h
 have h2:10^l.length≤2^(4*l.length):=by rw [Nat.pow_mul];exact Nat.pow_le_pow_left (by decide) _
 simp;omega
theorem yS (s:List UInt8):(ZM 47 s).1=s.take (ahead XS s)∧(ZM 47 s).2.1=s.drop (ahead XS s+1)∧(ZM 47 s).2.2=decide (ahead XS s<s.length):=by
 have hf:(fun c:UInt8=>!XS c)=fun c=>c != 47:=by funext c;simp [XS,bne]
 have h1:=Kq (fun c:UInt8=>c != 47) s
 have ha:ahead XS s=(s.takeWhile (fun c=>c != 47)).length:=by unfold ahead;rw [hf]
 rw [ha]
 by_cases hc:s.contains 47=true
 ·have e:ZM 47 s=(s.takeWhile (· != 47),(s.dropWhile (· != 47)).drop 1,true):=by unfold ZM;rw [if_pos hc]
  rw [e]
  obtain ⟨r,hr⟩:=DW (show(47:UInt8)∈s by simpa using hc)
  have hd:=h1.2
  rw [hr] at hd
  refine⟨h1.1.symm,?_,?_⟩
  ·show(s.dropWhile (· != 47)).drop 1=_
   rw [hr,← List.drop_drop,hd]
  ·have:(s.takeWhile (fun c=>c != 47)).length<s.length:=by
    have:=congrArg List.length hd
    rw [List.length_drop,List.length_cons] at this;omega
   simp [this]
 ·have e:ZM 47 s=(s,[],false):=by unfold ZM;rw [if_neg hc]
  rw [e]
  have h2:s.takeWhile (fun c=>c != 47)=s:=by
   refine vZ fun c hm=>?_
   have:c≠47:=by rintro rfl;exact hc (by simpa using hm)
   simpa using this
  rw [h2]
  simp
theorem yg (s:List UInt8):Lib.trimPrefix (ZM 47 s).1 [45]=(ZM 47 (Lib.trimPrefix s [45])).1∧Lib.hasPrefix (ZM 47 s).1 [45]=Lib.hasPrefix s [45]∧(ZM 47 s).2=(ZM 47 (Lib.trimPrefix s [45])).2:=by
 cases s with
 |nil=>exact⟨rfl,rfl,rfl⟩
 |cons c r =>
  by_cases hc:c=45
  ·subst hc
   have e:Lib.trimPrefix (45::r) [45]=r:=rfl
   rw [e]
   unfold ZM
   have h0:((45:UInt8)::r).contains 47=r.contains 47:=by simp
   rw [h0]
   split
   ·exact⟨rfl,rfl,rfl⟩
   ·exact⟨rfl,rfl,rfl⟩
  ·have hp:Lib.hasPrefix (c::r) [45]=false:=by
    rw [Wr (by simp)];simpa using hc
   have e:Lib.trimPrefix (c::r) [45]=c::r:=by unfold Lib.trimPrefix;rw [if_neg (by rw [hp];decide)]
   rw [e]
   have e2:∀ l:List UInt8,Lib.hasPrefix l [45]=false→Lib.trimPrefix l [45]=l:=fun l h=>by unfold Lib.trimPrefix;rw [if_neg (by rw [h];decide)]
   have h3:Lib.hasPrefix (ZM 47 (c::r)).1 [45]=false:=by
    unfold ZM
    split
    ·by_cases h47:c=47
     ·subst h47;rfl
     ·rw [List.takeWhile_cons_of_pos (by simpa using h47),Wr (by simp)];simpa using hc
    ·exact hp
   exact⟨e2 _ h3,by rw [h3,hp],rfl⟩
theorem gJ {s:List UInt8} (h1:Ii s=false) (h2:IN s=false) (hk:ahead XS (Lib.trimPrefix s [45])<(Lib.trimPrefix s [45]).length):XF ((Lib.trimPrefix s [45]).take (ahead XS (Lib.trimPrefix s [45])))=true∧XF (Nu s)=true:=by
 have hs:PC s=true:=by simp [PC];exact hk
 simp only [Ii,Bool.or_eq_false_iff,Bool.not_eq_false'] at h1
 simp only [IN,hs,Bool.true_and,Bool.or_eq_false_iff,Bool.not_eq_false'] at h2
 exact⟨Kw h1.1,Kw h2.1⟩
theorem yQ (s:List UInt8):Rz s=Jy s:=by
 obtain ⟨t1,t2,t3⟩:=yg s
 obtain ⟨c1,c2,c3⟩:=yS (Lib.trimPrefix s [45])
 have t4:(ZM 47 s).2.1=Nu s:=by rw [t3,c2];rfl
 have t5:(ZM 47 s).2.2=PC s:=by rw [t3,c3];rfl
 have hlen:(Lib.trimPrefix s [45]).take (ahead XS (Lib.trimPrefix s [45]))=(Lib.trimPrefix s [45]).take (ahead XS (Lib.trimPrefix s [45])):=rfl
 have hk:((Lib.trimPrefix s [45]).take (ahead XS (Lib.trimPrefix s [45]))).length=ahead XS (Lib.trimPrefix s [45]):=by
  rw [List.length_take];have:=Bi XS (Lib.trimPrefix s [45]);omega
 unfold Jy Gg Rz AN Ii IN Oi OS
 rw [t1,t2,t4,t5,c1,hk]
 generalize (Lib.trimPrefix s [45]).take (ahead XS (Lib.trimPrefix s [45]))=a
 generalize Nu s=d
 generalize PC s=f
 generalize Lib.hasPrefix s [45]=n
 have e:(!XV a||(n&&a==[48])||(f&&(!XV d||d==[48]||d==[49])))=((!XV a||(n&&a==[48]))||(f&&(!XV d||(d==[48]||d==[49])))):=by rw [Bool.or_assoc (!XV d)]
 rw [e]
 cases (!XV a||(n&&a==[48]))<;>cases (f&&(!XV d||(d==[48]||d==[49])))<;>rfl
theorem LU {w:World} {F:Gs} {s:List UInt8} (hF:Fits F w) (hl:s.length≤1000000):QZ Tryz.prog 20 [tx s] w F (.int .i64 (Jy s)):=by
 rw [← yQ]
 have hln:(Lib.trimPrefix s [45]).length≤s.length:=DZ _ _
 have hah:=Bi XS (Lib.trimPrefix s [45])
 refine QS.intro (G:=fun F=>True) Tryz.func20 rfl (by rfl) rfl rfl hF (fun F' hF'=>trivial)<|J_sr<|JS_as rfl<|JS_nt<|J_sr<|JS_mv rfl<|JS_as rfl<|QE<|QC ?_
 refine KZ [(0,_)] [(3,tx (Lib.trimPrefix s [45]))] ⟨rfl,trivial⟩ ?_ ?_
 ·
  refine KZ [(0,_),(3,_)] [(16,.bool (Lib.hasPrefix s [45]))] ⟨rfl,rfl,trivial⟩ ?_ ?_
  ·
   refine QB<|JS_mv rfl<|QA (J9 rfl Xh)<|QA (QV rfl rfl rfl)<|JS_mv rfl ?_
   refine Qn (t:=12) rfl (fun hb12=>?_) (fun hb12=>?_)
   ·
    refine QL rfl rfl<|JS_mv rfl<|QL rfl rfl<|QA (Vn (i:=0) rfl rfl Xh (by have:=dec_t hb12;omega))<|QL rfl rfl<|QA (QV rfl rfl rfl)<|QA (Qi rfl rfl rfl)<|QE ?_
    exact X0 ⟨rfl,rfl,(congrArg (fun b=>some (Value.bool b)) (by have h0:0<s.length:=(by have:=dec_t hb12;omega);rw [Wr h0];exact MD rfl)),trivial⟩ subl_r (fun _ h=>h)
   ·
    refine QO rfl rfl rfl<|QO rfl rfl rfl<|QO rfl rfl rfl<|QA (Qh rfl rfl rfl)<|QE ?_
    exact X0 ⟨rfl,rfl,(congrArg (fun b=>some (Value.bool b)) (by have h0:s.length=0:=(by have:=dec_f hb12;omega);rw [List.eq_nil_of_length_eq_zero h0];rfl)),trivial⟩ subl_r (fun _ h=>h)
  ·
   simp only [List.cons_append,List.nil_append]
   refine QR rfl (fun hc=>?_) (fun hc=>?_)
   ·
    refine QB<|JS_mv rfl<|QA (Kd (1) rfl rfl Xh rfl (Mc hc))<|JS_as rfl<|QE ?_
    exact X0 ⟨rfl,(congrArg (fun l=>some (tx l)) (by unfold Lib.trimPrefix;rw [if_pos hc];rfl)),trivial⟩ subl_r (fun _ h=>h)
   ·
    refine QP ?_
    exact X0 ⟨rfl,(congrArg (fun l=>some (tx l)) (by unfold Lib.trimPrefix;rw [hc];rfl)),trivial⟩ subl_r (fun _ h=>h)
 ·
  simp only [List.cons_append,List.nil_append]
  refine J_sr<|JS_mv rfl<|QI rfl (fun w F hF hT=>BA hF (by omega)) (fun _=>JS_as rfl<|JS_nt<|QG ?_)
  refine KZ [(3,_),(4,_)] [(36,.bool (Ii s))] ⟨rfl,rfl,trivial⟩ ?_ ?_
  ·
   refine QB<|JS_mv rfl<|JS_mv rfl<|QA (Gx ((ahead XS (Lib.trimPrefix s [45]))) rfl rfl Xh rfl (by omega))<|QI rfl (fun w F hF ⟨hT,_⟩=>zU hF (by rw [List.length_take];omega)) (fun _=>QA (Yt rfl)<|JS_mv rfl ?_)
   refine Qn (t:=26) rfl (fun hb26=>?_) (fun hb26=>?_)
   ·
    refine QO rfl rfl rfl<|QO rfl rfl rfl<|QO rfl rfl rfl<|QO rfl rfl rfl<|JV rfl rfl<|JV rfl rfl<|JV rfl rfl<|JV rfl rfl<|QO rfl rfl rfl<|QA (Qi rfl rfl rfl)<|QE ?_
    exact X0 ⟨rfl,rfl,(congrArg (fun b=>some (Value.bool b)) (by simp [Ii] at hb26 ⊢;simp [hb26])),trivial⟩ subl_r (fun _ h=>h.1)
   ·
    refine QL rfl rfl<|JS_mv rfl<|QL rfl rfl<|QA (Vn (i:=0) rfl rfl MQ (by have h1:=It hb26;rw [List.length_take] at h1;omega))<|QL rfl rfl<|QA (QV rfl rfl rfl)<|QL rfl rfl<|JS_mv rfl ?_
    refine Qn (t:=30) rfl (fun hb30=>?_) (fun hb30=>?_)
    ·
     refine QL rfl rfl<|JS_mv rfl<|QL rfl rfl<|JS_mv rfl<|QL rfl rfl<|QA (Gx ((ahead XS (Lib.trimPrefix s [45]))) rfl rfl Xh rfl (by omega))<|QL rfl rfl<|QA (K3 rfl rfl)<|QL rfl rfl<|QA (Qi rfl rfl rfl)<|QA (Qh rfl rfl rfl)<|QE ?_
     exact X0 ⟨rfl,rfl,(congrArg (fun b=>some (Value.bool b)) (by have h0:0<s.length:=(by have h1:=It hb26;rw [List.length_take] at h1;omega);have hp:Lib.hasPrefix s [45]=true:=(by rw [Wr h0,← MD (z:=45) rfl];exact hb30);simp [Ii] at hb26 ⊢;simp [hb26,hp])),trivial⟩ subl_r (fun _ h=>h.1)
    ·
     refine QO rfl rfl rfl<|QO rfl rfl rfl<|QO rfl rfl rfl<|QO rfl rfl rfl<|QL rfl rfl<|QA (Qh rfl rfl rfl)<|QA (Qh rfl rfl rfl)<|QE ?_
     exact X0 ⟨rfl,rfl,(congrArg (fun b=>some (Value.bool b)) (by have h0:0<s.length:=(by have h1:=It hb26;rw [List.length_take] at h1;omega);have hp:Lib.hasPrefix s [45]=false:=(by rw [Wr h0,← MD (z:=45) rfl];exact hb30);simp [Ii] at hb26 ⊢;simp [hb26,hp])),trivial⟩ subl_r (fun _ h=>h.1)
  ·
   simp only [List.cons_append,List.nil_append]
   refine QR rfl (fun hc=>?_) (fun hc=>?_)
   ·
    have hb1:Ii s=true:=hc
    refine J_sr<|JS_as rfl<|JS_nt<|QT ?_
    exact QQ (()) rfl (.tmp rfl .nil) (congrArg (Value.int .i64) (by simp [Rz,hb1])) (fun F ⟨hT,_⟩=>trivial)
   ·
    have hb1:Ii s=false:=hc
    refine QP<|QC<|QG ?_
    refine KZ [(3,_),(4,_)] [(62,.bool (IN s))] ⟨rfl,rfl,trivial⟩ ?_ ?_
    ·
     refine QB<|JS_mv rfl<|JS_mv rfl<|QA (J9 rfl Xh)<|QA (QV rfl rfl rfl)<|JS_mv rfl ?_
     refine Qn (t:=41) rfl (fun hb41=>?_) (fun hb41=>?_)
     ·
      refine QL rfl rfl<|JS_mv rfl<|QL rfl rfl<|JS_mv rfl<|QL rfl rfl<|QA (Qu rfl rfl (by omega))<|QL rfl rfl<|QA (Kd (((ahead XS (Lib.trimPrefix s [45]))+1)) rfl rfl Xh (congrArg (fun z:Int=>some (Value.int .i64 z)) (by omega)) (by have:=dec_t hb41;omega))<|QL rfl rfl<|QI rfl (fun w F hF ⟨hT,_⟩=>zU hF (by rw [List.length_drop];omega)) (fun _=>QL rfl rfl<|QA (Yt rfl)<|QL rfl rfl<|JS_mv rfl ?_)
      refine Qn (t:=48) rfl (fun hb48=>?_) (fun hb48=>?_)
      ·
       refine QO rfl rfl rfl<|QO rfl rfl rfl<|QO rfl rfl rfl<|QO rfl rfl rfl<|QO rfl rfl rfl<|QL rfl rfl<|QA (Qi rfl rfl rfl)<|QL rfl rfl<|JS_mv rfl<|QO rfl rfl rfl<|QO rfl rfl rfl<|QO rfl rfl rfl<|QO rfl rfl rfl<|QO rfl rfl rfl<|QL rfl rfl<|QA (Qi rfl rfl rfl)<|QA (Qi rfl rfl rfl)<|QE ?_
       exact X0 ⟨rfl,rfl,(congrArg (fun b=>some (Value.bool b)) (by have h1:PC s=true:=(by simp [PC];simpa using hb41);simp [IN,h1];simp at hb48;exact .inl hb48)),trivial⟩ subl_r (fun _ h=>h.1)
      ·
       refine QL rfl rfl<|JS_mv rfl<|QL rfl rfl<|JS_mv rfl<|QL rfl rfl<|QA (Qu rfl rfl (by omega))<|QL rfl rfl<|QA (Kd (((ahead XS (Lib.trimPrefix s [45]))+1)) rfl rfl Xh (congrArg (fun z:Int=>some (Value.int .i64 z)) (by omega)) (by have:=dec_t hb41;omega))<|QL rfl rfl<|QA (K3 rfl rfl)<|QL rfl rfl<|QA (Qh rfl rfl rfl)<|QL rfl rfl<|JS_mv rfl ?_
       refine Qn (t:=55) rfl (fun hb55=>?_) (fun hb55=>?_)
       ·
        refine QO rfl rfl rfl<|QO rfl rfl rfl<|QO rfl rfl rfl<|QO rfl rfl rfl<|QO rfl rfl rfl<|QL rfl rfl<|QA (Qi rfl rfl rfl)<|QA (Qi rfl rfl rfl)<|QE ?_
        exact X0 ⟨rfl,rfl,(congrArg (fun b=>some (Value.bool b)) (by have h1:PC s=true:=(by simp [PC];simpa using hb41);simp [IN,h1];exact .inr (.inl (by simpa [Nu] using hb55)))),trivial⟩ subl_r (fun _ h=>h.1)
       ·
        refine QL rfl rfl<|JS_mv rfl<|QL rfl rfl<|JS_mv rfl<|QL rfl rfl<|QA (Qu rfl rfl (by omega))<|QL rfl rfl<|QA (Kd (((ahead XS (Lib.trimPrefix s [45]))+1)) rfl rfl Xh (congrArg (fun z:Int=>some (Value.int .i64 z)) (by omega)) (by have:=dec_t hb41;omega))<|QL rfl rfl<|QA (K3 rfl rfl)<|QL rfl rfl<|QA (Qh rfl rfl rfl)<|QA (Qi rfl rfl rfl)<|QE ?_
        exact X0 ⟨rfl,rfl,(congrArg (fun b=>some (Value.bool b)) (by have h1:PC s=true:=(by simp [PC];simpa using hb41);simp at hb48 hb55;simp [IN,h1,Nu,hb48,hb55])),trivial⟩ subl_r (fun _ h=>h.1)
     ·
      refine QO rfl rfl rfl<|QO rfl rfl rfl<|QO rfl rfl rfl<|QO rfl rfl rfl<|QO rfl rfl rfl<|QO rfl rfl rfl<|QO rfl rfl rfl<|JV rfl rfl<|JV rfl rfl<|JV rfl rfl<|JV rfl rfl<|JV rfl rfl<|QO rfl rfl rfl<|QO rfl rfl rfl<|JV rfl rfl<|JV rfl rfl<|JV rfl rfl<|JV rfl rfl<|JV rfl rfl<|QO rfl rfl rfl<|QA (Qh rfl rfl rfl)<|QE ?_
      exact X0 ⟨rfl,rfl,(congrArg (fun b=>some (Value.bool b)) (by have h1:PC s=false:=(by simp [PC];simpa using hb41);simp [IN,h1])),trivial⟩ subl_r (fun _ h=>h)
    ·
     simp only [List.cons_append,List.nil_append]
     refine QR rfl (fun hc=>?_) (fun hc=>?_)
     ·
      have hb2:IN s=true:=hc
      refine J_sr<|JS_as rfl<|JS_nt<|QT ?_
      exact QQ (()) rfl (.tmp rfl .nil) (congrArg (Value.int .i64) (by simp [Rz,hb1,hb2])) (fun F ⟨hT,_⟩=>trivial)
     ·
      have hb2:IN s=false:=hc
      refine QP<|QC<|QG ?_
      refine KZ [(3,_),(4,_)] [(72,.bool (Oi s))] ⟨rfl,rfl,trivial⟩ ?_ ?_
      ·
       refine QB<|JS_mv rfl<|QA (QV rfl rfl rfl)<|JS_mv rfl ?_
       refine Qn (t:=65) rfl (fun hb65=>?_) (fun hb65=>?_)
       ·
        refine QO rfl rfl rfl<|QO rfl rfl rfl<|QO rfl rfl rfl<|QO rfl rfl rfl<|QO rfl rfl rfl<|QO rfl rfl rfl<|QA (Qi rfl rfl rfl)<|QE ?_
        exact X0 ⟨rfl,rfl,(congrArg (fun b=>some (Value.bool b)) (by have:=dec_t hb65;simp [Oi];left;omega)),trivial⟩ subl_r (fun _ h=>h)
       ·
        refine QL rfl rfl<|JS_mv rfl<|QL rfl rfl<|QA (J9 rfl Xh)<|QL rfl rfl<|JS_mv rfl<|QL rfl rfl<|QA (J6 rfl rfl (by omega))<|QL rfl rfl<|QA (J6 rfl rfl (by omega))<|QL rfl rfl<|QA (QV rfl rfl rfl)<|QA (Qh rfl rfl rfl)<|QE ?_
        exact X0 ⟨rfl,rfl,(congrArg (fun b=>some (Value.bool b)) (by rw [Bool.eq_iff_iff];have:=dec_f hb65;simp [Oi,Nu];omega)),trivial⟩ subl_r (fun _ h=>h)
      ·
       simp only [List.cons_append,List.nil_append]
       refine QR rfl (fun hc=>?_) (fun hc=>?_)
       ·
        have hb3:Oi s=true:=hc
        refine J_sr<|JS_as rfl<|JS_nt<|QT ?_
        exact QQ (()) rfl (.tmp rfl .nil) (congrArg (Value.int .i64) (by simp [Rz,hb1,hb2,hb3])) (fun F ⟨hT,_⟩=>trivial)
       ·
        have hb3:Oi s=false:=hc
        have hk6:ahead XS (Lib.trimPrefix s [45])≤600:=by simp [Oi] at hb3;exact hb3.1
        refine QP<|QC<|QG<|J_sr<|JS_mv rfl<|JS_mv rfl<|QA (J9 rfl Xh)<|QA (QV rfl rfl rfl)<|QE<|QC ?_
        refine QR rfl (fun hc=>?_) (fun hc=>?_)
        ·
         have hk:ahead XS (Lib.trimPrefix s [45])<(Lib.trimPrefix s [45]).length:=by have:=dec_t hc;omega
         obtain ⟨da,dd⟩:=gJ hb1 hb2 hk
         refine J_sr<|JS_mv rfl<|QI rfl (fun w F hF ⟨hT,_⟩=>zu hF (s:=(Lib.trimPrefix s [45])) (by omega) (by rw [ZQ da];exact da) (fun _=>by rw [show(List.drop (ahead XS (Lib.trimPrefix s [45])+1) (Lib.trimPrefix s [45]))=Nu s from rfl,ZQ dd];exact dd)) (fun c79=>JS_mv rfl<|QA (QM rfl rfl)<|QA (QM rfl rfl)<|Qb Z6 (fun b5=>Qb Z6 (fun b6=>QN (vs:=[_,_]) rfl rfl rfl JH rfl (.there .here) (.here (.here .nil)) ⟨rfl,rfl,trivial⟩<|QN (vs:=[_,_]) rfl rfl rfl JH rfl .here (.here (.here .nil)) ⟨rfl,rfl,trivial⟩<|JS_nt<|QG<|Xz _ (fun w F hF h=>And.intro h.2.1.p (And.intro (h.2.2 hk).p (And.intro h.2.1.1.2.1 (h.2.2 hk).1.2.1))) (fun pp=>?_))))
         obtain ⟨pa,pd,na,nd⟩:=pp
         rw [XI da] at pa
         have pd2:=pd
         rw [show Zv ((Lib.trimPrefix s [45]).drop (ahead XS (Lib.trimPrefix s [45])+1))=Q8 (Nu s) from XI dd] at pd2
         have la:=pa.len
         have ld:=pd2.len
         have sa:=zQ da
         have sd:=zQ dd
         have h600:(Nu s).length≤600:=by simp [Oi] at hb3;exact hb3.2
         rw [List.length_take] at sa
         refine QB<|QA (QH rfl Z1 Qz)<|QA (Qj rfl Qz (.there .here) (.skip (.here .nil)))<|QA (QH rfl Z1 Qz)<|QA (Qj rfl Qz .here (.skip (.here .nil))) ?_
         refine QI rfl (fun w F hF ⟨⟨hT,_⟩,h79⟩=>O9 hF (a:=c79.1.l) (b:=c79.2.l) (ra:=c79.1.r) (rb:=c79.2.r) h79.1.1 ((h79.2 hk).1) (pa.dg) (pd.dg) (pa.nz) (pd.nz) (by omega) (by omega)) (fun c86=>?_);rcases c86 with ⟨v86,l86⟩;dsimp only
         refine JK _ (fun w F hF ⟨⟨⟨hT,_⟩,h79⟩,⟨h86,h86p⟩⟩=>And.intro h86.2 h86p) (fun p86=>JS_as rfl<|QE<|QC ?_)
         refine KZ [] [(95,.bool (OS s))] trivial ?_ ?_
         ·
          have hgc:dv B9 l86=(Nat.gcd (Q8 ((Lib.trimPrefix s [45]).take (ahead XS (Lib.trimPrefix s [45])))) (Q8 (Nu s)):Nat):=by
           rw [p86.2.2.2,jm pa pd2];rfl
          have hone:=L2 p86.2.1 p86.2.2.1
          have hsl:PC s=true:=by simp [PC];exact hk
          refine QB<|JS_mv rfl<|QA (Ql rfl Qf)<|QA (QV rfl rfl rfl)<|JS_mv rfl ?_
          refine Qn (t:=90) rfl (fun hb90=>?_) (fun hb90=>?_)
          ·
           refine QO rfl rfl rfl<|QO rfl rfl rfl<|QO rfl rfl rfl<|QO rfl rfl rfl<|QA (Qi rfl rfl rfl)<|QE ?_
           exact X0 ⟨(congrArg (fun b=>some (Value.bool b)) (by have h1:¬ l86.length=1:=(by simp at hb90;omega);rw [Bool.eq_iff_iff];simp [OS,hsl];intro g;exact h1 (hone.2 (by rw [hgc,g];rfl)).1)),trivial⟩ subl_r (fun _ h=>h)
          ·
           have hn1:v86.n=1:=by simp at hb90;omega
           refine QL rfl rfl<|JS_mv rfl<|QL rfl rfl<|QA (Ja (n:=v86.n) (0) (fun F ⟨⟨⟨hT,_⟩,h79⟩,⟨h86,h86p⟩⟩=>(h86).1) rfl (congrArg (fun z:Int=>some (Value.int .i64 z)) (by omega)) Qf Qp (by omega))<|QL rfl rfl<|QA (Jk (n:=v86.n) ((0)*1) (fun F ⟨⟨⟨hT,_⟩,h79⟩,⟨h86,h86p⟩⟩=>(h86).1) (by omega) rfl Qp (JO (o:=l86) (by omega)))<|QL rfl rfl<|QA (QV rfl rfl rfl)<|QA (Qh rfl rfl rfl)<|QE ?_
           exact X0 ⟨(congrArg (fun b=>some (Value.bool b)) (by have h1:l86.length=1:=(by omega);rw [Bool.eq_iff_iff];simp [OS,hsl];exact not_congr ⟨fun e=>by have h2:=hone.1 ⟨h1,e⟩;rw [hgc] at h2;omega,fun e=>(hone.2 (by rw [hgc,e];rfl)).2⟩)),trivial⟩ subl_r (fun _ h=>h)
         ·
          simp only [List.cons_append,List.nil_append]
          refine QR rfl (fun hc=>?_) (fun hc=>?_)
          ·
           have hg4:OS s=true:=hc
           refine J_sr<|JS_as rfl<|JS_nt<|QT ?_
           exact QQ (()) rfl (.tmp rfl .nil) (congrArg (Value.int .i64) (by simp [Rz,hb1,hb2,hb3,hg4])) (fun F ⟨⟨⟨hT,_⟩,h79⟩,⟨h86,h86p⟩⟩=>trivial)
          ·
           have hg4:OS s=false:=hc
           refine QP<|QC<|J_sr<|JS_as rfl<|JS_nt<|QT ?_
           exact QQ (()) rfl (.tmp rfl .nil) (congrArg (Value.int .i64) (by simp [Rz,hb1,hb2,hb3,hg4])) (fun F ⟨⟨⟨hT,_⟩,h79⟩,⟨h86,h86p⟩⟩=>trivial)
        ·
         have hg4:OS s=false:=by have:=dec_f hc;simp [OS,PC];intro g;omega
         refine QP<|QC<|J_sr<|JS_as rfl<|JS_nt<|QT ?_
         exact QQ (()) rfl (.tmp rfl .nil) (congrArg (Value.int .i64) (by simp [Rz,hb1,hb2,hb3,hg4])) (fun F ⟨hT,_⟩=>trivial)
end
section
open Go.RowKit Ig
theorem jK {w:World} {F:Gs} {q:Option Addr} {n c:Nat} {l:List (List UInt8)} (hF:Fits F w) (hR:Q9 F q n 1 (l.map tx)) (hl:l.length=n∧∀ s∈l,s.length≤1000000) (hn:n≤1000000):QZ Tryz.prog 206 [.slice q n c] w F (.int .i64 (Qm (l.map BJ))):=by
 have hln:=hl.1
 refine QS.intro (G:=fun F=>Q9 F q n 1 (l.map tx)) Tryz.func206 rfl (by rfl) rfl rfl hF (fun F' hF'=>hR.le hF')<|J_sr<|JS_as rfl<|JS_nt<|QG<|J_sr<|JS_as rfl<|JS_nt<|Qa<|Z3 (ι:=Yj l BJ) [(0,_)] (fun i=>[(3,.int .i64 ((i.i:Nat):Int))]) (fun i=>l.length - i.i) (Yj.start _ _) ⟨rfl,trivial⟩ ⟨rfl,trivial⟩ (fun i=>?_)
 simp only [List.cons_append,List.nil_append]
 refine QG<|J_sr<|JS_mv rfl<|JS_mv rfl<|QA (Ql rfl SD)<|QA (QV rfl rfl rfl)<|QE<|QC ?_
 refine QR rfl (fun hc=>?_) (fun hc=>?_)
 ·
  have hi:i.i<l.length:=by have:=dec_t hc;omega
  have hel:=hl.2 _ (Jc hi)
  refine QP<|QC<|QG<|Qa<|J_sr<|JS_mv rfl<|JS_mv rfl<|QA (Ja (n:=n) (i.i) (fun F hR=>hR) rfl rfl SD JR (by omega))<|QA (Jk (n:=n) ((i.i)*1) (fun F hR=>hR) (by omega) rfl JR (Mr (f:=tx) (l:=l) (by omega)))<|QI rfl (fun w F hF hR=>y3 hF (by omega)) (fun _=>QA (QV rfl rfl rfl)<|QE<|QC ?_)
  refine QR rfl (fun hc=>?_) (fun hc=>?_)
  ·
   refine J_sr<|JS_as rfl<|JS_nt<|QT ?_
   repeat (first | refine JJ ?_ | refine JA ?_)
   exact QQ (()) rfl (.tmp rfl .nil) (congrArg (Value.int .i64) (by have h:=i.hit hi (by simpa using hc);rw [h];have h2:BJ (el l i.i)≠0:=(by simpa using hc);unfold BJ at h2 ⊢;split at h2<;>simp_all)) (fun F ⟨hR,_⟩=>trivial)
  ·
   refine QP<|Qk<|QC<|QB<|JS_mv rfl<|QA (Qu rfl rfl (by omega))<|JS_as rfl<|QE ?_
   exact Qo (i.next hi (by simpa using hc)) (by show l.length - (i.i+1)<l.length - i.i;omega) ⟨rfl,rfl,trivial⟩ subl_r (fun F h=>h.1)
 ·
  have hi:l.length≤i.i:=by have:=dec_f hc;omega
  refine Q5 ?_
  repeat (first | refine Qd ?_ | refine QW (by rfl) ?_)
  refine Qe<|QC<|J_sr<|JS_as rfl<|JS_nt<|QT ?_
  exact QQ (()) rfl (.tmp rfl .nil) (congrArg (Value.int .i64) (i.stop hi)) (fun F hR=>trivial)
end
section
open Go.RowKit Ig
theorem CV {w:World} {F:Gs} {lo hi:List UInt8} (hF:Fits F w) (hl:lo.length≤1000000∧hi.length≤1000000):QZ Tryz.prog 125 [.agg #[tx lo,tx hi]] w F (.int .i64 (Qm [BJ lo,BJ hi])):=by
 refine QS.intro (G:=fun F=>True) Tryz.func125 rfl (by rfl) rfl rfl hF (fun F' hF'=>trivial)<|J_sr<|Qw rfl (vs:=[_,_]) rfl (fun b1=>JS_as rfl<|JS_nt<|J_sr<|QA (QH rfl Yr JR)<|QA (Qj rfl JR .here (.here .nil))<|QA (QH rfl Yz JR)<|QA (Qj rfl JR .here (.skip (.here .nil)))<|QU rfl (Q6 SD) JR vX rfl rfl (fun b7=>QI rfl (fun w F hF ⟨hT,hs7⟩=>jK hF (n:=2) (l:=[lo,hi]) (Q9.of (n:=2) (sz:=1) hs7 rfl) (⟨rfl,fun s hs=>by simp at hs;rcases hs with rfl | rfl;exact hl.1;exact hl.2⟩) (by omega)) (fun _=>JS_as rfl<|JS_nt<|QT ?_)))
 exact QQ (()) rfl (.tmp rfl .nil) (rfl) (fun F ⟨⟨hT,hs7⟩,_⟩=>trivial)
end
section
open Go.RowKit Ig
def Xf7:List UInt8:=[45,57,50,50,51,51,55,50,48,51,54,56,53,52,55,55,53,56,48,56]
theorem Xg4:Ju Xf7=((-9223372036854775808:Int):Rat):=by
 have h1:Zv Xf7 = -9223372036854775808:=by decide
 have h2:(ZM 47 Xf7).1=Xf7:=by decide
 unfold Ju
 rw [if_neg (by decide),h2,h1]
def Xes (a:List UInt8):Int×Int :=
 if Jy a=0 then(if((Ju a).den:Int)=1∧-9223372036854775808≤(Ju a).num∧(Ju a).num≤9223372036854775807 then((Ju a).num,0) else(0,3)) else(0,Jy a)
theorem Xht {a:List UInt8} (h:a=Xf7) (hc:Jy a=0):Xes a=(-9223372036854775808,0):=by
 unfold Xes
 rw [if_pos hc,h,Xg4];rfl
theorem Xhp {a:List UInt8} (hc:Jy a=0) (hd:((Ju a).den:Int)=1) (h:(Ju a).num = -9223372036854775808):a=Xf7:=by
 have h1:=(Zj hc).1
 have h2:Ju a=((-9223372036854775808:Int):Rat):=by
  apply Rat.ext
  ·rw [Rat.num_intCast];exact h
  ·rw [Rat.den_intCast];omega
 have h3:Jy Xf7=0:=by decide
 have h4:=(Zj h3).1
 rw [Xg4] at h4
 rw [h1,h2,← h4]
theorem Xhu {a:List UInt8} (hc:Jy a=0) (hd:(!decide (((Ju a).den:Int)=1))=true):Xes a=(0,3):=by
 unfold Xes
 rw [if_pos hc,if_neg (fun h=>by simp [h.1] at hd)]
theorem Xhy {a:List UInt8} {c:Int×Bool} (hc:Jy a=0) (hm:a≠Xf7) (h:(c.2=true∧c.1=(Ju a).num∧-9223372036854775808≤(Ju a).num∧(Ju a).num≤9223372036854775807)∨(c.2=false∧¬ (-9223372036854775808≤(Ju a).num∧(Ju a).num≤9223372036854775807∧(Ju a).num≠-9223372036854775808))) (hf:(!c.2)=true):Xes a=(0,3):=by
 rcases h with ⟨g,_⟩ | ⟨_,g⟩
 ·rw [g] at hf;cases hf
 ·unfold Xes
  rw [if_pos hc,if_neg (fun h=>g ⟨h.2.1,h.2.2,fun e=>hm (Xhp hc h.1 e)⟩)]
theorem Xhs {a:List UInt8} {c:Int×Bool} (hc:Jy a=0) (hd:(!decide (((Ju a).den:Int)=1))=false) (h:(c.2=true∧c.1=(Ju a).num∧-9223372036854775808≤(Ju a).num∧(Ju a).num≤9223372036854775807)∨(c.2=false∧¬ (-9223372036854775808≤(Ju a).num∧(Ju a).num≤9223372036854775807∧(Ju a).num≠-9223372036854775808))) (hf:(!c.2)=false):Xes a=(c.1,0):=by
 rcases h with ⟨_,g1,g2,g3⟩ | ⟨g,_⟩
 ·unfold Xes
  rw [if_pos hc,if_pos ⟨by simpa using hd,g2,g3⟩,g1]
 ·rw [g] at hf;cases hf
theorem Xhz {w:World} {F:Gs} {a:List UInt8} (hF:Fits F w) (hGl:JB F) (ha:a.length≤1000000) :
  QZ Tryz.prog 69 [tx a] w F (.tuple #[.int .i64 (Xes a).1,.int .i64 (Xes a).2]):=by
 refine QS.intro (G:=fun F=>JB F) Tryz.func69 rfl (by rfl) rfl rfl hF (fun F' hF'=>hGl.le hF')<|J_sr<|JS_as rfl<|JS_as rfl<|JS_nt<|QG<|J_sr<|JS_mv rfl<|QI rfl (fun w F hF hGl=>Ef hF hGl (ha)) (fun _=>JS_as rfl<|JS_nt<|J_sr<|JS_mv rfl<|QA (QV rfl rfl rfl)<|QE<|QC ?_)
 refine QR rfl (fun hc=>?_) (fun hc=>?_)
 ·
  have hc0:=bne_iff_ne.1 hc
  refine J_sr<|JS_mv rfl<|JS_as rfl<|JS_as rfl<|JS_nt<|QT ?_
  exact JY (()) rfl (.tmp rfl (.tmp rfl .nil)) (by unfold Xes;rw [if_neg hc0]) (fun F ⟨hGl,_⟩=>trivial)
 ·
  have hc0:=bne_eq_false_iff_eq.1 hc
  refine QP<|QC<|QG<|J_sr<|JS_mv rfl<|QA (K3 rfl rfl)<|QE<|QC ?_
  refine QR rfl (fun hc=>?_) (fun hc=>?_)
  ·
   have hm:a=Xf7:=eq_of_beq hc
   refine J_sr<|JS_as rfl<|JS_as rfl<|JS_nt<|QT ?_
   exact JY (()) rfl (.tmp rfl (.tmp rfl .nil)) (by rw [Xht hm hc0]) (fun F ⟨hGl,_⟩=>trivial)
  ·
   have hm:a≠Xf7:=fun e=>by rw [e] at hc;exact absurd hc (by decide)
   refine QP<|QC<|J_sr<|JS_mv rfl<|QI rfl (fun w F hF ⟨hGl,_⟩=>He hF hGl ((Zj hc0).1) (by omega)) (fun x16=>Qb Xw (fun b5=>QN (vs:=[_,_,_,_]) rfl rfl rfl Qc rfl .here (.here (.here (.here (.here .nil)))) ⟨rfl,rfl,rfl,rfl,trivial⟩<|JS_nt<|J_sr<|QA (QH rfl ZG QX)<|QA (QJ (vs:=[_,_]) rfl QX .here (.here (.here .nil)) rfl)<|QI rfl (fun w F hF ⟨⟨hGl,_⟩,⟨h16,h16_⟩⟩=>CP hF (by assumption)) (fun c20=>JK _ (fun w F hF h=>h.2) (fun h20=>JS_mv rfl<|QA (QM rfl rfl)<|QA (QM rfl rfl)<|JS_as rfl<|JS_as rfl<|JS_nt<|QG<|QG ?_))))
   refine QB<|QA (QJ (vs:=[_,_,_,_]) rfl Qc .here (.here (.here (.here (.here .nil)))) rfl)<|QI rfl (fun w F hF ⟨⟨⟨hGl,_⟩,⟨h16,h16_⟩⟩,_⟩=>B8 hF ⟨by assumption,by assumption⟩) (fun _=>QA (Yt rfl)<|JS_mv rfl ?_)
   refine Qn (t:=26) rfl (fun hb26=>?_) (fun hb26=>?_)
   ·
    refine QO rfl rfl rfl<|QO rfl rfl rfl<|QA (Qi rfl rfl rfl)<|JS_nt<|WT rfl<|J_sr<|JS_as rfl<|JS_as rfl<|JS_nt<|QT ?_
    exact JY (()) rfl (.tmp rfl (.tmp rfl .nil)) (by rw [Xhu hc0 hb26]) (fun F ⟨⟨⟨⟨hGl,_⟩,⟨h16,h16_⟩⟩,_⟩,_⟩=>trivial)
   ·
    refine QL rfl rfl<|JS_mv rfl<|QL rfl rfl<|QA (Yt rfl)<|QA (Qh rfl rfl rfl)<|QE<|QC ?_
    refine QR rfl (fun hc=>?_) (fun hc=>?_)
    ·
     refine J_sr<|JS_as rfl<|JS_as rfl<|JS_nt<|QT ?_
     exact JY (()) rfl (.tmp rfl (.tmp rfl .nil)) (by rw [Xhy hc0 hm h20 hc]) (fun F ⟨⟨⟨⟨hGl,_⟩,⟨h16,h16_⟩⟩,_⟩,_⟩=>trivial)
    ·
     refine QP<|QC<|J_sr<|JS_mv rfl<|JS_as rfl<|JS_as rfl<|JS_nt<|QT ?_
     exact JY (()) rfl (.tmp rfl (.tmp rfl .nil)) (by rw [Xhs hc0 hb26 h20 hc];rfl) (fun F ⟨⟨⟨⟨hGl,_⟩,⟨h16,h16_⟩⟩,_⟩,_⟩=>trivial)
end
section
open Go.RowKit Ig
structure NmI (s:List UInt8) where
 i:Nat
 le:i≤s.length
 e:Gq 0 s=Gq i (s.drop i)
theorem Xge {w:World} {F:Gs} {s:List UInt8} (hF:Fits F w) (hl:s.length≤1000000000):QZ Tryz.prog 67 [tx s] w F (.bool (PX s)):=by
 refine QS.intro (G:=fun F=>True) Tryz.func67 rfl (by rfl) rfl rfl hF (fun F' hF'=>trivial)<|J_sr<|JS_as rfl<|JS_nt<|QG<|J_sr<|JS_mv rfl<|QA (J9 rfl Xh)<|QA (QV rfl rfl rfl)<|JS_mv rfl ?_
 refine Qn (t:=9) rfl (fun hb9=>?_) (fun hb9=>?_)
 ·
  refine QO rfl rfl rfl<|QO rfl rfl rfl<|QO rfl rfl rfl<|QA (Qi rfl rfl rfl)<|JS_nt<|WT rfl<|J_sr<|JS_as rfl<|JS_nt<|QT ?_
  exact QQ (()) rfl (.tmp rfl .nil) (congrArg Value.bool (by unfold PX;have h:=dec_t hb9;rw [decide_eq_false (show ¬ 0<s.length by omega)];simp)) (fun F _=>trivial)
 ·
  refine QL rfl rfl<|JS_mv rfl<|QL rfl rfl<|QA (J9 rfl Xh)<|QL rfl rfl<|QA (QV rfl rfl rfl)<|QA (Qh rfl rfl rfl)<|QE<|QC ?_
  refine QR rfl (fun hc=>?_) (fun hc=>?_)
  ·
   refine J_sr<|JS_as rfl<|JS_nt<|QT ?_
   exact QQ (()) rfl (.tmp rfl .nil) (congrArg Value.bool (by unfold PX;have h:=dec_t hc;rw [decide_eq_false (show ¬ s.length≤24 by omega)];simp)) (fun F _=>trivial)
  ·
   have h24:=dec_f hc
   refine QP<|QC<|QG<|J_sr<|JS_as rfl<|JS_nt<|Qa<|Z3 (ι:=NmI s) [(0,_)] (fun i=>[(3,.int .i64 ((i.i:Nat):Int))]) (fun i=>s.length - i.i) (⟨0,Nat.zero_le _,by rw [List.drop_zero]⟩) ⟨rfl,trivial⟩ ⟨rfl,trivial⟩ (fun i=>?_)
   simp only [List.cons_append,List.nil_append]
   have hi:=i.le
   refine QG<|J_sr<|JS_mv rfl<|JS_mv rfl<|QA (J9 rfl Xh)<|QA (QV rfl rfl rfl)<|QE<|QC ?_
   refine QR rfl (fun hc=>?_) (fun hc=>?_)
   ·
    have hlt:i.i<s.length:=by have:=dec_t hc;omega
    refine QP<|QC<|QG<|Qa<|J_sr<|JS_mv rfl<|JS_mv rfl<|QA (Vn (i:=i.i) rfl rfl Xh hlt)<|JS_as rfl<|QE<|QC ?_
    refine KZ [(0,_),(3,_)] [(4,.int .u8 (s[i.i].toNat:Int)),(5,.bool ((TT s[i.i].toNat)))] ⟨rfl,rfl,trivial⟩ ?_ ?_
    ·
     refine QB<|JS_mv rfl<|QA (QV rfl rfl rfl)<|JS_mv rfl ?_
     refine Qn (t:=25) rfl (fun hb25=>?_) (fun hb25=>?_)
     ·
      refine QL rfl rfl<|JS_mv rfl<|QL rfl rfl<|QA (QV rfl rfl rfl)<|QA (Qi rfl rfl rfl)<|JS_mv rfl ?_
      refine Qn (t:=29) rfl (fun hb29=>?_) (fun hb29=>?_)
      ·
       refine QO rfl rfl rfl<|QO rfl rfl rfl<|QO rfl rfl rfl<|JV rfl rfl<|JV rfl rfl<|QO rfl rfl rfl<|QA (Qi rfl rfl rfl)<|JS_as rfl<|QE ?_
       exact X0 ⟨rfl,rfl,rfl,(congrArg (fun b=>some (Value.bool b)) (by unfold TT;rw [Bool.eq_iff_iff];simp_all<;>omega)),trivial⟩ subl_r (fun _ h=>h)
      ·
       refine QL rfl rfl<|JS_mv rfl<|QL rfl rfl<|QA (QV rfl rfl rfl)<|QL rfl rfl<|JS_mv rfl ?_
       refine Qn (t:=32) rfl (fun hb32=>?_) (fun hb32=>?_)
       ·
        refine QL rfl rfl<|JS_mv rfl<|QL rfl rfl<|QA (QV rfl rfl rfl)<|QL rfl rfl<|QA (Qi rfl rfl rfl)<|QA (Qh rfl rfl rfl)<|JS_as rfl<|QE ?_
        exact X0 ⟨rfl,rfl,rfl,(congrArg (fun b=>some (Value.bool b)) (by unfold TT;rw [Bool.eq_iff_iff];simp_all<;>omega)),trivial⟩ subl_r (fun _ h=>h)
       ·
        refine QO rfl rfl rfl<|QO rfl rfl rfl<|QL rfl rfl<|QA (Qh rfl rfl rfl)<|QA (Qh rfl rfl rfl)<|JS_as rfl<|QE ?_
        exact X0 ⟨rfl,rfl,rfl,(congrArg (fun b=>some (Value.bool b)) (by unfold TT;rw [Bool.eq_iff_iff];simp_all<;>omega)),trivial⟩ subl_r (fun _ h=>h)
     ·
      refine QO rfl rfl rfl<|QO rfl rfl rfl<|QA (Qh rfl rfl rfl)<|JS_mv rfl<|QL rfl rfl<|JS_mv rfl<|QL rfl rfl<|QA (QV rfl rfl rfl)<|QL rfl rfl<|JS_mv rfl ?_
      refine Qn (t:=32) rfl (fun hb32=>?_) (fun hb32=>?_)
      ·
       refine QL rfl rfl<|JS_mv rfl<|QL rfl rfl<|QA (QV rfl rfl rfl)<|QL rfl rfl<|QA (Qi rfl rfl rfl)<|QA (Qh rfl rfl rfl)<|JS_as rfl<|QE ?_
       exact X0 ⟨rfl,rfl,rfl,(congrArg (fun b=>some (Value.bool b)) (by unfold TT;rw [Bool.eq_iff_iff];simp_all<;>omega)),trivial⟩ subl_r (fun _ h=>h)
      ·
       refine QO rfl rfl rfl<|QO rfl rfl rfl<|QL rfl rfl<|QA (Qh rfl rfl rfl)<|QA (Qh rfl rfl rfl)<|JS_as rfl<|QE ?_
       exact X0 ⟨rfl,rfl,rfl,(congrArg (fun b=>some (Value.bool b)) (by unfold TT;rw [Bool.eq_iff_iff];simp_all<;>omega)),trivial⟩ subl_r (fun _ h=>h)
    ·
     simp only [List.cons_append,List.nil_append]
     refine KZ [(0,_),(3,_)] [(55,.bool ((NI i.i s[i.i].toNat)))] ⟨rfl,rfl,trivial⟩ ?_ ?_
     ·
      refine QB<|JS_mv rfl<|QA (Yt rfl)<|JS_mv rfl ?_
      refine Qn (t:=39) rfl (fun hb39=>?_) (fun hb39=>?_)
      ·
       refine QL rfl rfl<|JS_mv rfl<|QL rfl rfl<|QA (QV rfl rfl rfl)<|QL rfl rfl<|JS_mv rfl ?_
       refine Qn (t:=42) rfl (fun hb42=>?_) (fun hb42=>?_)
       ·
        refine QO rfl rfl rfl<|QO rfl rfl rfl<|QO rfl rfl rfl<|JV rfl rfl<|JV rfl rfl<|QO rfl rfl rfl<|QO rfl rfl rfl<|JV rfl rfl<|JV rfl rfl<|QO rfl rfl rfl<|QO rfl rfl rfl<|QL rfl rfl<|QA (Qi rfl rfl rfl)<|QA (Qi rfl rfl rfl)<|QE ?_
        exact X0 ⟨rfl,rfl,(congrArg (fun b=>some (Value.bool b)) (by unfold NI;rw [Bool.eq_iff_iff];simp_all<;>omega)),trivial⟩ subl_r (fun _ h=>h)
       ·
        refine QL rfl rfl<|JS_mv rfl<|QL rfl rfl<|QA (QV rfl rfl rfl)<|QL rfl rfl<|JS_mv rfl ?_
        refine Qn (t:=45) rfl (fun hb45=>?_) (fun hb45=>?_)
        ·
         refine QL rfl rfl<|JS_mv rfl<|QL rfl rfl<|QA (QV rfl rfl rfl)<|QL rfl rfl<|QA (Qi rfl rfl rfl)<|QL rfl rfl<|JS_mv rfl ?_
         refine Qn (t:=49) rfl (fun hb49=>?_) (fun hb49=>?_)
         ·
          refine QO rfl rfl rfl<|QO rfl rfl rfl<|QL rfl rfl<|QA (Qi rfl rfl rfl)<|QL rfl rfl<|QA (Yt rfl)<|QL rfl rfl<|QA (Qh rfl rfl rfl)<|QA (Qi rfl rfl rfl)<|QE ?_
          exact X0 ⟨rfl,rfl,(congrArg (fun b=>some (Value.bool b)) (by unfold NI;rw [Bool.eq_iff_iff];simp_all<;>omega)),trivial⟩ subl_r (fun _ h=>h)
         ·
          refine QL rfl rfl<|JS_mv rfl<|QL rfl rfl<|QA (QV rfl rfl rfl)<|QL rfl rfl<|QA (Qh rfl rfl rfl)<|QL rfl rfl<|QA (Yt rfl)<|QL rfl rfl<|QA (Qh rfl rfl rfl)<|QA (Qi rfl rfl rfl)<|QE ?_
          exact X0 ⟨rfl,rfl,(congrArg (fun b=>some (Value.bool b)) (by unfold NI;rw [Bool.eq_iff_iff];simp_all<;>omega)),trivial⟩ subl_r (fun _ h=>h)
        ·
         refine QO rfl rfl rfl<|QO rfl rfl rfl<|QL rfl rfl<|QA (Qh rfl rfl rfl)<|QL rfl rfl<|JS_mv rfl<|QL rfl rfl<|JS_mv rfl<|QL rfl rfl<|QA (QV rfl rfl rfl)<|QL rfl rfl<|QA (Qh rfl rfl rfl)<|QL rfl rfl<|QA (Yt rfl)<|QL rfl rfl<|QA (Qh rfl rfl rfl)<|QA (Qi rfl rfl rfl)<|QE ?_
         exact X0 ⟨rfl,rfl,(congrArg (fun b=>some (Value.bool b)) (by unfold NI;rw [Bool.eq_iff_iff];simp_all<;>omega)),trivial⟩ subl_r (fun _ h=>h)
      ·
       refine QO rfl rfl rfl<|QO rfl rfl rfl<|QO rfl rfl rfl<|JV rfl rfl<|JV rfl rfl<|JV rfl rfl<|JV rfl rfl<|JV rfl rfl<|JV rfl rfl<|JV rfl rfl<|JV rfl rfl<|JV rfl rfl<|JV rfl rfl<|JV rfl rfl<|QO rfl rfl rfl<|QA (Qh rfl rfl rfl)<|QE ?_
       exact X0 ⟨rfl,rfl,(congrArg (fun b=>some (Value.bool b)) (by unfold NI;rw [Bool.eq_iff_iff];simp_all<;>omega)),trivial⟩ subl_r (fun _ h=>h)
     ·
      simp only [List.cons_append,List.nil_append]
      refine QR rfl (fun hc2=>?_) (fun hc2=>?_)
      ·
       refine J_sr<|JS_as rfl<|JS_nt<|QT ?_
       repeat (first | refine JJ ?_ | refine JA ?_)
       exact QQ (()) rfl (.tmp rfl .nil) (congrArg Value.bool (by unfold PX;rw [i.e,Mg hlt,show NI i.i s[i.i].toNat=true from hc2];rfl)) (fun F _=>trivial)
      ·
       refine QP<|Qk<|QC<|QB<|JS_mv rfl<|QA (Qu rfl rfl (by omega))<|JS_as rfl<|QE ?_
       exact Qo (⟨i.i+1,hlt,by rw [i.e,Mg hlt,show NI i.i s[i.i].toNat=false from hc2];simp⟩) (by show s.length - (i.i+1)<s.length - i.i;omega) ⟨rfl,rfl,trivial⟩ subl_r (fun F h=>h)
   ·
    have hge:i.i=s.length:=by have:=dec_f hc;omega
    refine Q5 ?_
    repeat (first | refine Qd ?_ | refine QW (by rfl) ?_)
    refine Qe<|QC<|J_sr<|JS_as rfl<|JS_nt<|QT ?_
    exact QQ (()) rfl (.tmp rfl .nil) (congrArg Value.bool (by unfold PX;rw [i.e,hge,List.drop_length];have h:=dec_f hb9;simp only [Gq,Bool.true_and];rw [decide_eq_true (show 0<s.length by omega),decide_eq_true (show s.length≤24 by omega)];rfl)) (fun F _=>trivial)
end
section
open Go.RowKit Ig
def tiO (x:Rat):Int×Bool:=if(x.den:Int)=1∧-9223372036854775808≤x.num∧x.num≤9223372036854775807 then(x.num,true) else(0,false)
structure TiI (g:Bool) (l:List Int) where
 k:Nat
 le:k≤l.length
 lo : -9223372036854775808≤G9 g (l.drop k)
 hi:G9 g (l.drop k)≤9223372036854775807
def sdg (g:Bool) (d:Int):Int:=if g=true then -d else d
def ovB (o d:Int):Bool:=(decide (o>9223372036)||decide (o < -9223372036))||(decide (o=9223372036)&&decide (d>854775807))||(decide (o = -9223372036)&&decide (d < -854775808))
theorem Xfi {l:List Int} {k:Nat} (h:k<l.length):Qg l k∈l:=by rw [ZJ h];exact List.getElem_mem h
theorem Xf3 {l:List Int} {k:Nat} (h0:0<k) (h:k≤l.length):dv B9 (l.drop (k - 1))=Qg l (k - 1)+B9*dv B9 (l.drop k):=by
 have hk:k - 1<l.length:=by omega
 rw [List.drop_eq_getElem_cons hk,show k - 1+1=k by omega,dv,ZJ hk]
theorem Xg2 {l:List Int} (hd:DG B9 l):∀ k,dv B9 (l.drop k)≤dv B9 l:=by
 intro k
 induction k generalizing l with
 |zero=>exact Int.le_refl _
 |succ k ih =>
  cases l with
  |nil=>exact Int.le_refl _
  |cons x l =>
   have h1:=ih fun y hy=>hd y (List.mem_cons_of_mem _ hy)
   have h2:=(hd x (List.mem_cons_self ..)).1
   have h3:0≤dv B9 l:=Qs (by decide) fun y hy=>hd y (List.mem_cons_of_mem _ hy)
   rw [List.drop_succ_cons]
   show _≤x+B9*dv B9 l
   unfold B9 at *
   omega
theorem DG.drop {l:List Int} (hd:DG B9 l) (k:Nat):DG B9 (l.drop k):=fun x hx=>hd x (List.mem_of_mem_drop hx)
theorem Xf5 {g:Bool} {l:List Int} {k:Nat} (h0:0<k) (h:k≤l.length):G9 g (l.drop (k - 1))=G9 g (l.drop k)*1000000000+sdg g (Qg l (k - 1)):=by
 unfold G9 sdg
 rw [Xf3 h0 h]
 unfold B9
 cases g<;>simp<;>omega
theorem Xhw {g:Bool} {l:List Int} {k:Nat} {z:Int} (hd:DG B9 l) (hz:z=G9 g l) (h0:0<k) (h:k≤l.length) (hb:ovB (G9 g (l.drop k)) (sdg g (Qg l (k - 1)))=true):¬ (-9223372036854775808≤z∧z≤9223372036854775807):=by
 have h1:=Xg2 hd (k - 1)
 rw [Xf3 h0 h] at h1
 have h2:0≤dv B9 (l.drop k):=Qs (by decide) (hd.drop k)
 have h3:=hd _ (Xfi (show k - 1<l.length by omega))
 unfold ovB G9 sdg at hb
 unfold G9 at hz
 unfold B9 at *
 cases g
 ·simp at hb hz;omega
 ·simp at hb hz;omega
theorem Xfv {g:Bool} {l:List Int} {k:Nat} (hd:DG B9 l) (h0:0<k) (h:k≤l.length) (hb:ovB (G9 g (l.drop k)) (sdg g (Qg l (k - 1)))=false):(-9223372036≤G9 g (l.drop k)∧G9 g (l.drop k)≤9223372036)∧-9223372036854775808≤G9 g (l.drop k)*1000000000+sdg g (Qg l (k - 1))∧G9 g (l.drop k)*1000000000+sdg g (Qg l (k - 1))≤9223372036854775807:=by
 have h2:0≤dv B9 (l.drop k):=Qs (by decide) (hd.drop k)
 have h3:=hd _ (Xfi (show k - 1<l.length by omega))
 unfold ovB G9 sdg at hb
 unfold G9 sdg
 unfold B9 at *
 cases g
 ·simp at hb ⊢;omega
 ·simp at hb ⊢;omega
def TiI.next {g:Bool} {l:List Int} (i:TiI g l) (hd:DG B9 l) (h0:0<i.k) (hb:ovB (G9 g (l.drop i.k)) (sdg g (Qg l (i.k - 1)))=false):TiI g l:=⟨i.k - 1,by have:=i.le;omega,by
  rw [Xf5 h0 i.le];exact(Xfv hd h0 i.le hb).2.1,by
  rw [Xf5 h0 i.le];exact(Xfv hd h0 i.le hb).2.2⟩
theorem Xgk {z:Int} (h : -9223372036854775808≤z∧z≤9223372036854775807):(Xu z).length≤20:=by
 have h1:(Lib.decDigits z.natAbs).length≤19:=by
  rw [Lib.decDigits_length]
  have:=RZ (u:=z.natAbs) (k:=19) (by decide)
  have h2:¬ 10^19≤z.natAbs:=by omega
  have h3:¬ 19<Lib.nDigits z.natAbs:=fun e=>h2 (this.1 e)
  omega
 rcases Int.lt_or_le z 0 with g | g
 ·rw [YB g,List.length_cons];omega
 ·rw [Jx g];omega
theorem Xh4 {w:World} {F:Gs} {x:Rat} (hF:Fits F w) (hl:JL x≤100000):QZ Tryz.prog 70 [tx (JQ x)] w F (.tuple #[.int .i64 (tiO x).1,.bool (tiO x).2]):=by
 have hlen:=Gy x
 refine QS.intro (G:=fun F=>True) Tryz.func70 rfl (by rfl) rfl rfl hF (fun F' hF'=>trivial)<|J_sr<|JS_as rfl<|JS_as rfl<|JS_nt<|QG<|J_sr<|JS_mv rfl<|QI rfl (fun w F hF _=>yx hF (by omega)) (fun _=>QA (Yt rfl)<|JS_mv rfl ?_)
 refine Qn (t:=11) rfl (fun hb11=>?_) (fun hb11=>?_)
 ·
  refine QO rfl rfl rfl<|QO rfl rfl rfl<|QO rfl rfl rfl<|QA (Qi rfl rfl rfl)<|JS_nt<|WT rfl<|J_sr<|JS_as rfl<|JS_as rfl<|JS_nt<|QT ?_
  exact JY (()) rfl (.tmp rfl (.tmp rfl .nil)) (by unfold tiO;rw [if_neg (fun e=>by have:=(Nj x).2 (by have:=e.1;omega);rw [this] at hb11;simp at hb11)]) (fun F ⟨_,_⟩=>trivial)
 ·
  refine QL rfl rfl<|JS_mv rfl<|QL rfl rfl<|QA (J9 rfl MQ)<|QL rfl rfl<|QA (QV rfl rfl rfl)<|QA (Qh rfl rfl rfl)<|QE<|QC ?_
  refine QR rfl (fun hc=>?_) (fun hc=>?_)
  ·
   refine J_sr<|JS_as rfl<|JS_as rfl<|JS_nt<|QT ?_
   exact JY (()) rfl (.tmp rfl (.tmp rfl .nil)) (by unfold tiO;rw [if_neg (fun e=>by have h1:=Xgk e.2;have h2:=dec_t hc;rw [(Ni (show x.den=1 by have:=e.1;omega)).1] at h2;omega)]) (fun F ⟨_,_⟩=>trivial)
  ·
   have hw1:ahead XS (JQ x)=(JQ x).length:=by simpa using hb11
   have hd1:x.den=1:=(Nj x).1 hw1
   have h20:=dec_f hc
   refine QP<|QC<|J_sr<|JS_mv rfl<|QI rfl (fun w F hF ⟨_,_⟩=>Gp hF (by rw [(Ni hd1).1];exact PR _) (by omega)) (fun c17=>Qb Z6 (fun b4=>QN (vs:=[_,_]) rfl rfl rfl JH rfl .here (.here (.here .nil)) ⟨rfl,rfl,trivial⟩<|JS_nt<|QG<|Xz _ (fun w F hF h=>And.intro h.2.2 (And.intro h.2.1.2.1 h.2.p.len)) (fun p17=>?_)))
   obtain ⟨⟨hdg,_,hzz,_⟩,n17,hlz0⟩:=p17
   have hz:x.num=G9 c17.neg c17.l:=by rw [(Ni hd1).1,Yo] at hzz;exact hzz
   have hlz:c17.r.n≤1000000000000:=by rw [(Ni hd1).1,Yo] at hlz0;have h1:=Jf x;omega
   refine QB<|JS_as rfl<|JS_nt<|QG<|J_sr<|QA (QH rfl Z1 Qz)<|QA (Qj rfl Qz .here (.skip (.here .nil)))<|QA (Ql rfl Qf)<|QA (J6 rfl rfl (by omega))<|JS_as rfl<|JS_nt<|Qa<|Z3 (ι:=TiI c17.neg c17.l) [(4,_)] (fun i=>[(5,.int .i64 ((G9 c17.neg (c17.l.drop i.k)))),(6,.int .i64 (((i.k:Int) - 1)))]) (fun i=>i.k) (⟨c17.l.length,Nat.le_refl _,by rw [List.drop_length];unfold G9;cases c17.neg<;>decide,by rw [List.drop_length];unfold G9;cases c17.neg<;>decide⟩) ⟨rfl,trivial⟩ ⟨(by show some (Value.int .i64 0)=some (Value.int .i64 (G9 c17.neg (c17.l.drop c17.l.length)));rw [List.drop_length];unfold G9;cases c17.neg<;>rfl),(by show some (Value.int .i64 ((c17.r.n:Int) - 1))=some (Value.int .i64 ((c17.l.length:Int) - 1));rw [n17]),trivial⟩ (fun i=>?_)
   simp only [List.cons_append,List.nil_append]
   have hi:=i.le
   refine QG<|J_sr<|JS_mv rfl<|QA (QV rfl rfl rfl)<|QE<|QC ?_
   refine QR rfl (fun hc2=>?_) (fun hc2=>?_)
   ·
    have hk0:0<i.k:=by have:=dec_t hc2;omega
    have hdr:=hdg _ (Xfi (show i.k - 1<c17.l.length by omega))
    have hB9:B9=1000000000:=rfl
    refine QP<|QC<|QG<|Qa<|J_sr<|QA (QH rfl Z1 Qz)<|QA (Qj rfl Qz .here (.skip (.here .nil)))<|JS_mv rfl<|QA (Ja (n:=c17.r.n) ((i.k - 1)) (fun F ⟨⟨_,_⟩,h17⟩=>(h17.1).1) rfl (congrArg (fun z:Int=>some (Value.int .i64 z)) (by omega)) Qf Qp (by omega))<|QA (Jk (n:=c17.r.n) (((i.k - 1))*1) (fun F ⟨⟨_,_⟩,h17⟩=>(h17.1).1) (by omega) rfl Qp (JO (o:=c17.l) (by omega)))<|JS_as rfl<|QE<|QC ?_
    refine KZ [(4,_),(5,_),(6,_)] [(7,.int .i64 ((sdg c17.neg (Qg c17.l (i.k - 1)))))] ⟨rfl,rfl,rfl,trivial⟩ ?_ ?_
    ·
     refine J_sr<|QA (QH rfl KO Vy)<|QA (Qj rfl Vy .here (.here .nil))<|QE<|QC ?_
     refine QR rfl (fun hc=>?_) (fun hc=>?_)
     ·
      refine QB<|JS_mv rfl<|QA (J6 rfl rfl (by omega))<|JS_as rfl<|QE ?_
      exact X0 ⟨rfl,rfl,rfl,(congrArg (fun z:Int=>some (Value.int .i64 z)) (by unfold sdg;rw [if_pos hc];omega)),trivial⟩ subl_r (fun _ h=>h)
     ·
      refine QP ?_
      exact X0 ⟨rfl,rfl,rfl,(congrArg (fun z:Int=>some (Value.int .i64 z)) (by unfold sdg;rw [if_neg (by rw [hc];decide)])),trivial⟩ subl_r (fun _ h=>h)
    ·
     simp only [List.cons_append,List.nil_append]
     refine QG ?_
     refine KZ [(4,_),(5,_),(6,_),(7,_)] [(56,.bool ((ovB (G9 c17.neg (c17.l.drop i.k)) (sdg c17.neg (Qg c17.l (i.k - 1))))))] ⟨rfl,rfl,rfl,rfl,trivial⟩ ?_ ?_
     ·
      refine QB<|JS_mv rfl<|QA (QV rfl rfl rfl)<|JS_mv rfl ?_
      refine Qn (t:=37) rfl (fun hb37=>?_) (fun hb37=>?_)
      ·
       refine QO rfl rfl rfl<|QO rfl rfl rfl<|QA (Qi rfl rfl rfl)<|JS_mv rfl<|QO rfl rfl rfl<|QO rfl rfl rfl<|QO rfl rfl rfl<|JV rfl rfl<|JV rfl rfl<|QO rfl rfl rfl<|QA (Qi rfl rfl rfl)<|JS_mv rfl<|QO rfl rfl rfl<|QO rfl rfl rfl<|QO rfl rfl rfl<|JV rfl rfl<|JV rfl rfl<|QO rfl rfl rfl<|QA (Qi rfl rfl rfl)<|QE ?_
       exact X0 ⟨rfl,rfl,rfl,rfl,(congrArg (fun b=>some (Value.bool b)) (by unfold ovB;rw [Bool.eq_iff_iff];simp_all<;>omega)),trivial⟩ subl_r (fun _ h=>h)
      ·
       refine QL rfl rfl<|JS_mv rfl<|QL rfl rfl<|QA (QV rfl rfl rfl)<|QA (Qh rfl rfl rfl)<|JS_mv rfl ?_
       refine Qn (t:=41) rfl (fun hb41=>?_) (fun hb41=>?_)
       ·
        refine QO rfl rfl rfl<|QO rfl rfl rfl<|QO rfl rfl rfl<|JV rfl rfl<|JV rfl rfl<|QO rfl rfl rfl<|QA (Qi rfl rfl rfl)<|JS_mv rfl<|QO rfl rfl rfl<|QO rfl rfl rfl<|QO rfl rfl rfl<|JV rfl rfl<|JV rfl rfl<|QO rfl rfl rfl<|QA (Qi rfl rfl rfl)<|QE ?_
        exact X0 ⟨rfl,rfl,rfl,rfl,(congrArg (fun b=>some (Value.bool b)) (by unfold ovB;rw [Bool.eq_iff_iff];simp_all<;>omega)),trivial⟩ subl_r (fun _ h=>h)
       ·
        refine QL rfl rfl<|JS_mv rfl<|QL rfl rfl<|QA (QV rfl rfl rfl)<|QL rfl rfl<|JS_mv rfl ?_
        refine Qn (t:=44) rfl (fun hb44=>?_) (fun hb44=>?_)
        ·
         refine QL rfl rfl<|JS_mv rfl<|QL rfl rfl<|QA (QV rfl rfl rfl)<|QL rfl rfl<|QA (Qi rfl rfl rfl)<|QA (Qh rfl rfl rfl)<|JS_mv rfl ?_
         refine Qn (t:=49) rfl (fun hb49=>?_) (fun hb49=>?_)
         ·
          refine QO rfl rfl rfl<|QO rfl rfl rfl<|QO rfl rfl rfl<|JV rfl rfl<|JV rfl rfl<|QO rfl rfl rfl<|QA (Qi rfl rfl rfl)<|QE ?_
          exact X0 ⟨rfl,rfl,rfl,rfl,(congrArg (fun b=>some (Value.bool b)) (by unfold ovB;rw [Bool.eq_iff_iff];simp_all<;>omega)),trivial⟩ subl_r (fun _ h=>h)
         ·
          refine QL rfl rfl<|JS_mv rfl<|QL rfl rfl<|QA (QV rfl rfl rfl)<|QL rfl rfl<|JS_mv rfl ?_
          refine Qn (t:=52) rfl (fun hb52=>?_) (fun hb52=>?_)
          ·
           refine QL rfl rfl<|JS_mv rfl<|QL rfl rfl<|QA (QV rfl rfl rfl)<|QL rfl rfl<|QA (Qi rfl rfl rfl)<|QA (Qh rfl rfl rfl)<|QE ?_
           exact X0 ⟨rfl,rfl,rfl,rfl,(congrArg (fun b=>some (Value.bool b)) (by unfold ovB;rw [Bool.eq_iff_iff];simp_all<;>omega)),trivial⟩ subl_r (fun _ h=>h)
          ·
           refine QO rfl rfl rfl<|QO rfl rfl rfl<|QL rfl rfl<|QA (Qh rfl rfl rfl)<|QA (Qh rfl rfl rfl)<|QE ?_
           exact X0 ⟨rfl,rfl,rfl,rfl,(congrArg (fun b=>some (Value.bool b)) (by unfold ovB;rw [Bool.eq_iff_iff];simp_all<;>omega)),trivial⟩ subl_r (fun _ h=>h)
        ·
         refine QO rfl rfl rfl<|QO rfl rfl rfl<|QL rfl rfl<|QA (Qh rfl rfl rfl)<|QA (Qh rfl rfl rfl)<|JS_mv rfl<|QL rfl rfl<|JS_mv rfl<|QL rfl rfl<|QA (QV rfl rfl rfl)<|QL rfl rfl<|JS_mv rfl ?_
         refine Qn (t:=52) rfl (fun hb52=>?_) (fun hb52=>?_)
         ·
          refine QL rfl rfl<|JS_mv rfl<|QL rfl rfl<|QA (QV rfl rfl rfl)<|QL rfl rfl<|QA (Qi rfl rfl rfl)<|QA (Qh rfl rfl rfl)<|QE ?_
          exact X0 ⟨rfl,rfl,rfl,rfl,(congrArg (fun b=>some (Value.bool b)) (by unfold ovB;rw [Bool.eq_iff_iff];simp_all<;>omega)),trivial⟩ subl_r (fun _ h=>h)
         ·
          refine QO rfl rfl rfl<|QO rfl rfl rfl<|QL rfl rfl<|QA (Qh rfl rfl rfl)<|QA (Qh rfl rfl rfl)<|QE ?_
          exact X0 ⟨rfl,rfl,rfl,rfl,(congrArg (fun b=>some (Value.bool b)) (by unfold ovB;rw [Bool.eq_iff_iff];simp_all<;>omega)),trivial⟩ subl_r (fun _ h=>h)
     ·
      simp only [List.cons_append,List.nil_append]
      refine QR rfl (fun hc3=>?_) (fun hc3=>?_)
      ·
       refine J_sr<|JS_as rfl<|JS_as rfl<|JS_nt<|QT ?_
       repeat (first | refine JJ ?_ | refine JA ?_)
       exact JY (()) rfl (.tmp rfl (.tmp rfl .nil)) (by unfold tiO;rw [if_neg (fun e=>Xhw hdg hz hk0 i.le hc3 e.2)]) (fun F ⟨⟨_,_⟩,h17⟩=>trivial)
      ·
       have hov:=Xfv hdg hk0 i.le hc3
       refine QP<|QC<|QB<|JS_mv rfl<|QA (Ga rfl rfl (by omega))<|JS_mv rfl<|QA (Qu rfl rfl (by omega))<|JS_as rfl<|QE<|Qk<|QC<|QB<|JS_mv rfl<|QA (J6 rfl rfl (by omega))<|JS_as rfl<|QE ?_
       exact Qo (i.next hdg hk0 hc3) (by show i.k - 1<i.k;omega) ⟨rfl,(by show some (Value.int .i64 _)=some (Value.int .i64 (G9 c17.neg (c17.l.drop (i.k - 1))));rw [Xf5 hk0 i.le]),(by show some (Value.int .i64 _)=some (Value.int .i64 (((i.k - 1:Nat):Int) - 1));rw [show((i.k - 1:Nat):Int)=(i.k:Int) - 1 by omega]),trivial⟩ subl_r (fun F h=>h)
   ·
    have hk0:i.k=0:=by have:=dec_f hc2;omega
    refine Q5 ?_
    repeat (first | refine Qd ?_ | refine QW (by rfl) ?_)
    refine Qe<|QC<|J_sr<|JS_mv rfl<|JS_as rfl<|JS_as rfl<|JS_nt<|QT ?_
    exact JY (()) rfl (.tmp rfl (.tmp rfl .nil)) (by unfold tiO;rw [if_pos ⟨by omega,by have:=i.lo;have:=i.hi;rw [hk0,List.drop_zero,← hz] at *;omega⟩,hk0,List.drop_zero,hz]) (fun F ⟨⟨_,_⟩,h17⟩=>trivial)
end
section
open Go.RowKit Ig
def Xez (c:UInt8):Bool:=c==47||c==46
theorem Xg6 {c:UInt8}:Xez c=(decide ((c.toNat:Int)=47)||decide ((c.toNat:Int)=46)):=by
 unfold Xez
 have h1:(c==47)=decide ((c.toNat:Int)=47):=by
  rw [Bool.eq_iff_iff,beq_iff_eq,decide_eq_true_eq]
  exact⟨fun e=>by rw [e];rfl,fun e=>UInt8.toNat_inj.1 (by show c.toNat=47;omega)⟩
 have h2:(c==46)=decide ((c.toNat:Int)=46):=by
  rw [Bool.eq_iff_iff,beq_iff_eq,decide_eq_true_eq]
  exact⟨fun e=>by rw [e];rfl,fun e=>UInt8.toNat_inj.1 (by show c.toNat=46;omega)⟩
 rw [h1,h2]
structure PtI (s:List UInt8) where
 i:Nat
 le:i≤s.length
 z:(s.take i).all (fun c=>!Xez c)=true
theorem Xex {s:List UInt8} {i:Nat} (h:i<s.length):s.take (i+1)=s.take i++[s[i]]:=by
 rw [List.take_succ,List.getElem?_eq_getElem h];rfl
def PtI.next {s:List UInt8} (j:PtI s) (h:j.i<s.length) (e:Xez s[j.i]=false):PtI s:=⟨j.i+1,h,by rw [Xex h,List.all_append,j.z];simp [e]⟩
theorem Xh5 {w:World} {F:Gs} {s:List UInt8} (hF:Fits F w) (hl:s.length≤1000000000):QZ Tryz.prog 174 [tx s] w F (.int .i64 ((ahead Xez s:Nat):Int)):=by
 refine QS.intro (G:=fun F=>True) Tryz.func174 rfl (by rfl) rfl rfl hF (fun F' hF'=>trivial)<|J_sr<|JS_as rfl<|JS_nt<|QG<|J_sr<|JS_as rfl<|JS_nt<|Qa<|Z3 (ι:=PtI s) [(0,_)] (fun i=>[(3,.int .i64 ((i.i:Nat):Int))]) (fun i=>s.length - i.i) (⟨0,Nat.zero_le _,rfl⟩) ⟨rfl,trivial⟩ ⟨rfl,trivial⟩ (fun i=>?_)
 simp only [List.cons_append,List.nil_append]
 have hi:=i.le
 refine QG<|J_sr<|JS_mv rfl<|JS_mv rfl<|QA (J9 rfl Xh)<|QA (QV rfl rfl rfl)<|QE<|QC ?_
 refine QR rfl (fun hc=>?_) (fun hc=>?_)
 ·
  have hlt:i.i<s.length:=by have:=dec_t hc;omega
  refine QP<|QC<|QG<|Qa ?_
  refine KZ [(0,_),(3,_)] [(19,.bool ((Xez s[i.i])))] ⟨rfl,rfl,trivial⟩ ?_ ?_
  ·
   refine QB<|JS_mv rfl<|JS_mv rfl<|QA (Vn (i:=i.i) rfl rfl Xh hlt)<|QA (QV rfl rfl rfl)<|JS_mv rfl ?_
   refine Qn (t:=14) rfl (fun hb14=>?_) (fun hb14=>?_)
   ·
    refine QO rfl rfl rfl<|QO rfl rfl rfl<|QO rfl rfl rfl<|QO rfl rfl rfl<|QA (Qi rfl rfl rfl)<|QE ?_
    exact X0 ⟨rfl,rfl,(congrArg (fun b=>some (Value.bool b)) (by rw [Xg6,Bool.eq_iff_iff];simp_all<;>omega)),trivial⟩ subl_r (fun _ h=>h)
   ·
    refine QL rfl rfl<|JS_mv rfl<|QL rfl rfl<|JS_mv rfl<|QL rfl rfl<|QA (Vn (i:=i.i) rfl rfl Xh hlt)<|QL rfl rfl<|QA (QV rfl rfl rfl)<|QA (Qh rfl rfl rfl)<|QE ?_
    exact X0 ⟨rfl,rfl,(congrArg (fun b=>some (Value.bool b)) (by rw [Xg6,Bool.eq_iff_iff];simp_all<;>omega)),trivial⟩ subl_r (fun _ h=>h)
  ·
   simp only [List.cons_append,List.nil_append]
   refine QR rfl (fun hc2=>?_) (fun hc2=>?_)
   ·
    refine J_sr<|JS_mv rfl<|JS_as rfl<|JS_nt<|QT ?_
    repeat (first | refine JJ ?_ | refine JA ?_)
    exact QQ (()) rfl (.tmp rfl .nil) (by rw [Pz hlt i.z hc2]) (fun F _=>trivial)
   ·
    refine QP<|Qk<|QC<|QB<|JS_mv rfl<|QA (Qu rfl rfl (by omega))<|JS_as rfl<|QE ?_
    exact Qo (i.next hlt hc2) (by show s.length - (i.i+1)<s.length - i.i;omega) ⟨rfl,rfl,trivial⟩ subl_r (fun F h=>h)
 ·
  have hge:i.i=s.length:=by have:=dec_f hc;omega
  refine Q5 ?_
  repeat (first | refine Qd ?_ | refine QW (by rfl) ?_)
  refine Qe<|QC<|J_sr<|JS_mv rfl<|QA (J9 rfl Xh)<|JS_as rfl<|JS_nt<|QT ?_
  exact QQ (()) rfl (.tmp rfl .nil) (by have h:=i.z;rw [hge,List.take_length] at h;rw [P0 h]) (fun F _=>trivial)
end
section
open Go.RowKit Ig
theorem CA {w:World} {F:Gs} {b:Bool} {e:Int} (hF:Fits F w):QZ Tryz.prog 19 [.bool b,.int .i64 e] w F (.int .i64 (if b=true then e else 0)):=by
 refine QS.intro (G:=fun F=>True) Tryz.func19 rfl (by rfl) rfl rfl hF (fun F' hF'=>trivial)<|J_sr<|JS_as rfl<|JS_nt<|QG<|J_sr<|JS_mv rfl<|QE<|QC ?_
 refine QR rfl (fun hc=>?_) (fun hc=>?_)
 ·
  have hb:b=true:=hc
  refine J_sr<|JS_mv rfl<|JS_as rfl<|JS_nt<|QT ?_
  exact QQ (()) rfl (.tmp rfl .nil) (congrArg (Value.int .i64) (if_pos hb)) (fun F _=>trivial)
 ·
  have hb:b=false:=hc
  refine QP<|QC<|J_sr<|JS_as rfl<|JS_nt<|QT ?_
  exact QQ (()) rfl (.tmp rfl .nil) (congrArg (Value.int .i64) (if_neg (by rw [hb];decide))) (fun F _=>trivial)
end
section
open Go.RowKit Ig
def Xf4 (have_:List UInt8) (e bad:Int) (want:List UInt8):Bool :=
 if bad=0 then(if BJ want=0 then(e==0)&&(have_==want) else(have_==[])&&(e==BJ want)) else(have_==[])&&(e==bad)
theorem Xfe {w:World} {F:Gs} {a b:List UInt8} {e d:Int} (hF:Fits F w) (hl:b.length≤1000000000):QZ Tryz.prog 25 [tx a,.int .i64 e,.int .i64 d,tx b] w F (.bool (Xf4 a e d b)):=by
 refine QS.intro (G:=fun F=>True) Tryz.func25 rfl (by rfl) rfl rfl hF (fun F' hF'=>trivial)<|J_sr<|JS_as rfl<|JS_nt<|QG<|J_sr<|JS_mv rfl<|QA (QV rfl rfl rfl)<|QE<|QC ?_
 refine QR rfl (fun hc=>?_) (fun hc=>?_)
 ·
  have h10:=eq_of_beq hc
  refine QB<|JS_mv rfl<|QI rfl (fun w F hF _=>y3 hF (hl)) (fun _=>JS_as rfl<|JS_nt<|QG<|J_sr<|JS_mv rfl<|QA (QV rfl rfl rfl)<|QE<|QC ?_)
  refine QR rfl (fun hc=>?_) (fun hc=>?_)
  ·
   have h14:=bne_iff_ne.1 hc
   refine J_sr<|JS_mv rfl<|QA (K3 rfl rfl)<|JS_mv rfl ?_
   refine Qn (t:=17) rfl (fun hb17=>?_) (fun hb17=>?_)
   ·
    refine QL rfl rfl<|JS_mv rfl<|QL rfl rfl<|JS_mv rfl<|QL rfl rfl<|QA (QV rfl rfl rfl)<|QA (Qi rfl rfl rfl)<|JS_as rfl<|JS_nt<|QT ?_
    exact QQ (()) rfl (.tmp rfl .nil) (congrArg Value.bool (by unfold Xf4;simp_all)) (fun F ⟨_,_⟩=>trivial)
   ·
    refine QO rfl rfl rfl<|QO rfl rfl rfl<|QO rfl rfl rfl<|QA (Qh rfl rfl rfl)<|JS_as rfl<|JS_nt<|QT ?_
    exact QQ (()) rfl (.tmp rfl .nil) (congrArg Value.bool (by unfold Xf4;simp_all)) (fun F ⟨_,_⟩=>trivial)
  ·
   have h14:=bne_eq_false_iff_eq.1 hc
   refine QP<|QC<|J_sr<|JS_mv rfl<|QA (QV rfl rfl rfl)<|JS_mv rfl ?_
   refine Qn (t:=24) rfl (fun hb24=>?_) (fun hb24=>?_)
   ·
    refine QL rfl rfl<|JS_mv rfl<|QL rfl rfl<|JS_mv rfl<|QL rfl rfl<|QA (K3 rfl rfl)<|QA (Qi rfl rfl rfl)<|JS_as rfl<|JS_nt<|QT ?_
    exact QQ (()) rfl (.tmp rfl .nil) (congrArg Value.bool (by unfold Xf4;simp_all)) (fun F ⟨_,_⟩=>trivial)
   ·
    refine QO rfl rfl rfl<|QO rfl rfl rfl<|QO rfl rfl rfl<|QA (Qh rfl rfl rfl)<|JS_as rfl<|JS_nt<|QT ?_
    exact QQ (()) rfl (.tmp rfl .nil) (congrArg Value.bool (by unfold Xf4;simp_all)) (fun F ⟨_,_⟩=>trivial)
 ·
  have h10:¬ d=0:=fun e=>by rw [e] at hc;cases hc
  refine QP<|QC<|QG<|J_sr<|JS_mv rfl<|QA (QV rfl rfl rfl)<|QE<|QC ?_
  refine QR rfl (fun hc=>?_) (fun hc=>?_)
  ·
   have h14:=bne_iff_ne.1 hc
   refine J_sr<|JS_mv rfl<|QA (K3 rfl rfl)<|JS_mv rfl ?_
   refine Qn (t:=17) rfl (fun hb17=>?_) (fun hb17=>?_)
   ·
    refine QL rfl rfl<|JS_mv rfl<|QL rfl rfl<|JS_mv rfl<|QL rfl rfl<|QA (QV rfl rfl rfl)<|QA (Qi rfl rfl rfl)<|JS_as rfl<|JS_nt<|QT ?_
    exact QQ (()) rfl (.tmp rfl .nil) (congrArg Value.bool (by unfold Xf4;simp_all)) (fun F _=>trivial)
   ·
    refine QO rfl rfl rfl<|QO rfl rfl rfl<|QO rfl rfl rfl<|QA (Qh rfl rfl rfl)<|JS_as rfl<|JS_nt<|QT ?_
    exact QQ (()) rfl (.tmp rfl .nil) (congrArg Value.bool (by unfold Xf4;simp_all)) (fun F _=>trivial)
  ·
   have h14:=bne_eq_false_iff_eq.1 hc
   refine QP<|QC<|J_sr<|JS_mv rfl<|QA (QV rfl rfl rfl)<|JS_mv rfl ?_
   refine Qn (t:=24) rfl (fun hb24=>?_) (fun hb24=>?_)
   ·
    refine QL rfl rfl<|JS_mv rfl<|QL rfl rfl<|JS_mv rfl<|QL rfl rfl<|QA (K3 rfl rfl)<|QA (Qi rfl rfl rfl)<|JS_as rfl<|JS_nt<|QT ?_
    exact QQ (()) rfl (.tmp rfl .nil) (congrArg Value.bool (by unfold Xf4;simp_all)) (fun F _=>trivial)
   ·
    refine QO rfl rfl rfl<|QO rfl rfl rfl<|QO rfl rfl rfl<|QA (Qh rfl rfl rfl)<|JS_as rfl<|JS_nt<|QT ?_
    exact QQ (()) rfl (.tmp rfl .nil) (congrArg Value.bool (by unfold Xf4;simp_all)) (fun F _=>trivial)
end
section
open Go.RowKit Ig
section
variable [Dr] [df:Df] {N:Nat} {m:Sl} {S:World→Prop} {ty:TypeId}
theorem jR {yT:TypeId} {x y:Operand} {a b c d:List UInt8} (hx:ev m x=some (.agg #[tx a,tx b])) (hy:ev m y=some (.agg #[tx c,tx d])):Qt Tryz.prog N m S (.binOp .eql 24 x y yT) ty (.bool (decide (a=c)&&decide (b=d))):=fun ac w _ _ _ _ ha _=>by
 have h1:=equal_span w a b c d
 simp only [execOp,ha.ev hx,ha.ev hy,Sem.run_bind]
 have h2:(eqGuard .eql 24 x y (.agg #[tx a,tx b]) (.agg #[tx c,tx d])).run Tryz.prog w = .ok () w:=by
  simp [eqGuard,P9]
 rw [h2]
 simp [binOp,h1]
end
end
section
open Go.RowKit Ig
def GO (w:List UInt8×List UInt8):Int:=Qm [BJ w.1,BJ w.2]
def UN (have_:List UInt8×List UInt8) (e bad:Int) (want:List UInt8×List UInt8):Bool :=
 if bad=0 then(if GO want=0 then(e==0)&&(decide (have_.1=want.1)&&decide (have_.2=want.2)) else(have_.1==[])&&((have_.2==[])&&(e==GO want))) else(have_.1==[])&&((have_.2==[])&&(e==bad))
theorem zi {w:World} {F:Gs} {a b:List UInt8×List UInt8} {e d:Int} (hF:Fits F w) (hl:b.1.length≤1000000∧b.2.length≤1000000):QZ Tryz.prog 26 [.agg #[tx a.1,tx a.2],.int .i64 e,.int .i64 d,.agg #[tx b.1,tx b.2]] w F (.bool (UN a e d b)):=by
 refine QS.intro (G:=fun F=>True) Tryz.func26 rfl (by rfl) rfl rfl hF (fun F' hF'=>trivial)<|J_sr<|Qw rfl (vs:=[_,_]) rfl (fun b4=>Qw rfl (vs:=[_,_]) rfl (fun b7=>JS_as rfl<|JS_nt<|QG<|J_sr<|JS_mv rfl<|QA (QV rfl rfl rfl)<|QE<|QC ?_))
 refine QR rfl (fun hc=>?_) (fun hc=>?_)
 ·
  have h10:=eq_of_beq hc
  refine QB<|QA (QJ (vs:=[_,_]) rfl JC .here (.here (.here .nil)) rfl)<|QI rfl (fun w F hF _=>CV hF (hl)) (fun _=>JS_as rfl<|JS_nt<|QG<|J_sr<|JS_mv rfl<|QA (QV rfl rfl rfl)<|QE<|QC ?_)
  refine QR rfl (fun hc=>?_) (fun hc=>?_)
  ·
   have h14:=bne_iff_ne.1 hc
   refine J_sr<|QA (QH rfl Yr JR)<|QA (Qj rfl JR (.there .here) (.here .nil))<|QA (K3 rfl rfl)<|JS_mv rfl ?_
   refine Qn (t:=18) rfl (fun hb18=>?_) (fun hb18=>?_)
   ·
    refine QL rfl rfl<|QA (QH rfl Yz JR)<|QL rfl rfl<|QA (Qj rfl JR (.there .here) (.skip (.here .nil)))<|QL rfl rfl<|QA (K3 rfl rfl)<|QA (Qi rfl rfl rfl)<|JS_mv rfl ?_
    refine Qn (t:=23) rfl (fun hb23=>?_) (fun hb23=>?_)
    ·
     refine QL rfl rfl<|JS_mv rfl<|QL rfl rfl<|JS_mv rfl<|QL rfl rfl<|QA (QV rfl rfl rfl)<|QA (Qi rfl rfl rfl)<|JS_as rfl<|JS_nt<|QT ?_
     exact QQ (()) rfl (.tmp rfl .nil) (congrArg Value.bool (by unfold UN GO;simp_all)) (fun F ⟨_,_⟩=>trivial)
    ·
     refine QO rfl rfl rfl<|QO rfl rfl rfl<|QO rfl rfl rfl<|QA (Qh rfl rfl rfl)<|JS_as rfl<|JS_nt<|QT ?_
     exact QQ (()) rfl (.tmp rfl .nil) (congrArg Value.bool (by unfold UN GO;simp_all)) (fun F ⟨_,_⟩=>trivial)
   ·
    refine QO rfl rfl rfl<|QO rfl rfl rfl<|QO rfl rfl rfl<|QA (Qh rfl rfl rfl)<|JS_mv rfl<|QO rfl rfl rfl<|QO rfl rfl rfl<|QO rfl rfl rfl<|QA (Qh rfl rfl rfl)<|JS_as rfl<|JS_nt<|QT ?_
    exact QQ (()) rfl (.tmp rfl .nil) (congrArg Value.bool (by unfold UN GO;simp_all)) (fun F ⟨_,_⟩=>trivial)
  ·
   have h14:=bne_eq_false_iff_eq.1 hc
   refine QP<|QC<|J_sr<|JS_mv rfl<|QA (QV rfl rfl rfl)<|JS_mv rfl ?_
   refine Qn (t:=30) rfl (fun hb30=>?_) (fun hb30=>?_)
   ·
    refine QL rfl rfl<|QA (QJ (vs:=[_,_]) rfl JC (.there .here) (.here (.here .nil)) rfl)<|QL rfl rfl<|QA (QJ (vs:=[_,_]) rfl JC .here (.here (.here .nil)) rfl)<|QL rfl rfl<|QA (jR rfl rfl)<|QA (Qi rfl rfl rfl)<|JS_as rfl<|JS_nt<|QT ?_
    exact QQ (()) rfl (.tmp rfl .nil) (congrArg Value.bool (by unfold UN GO;simp_all)) (fun F ⟨_,_⟩=>trivial)
   ·
    refine QO rfl rfl rfl<|QO rfl rfl rfl<|QO rfl rfl rfl<|QA (Qh rfl rfl rfl)<|JS_as rfl<|JS_nt<|QT ?_
    exact QQ (()) rfl (.tmp rfl .nil) (congrArg Value.bool (by unfold UN GO;simp_all)) (fun F ⟨_,_⟩=>trivial)
 ·
  have h10:¬ d=0:=fun e=>by rw [e] at hc;cases hc
  refine QP<|QC<|QG<|J_sr<|JS_mv rfl<|QA (QV rfl rfl rfl)<|QE<|QC ?_
  refine QR rfl (fun hc=>?_) (fun hc=>?_)
  ·
   have h14:=bne_iff_ne.1 hc
   refine J_sr<|QA (QH rfl Yr JR)<|QA (Qj rfl JR (.there .here) (.here .nil))<|QA (K3 rfl rfl)<|JS_mv rfl ?_
   refine Qn (t:=18) rfl (fun hb18=>?_) (fun hb18=>?_)
   ·
    refine QL rfl rfl<|QA (QH rfl Yz JR)<|QL rfl rfl<|QA (Qj rfl JR (.there .here) (.skip (.here .nil)))<|QL rfl rfl<|QA (K3 rfl rfl)<|QA (Qi rfl rfl rfl)<|JS_mv rfl ?_
    refine Qn (t:=23) rfl (fun hb23=>?_) (fun hb23=>?_)
    ·
     refine QL rfl rfl<|JS_mv rfl<|QL rfl rfl<|JS_mv rfl<|QL rfl rfl<|QA (QV rfl rfl rfl)<|QA (Qi rfl rfl rfl)<|JS_as rfl<|JS_nt<|QT ?_
     exact QQ (()) rfl (.tmp rfl .nil) (congrArg Value.bool (by unfold UN GO;simp_all)) (fun F _=>trivial)
    ·
     refine QO rfl rfl rfl<|QO rfl rfl rfl<|QO rfl rfl rfl<|QA (Qh rfl rfl rfl)<|JS_as rfl<|JS_nt<|QT ?_
     exact QQ (()) rfl (.tmp rfl .nil) (congrArg Value.bool (by unfold UN GO;simp_all)) (fun F _=>trivial)
   ·
    refine QO rfl rfl rfl<|QO rfl rfl rfl<|QO rfl rfl rfl<|QA (Qh rfl rfl rfl)<|JS_mv rfl<|QO rfl rfl rfl<|QO rfl rfl rfl<|QO rfl rfl rfl<|QA (Qh rfl rfl rfl)<|JS_as rfl<|JS_nt<|QT ?_
    exact QQ (()) rfl (.tmp rfl .nil) (congrArg Value.bool (by unfold UN GO;simp_all)) (fun F _=>trivial)
  ·
   have h14:=bne_eq_false_iff_eq.1 hc
   refine QP<|QC<|J_sr<|JS_mv rfl<|QA (QV rfl rfl rfl)<|JS_mv rfl ?_
   refine Qn (t:=30) rfl (fun hb30=>?_) (fun hb30=>?_)
   ·
    refine QL rfl rfl<|QA (QJ (vs:=[_,_]) rfl JC (.there .here) (.here (.here .nil)) rfl)<|QL rfl rfl<|QA (QJ (vs:=[_,_]) rfl JC .here (.here (.here .nil)) rfl)<|QL rfl rfl<|QA (jR rfl rfl)<|QA (Qi rfl rfl rfl)<|JS_as rfl<|JS_nt<|QT ?_
    exact QQ (()) rfl (.tmp rfl .nil) (congrArg Value.bool (by unfold UN GO;simp_all)) (fun F _=>trivial)
   ·
    refine QO rfl rfl rfl<|QO rfl rfl rfl<|QO rfl rfl rfl<|QA (Qh rfl rfl rfl)<|JS_as rfl<|JS_nt<|QT ?_
    exact QQ (()) rfl (.tmp rfl .nil) (congrArg Value.bool (by unfold UN GO;simp_all)) (fun F _=>trivial)
end
section
open Go.RowKit Ig
theorem ku (z:Int):O4 (Xu z)=Lib.decDigits z.natAbs:=by
 have h:=LA ((z:Int):Rat)
 rw [qC,show((z:Int):Rat).num=z from by simp] at h
 unfold O4
 rw [h]
 unfold EP
 by_cases h0:z<0
 ·rw [if_pos h0,if_pos (by decide),YB h0];rfl
 ·rw [if_neg h0,Jx (by omega),if_neg (by split<;>decide)]
theorem CB (x:Rat):BJ (JQ x)=if Xi x=true then 4 else 0:=by
 have hn:decide (600<(O4 (numOf (JQ x))).length)=Dk x.num:=by
  have e:numOf (JQ x)=Xu x.num:=by
   unfold numOf
   by_cases h:x.den=1
   ·obtain ⟨h1,h2⟩:=Ni h
    rw [h2,List.take_length,h1]
   ·exact(G7 h).2.2.1
  rw [e,ku]
  unfold Dk
  exact decide_eq_decide.2 (As _)
 have hd:decide (600<(T8 (JQ x)).length)=Dk x.den:=by
  unfold T8 Dk
  by_cases h:x.den=1
  ·rw [if_pos ((Nj x).2 h),h]
   have h1:¬ lim≤(((1:Nat):Int)).natAbs:=by
    exact Nat.not_le.2 (Nat.lt_of_le_of_lt Nat.one_le_two_pow Io)
   rw [decide_eq_false h1]
   simp
  ·rw [if_neg fun e=>h ((Nj x).1 e),(G7 h).2.2.2]
   exact decide_eq_decide.2 (As _)
 unfold BJ Xi
 rw [hn,hd]
theorem Xha (x:Rat):Xf4 (Pj x).1 (Pj x).2 0 (JQ x)=true:=by
 unfold Xf4 Pj
 rw [if_pos rfl,CB]
 cases Xi x<;>simp
theorem Xhr {d:Int} (h:d≠0) (w:List UInt8):Xf4 [] d d w=true:=by
 unfold Xf4;rw [if_neg h];simp
theorem yr (x:Rat×Rat):UN (Vi x).1 (Vi x).2 0 (JQ x.1,JQ x.2)=true:=by
 unfold UN Vi GO
 dsimp only
 rw [if_pos rfl,CB,CB]
 cases Xi x.1<;>cases Xi x.2<;>simp [Qm]
end
section
open Go.RowKit Ig
def ptK (t:List UInt8):Nat:=ahead Xez t
def Xer (t:List UInt8):Bool:=decide (ptK t=0)||!XF (t.take (ptK t))||(decide (ptK t<t.length)&&(decide (ptK t+1=t.length)||!XF (t.drop (ptK t+1))))
def slT (t:List UInt8):Bool:=decide (ptK t<t.length)&&el t (ptK t)==47
def Xev (t:List UInt8):Bool:=decide (ptK t<t.length)&&el t (ptK t)==46
def Xeq (t:List UInt8):Int:=if Xev t=true then Q8 (t.take (ptK t)++t.drop (ptK t+1)) else Q8 (t.take (ptK t))
def Xfc (t:List UInt8):Int:=if slT t=true then Q8 (t.drop (ptK t+1)) else 1
def Xet (t:List UInt8):Int:=if Xev t=true then 10^(t.drop (ptK t+1)).length else Xfc t
def Xey (s:List UInt8):List UInt8×Int :=
 if 4096<s.length then([],16) else if Xer (Lib.trimPrefix s [45])=true then([],14) else if Xet (Lib.trimPrefix s [45])=0 then([],6)
 else Pj (Rat.divInt (if Lib.hasPrefix s [45]=true then -Xeq (Lib.trimPrefix s [45]) else Xeq (Lib.trimPrefix s [45])) (Xet (Lib.trimPrefix s [45])))
theorem Xfj:∀ t:List UInt8,(ptK t=t.length∧t.all (fun x=>!Xez x)=true)∨∃ a c b,t=a++c::b∧a.all (fun x=>!Xez x)=true∧Xez c=true∧ptK t=a.length
 |[]=>.inl ⟨rfl,rfl⟩
 |x::t=>by
  by_cases h:Xez x=true
  ·exact .inr ⟨[],x,t,rfl,rfl,h,by unfold ptK ahead;rw [List.takeWhile_cons];simp [h]⟩
  ·have h':Xez x=false:=by simpa using h
   have hk:ptK (x::t)=ptK t+1:=by unfold ptK ahead;rw [List.takeWhile_cons];simp [h']
   rcases Xfj t with ⟨h1,h2⟩ | ⟨a,c,b,h1,h2,h3,h4⟩
   ·exact .inl ⟨by rw [hk,h1,List.length_cons],by rw [List.all_cons,h2,h'];rfl⟩
   ·exact .inr ⟨x::a,c,b,by rw [h1];rfl,by rw [List.all_cons,h2,h'];rfl,h3,by rw [hk,h4,List.length_cons]⟩
theorem Xew {l:List UInt8} (h:l.all (fun x=>!Xez x)=true) {c:UInt8} (hc:Xez c=true):l.contains c=false:=by
 rw [← Bool.not_eq_true,List.contains_iff_mem]
 intro hm
 have:=List.all_eq_true.1 h c hm
 rw [hc] at this;cases this
theorem Xf6 (l:List UInt8):(!WY l)=(decide (l.length=0)||!XF l):=by
 unfold WY
 cases l with
 |nil=>simp
 |cons x l=>simp
theorem Xfp {l:List UInt8} {c:UInt8} (hc:c∈l) (h:T6 c=false):XF l=false:=by
 rw [← Bool.not_eq_true]
 intro e
 have:=List.all_eq_true.1 e c hc
 rw [h] at this;cases this
theorem Xh7 (s:List UInt8):RQ s=Xey s:=by
 unfold RQ Xey
 by_cases hs:4096<s.length
 ·rw [if_pos hs,if_pos hs]
 ·rw [if_neg hs,if_neg hs]
  generalize Lib.hasPrefix s [45]=g
  generalize Lib.trimPrefix s [45]=t
  rcases Xfj t with ⟨h1,h2⟩ | ⟨a,c,b,h1,h2,h3,h4⟩
  ·have c46:=IC (Xew h2 (c:=46) rfl)
   have c47:=IC (Xew h2 (c:=47) rfl)
   have e1:Ge t=(t,[],false):=by unfold Ge;rw [c46,c47];rfl
   rw [e1,c46]
   have d1:Xev t=false:=by unfold Xev;rw [decide_eq_false (by omega)];rfl
   have d2:slT t=false:=by unfold slT;rw [decide_eq_false (by omega)];rfl
   have hb:Xer t=!WY t:=by
    unfold Xer
    rw [h1,List.take_length,Xf6,decide_eq_false (Nat.lt_irrefl t.length)];simp
   unfold RR
   have hb2:Uf t [] false false=!WY t:=by unfold Uf;simp
   dsimp only
   rw [hb2,hb]
   have hd:Xet t=1:=by unfold Xet Xfc;rw [d1,d2];rfl
   have hp:No [] false false=1:=rfl
   have hn:Xeq t=Q8 t:=by unfold Xeq;rw [d1,h1,List.take_length];rfl
   have hq:BD t [] false false=Q8 t:=rfl
   rw [hd,hp,hn,hq]
  ·have hk:ptK t<t.length:=by rw [h4,h1];simp
   have ht:t.take (ptK t)=a:=by rw [h4,h1];simp
   have hdr:t.drop (ptK t+1)=b:=by rw [h4,h1,List.drop_append];simp
   have hel:el t (ptK t)=c:=by
    have e0:t[a.length]?=some c:=by rw [h1];simp
    rw [h4];unfold el;rw [List.getD_eq_getElem?_getD,e0];rfl
   have hlen:(ptK t+1=t.length)=(b.length=0):=by rw [h4,h1];simp
   have hb:Xer t=(!WY a||!WY b):=by
    unfold Xer
    rw [ht,hdr,Xf6,Xf6,decide_eq_true hk,Bool.true_and]
    congr 2
    ·rw [h4]
    ·simp only [hlen]
   have hc:c=47∨c=46:=by unfold Xez at h3;simpa using h3
   rcases hc with rfl | rfl
   ·have d1:Xev t=false:=by unfold Xev;rw [hel,decide_eq_true hk];rfl
    have d2:slT t=true:=by unfold slT;rw [hel,decide_eq_true hk];rfl
    by_cases h46:b.contains 46=true
    ·obtain ⟨b1,b2,e,hb1⟩:∃ b1 b2,b=b1++46::b2∧b1.contains 46=false:=by
      have hm:(46:UInt8)∈b:=by simpa using h46
      obtain ⟨r,hr⟩:=DW hm
      refine⟨b.takeWhile (· != 46),r,by rw [← hr,List.takeWhile_append_dropWhile],?_⟩
      rw [← Bool.not_eq_true,List.contains_iff_mem]
      intro hx
      have:=List.all_eq_true.1 (List.all_takeWhile (p:=fun x:UInt8=>x != 46) (l:=b)) _ hx
      simp at this
     have e2:t=(a++47::b1)++46::b2:=by rw [h1,e];simp
     have c46:ZM 46 t=(a++47::b1,b2,true):=by
      rw [e2];refine ND ?_
      have:=Xew h2 (c:=46) rfl
      simp at this hb1 ⊢
      exact⟨this,hb1⟩
     have e1:Ge t=(a++47::b1,b2,false):=by unfold Ge;rw [c46];rfl
     rw [e1,c46]
     unfold RR
     have hb2:Uf (a++47::b1) b2 true false=true:=by
      unfold Uf WY
      rw [Xfp (c:=47) (by simp) (by decide)];rfl
     have hb3:Xer t=true:=by
      rw [hb];unfold WY
      rw [Xfp (l:=b) (c:=46) (by rw [e];simp) (by decide)];simp
     dsimp only
     rw [hb2,hb3];rfl
    ·have hb46:b.contains 46=false:=by simpa using h46
     have c46:ZM 46 t=(t,[],false):=IC (by
      have:=Xew h2 (c:=46) rfl
      rw [h1];simp at this hb46 ⊢
      exact⟨this,hb46⟩)
     have c47:ZM 47 t=(a,b,true):=by rw [h1];exact ND (Xew h2 (c:=47) rfl)
     have e1:Ge t=(a,b,true):=by unfold Ge;rw [c46,c47];rfl
     rw [e1,c46]
     unfold RR
     have hb2:Uf a b false true=(!WY a||!WY b):=by unfold Uf;simp
     dsimp only
     rw [hb2,hb]
     have hd:Xet t=Q8 b:=by unfold Xet Xfc;rw [d1,d2,hdr];rfl
     have hn:Xeq t=Q8 a:=by unfold Xeq;rw [d1,ht];rfl
     rw [hd,hn];rfl
   ·have d1:Xev t=true:=by unfold Xev;rw [hel,decide_eq_true hk];rfl
    have c46:ZM 46 t=(a,b,true):=by rw [h1];exact ND (Xew h2 (c:=46) rfl)
    have e1:Ge t=(a,b,false):=by unfold Ge;rw [c46];rfl
    rw [e1,c46]
    unfold RR
    have hb2:Uf a b true false=(!WY a||!WY b):=by unfold Uf;simp
    dsimp only
    rw [hb2,hb]
    have hd:Xet t=10^b.length:=by unfold Xet;rw [d1,hdr];rfl
    have hn:Xeq t=Q8 (a++b):=by unfold Xeq;rw [d1,ht,hdr];rfl
    rw [hd,hn];rfl
end
section
open Go.RowKit Ig
section
variable {w:World} {F:Gs}
theorem Xfw {p:List UInt8×Int} {d:Int} {u:List UInt8} (hF:Fits F w) (hd:d≠0) (hp:p=([],d)) (hu:u.length≤1000000000):QZ Tryz.prog 25 [tx p.1,.int .i64 p.2,.int .i64 d,tx u] w F (.bool true):=by
 rw [hp]
 have h:=Xfe (a:=[]) (b:=u) (e:=d) (d:=d) hF hu
 rw [Xhr hd] at h
 exact h
theorem Xfm {p:List UInt8×Int} {r:Rat} (hF:Fits F w) (hp:p=Pj r) (hr:JL r≤100000000):QZ Tryz.prog 25 [tx p.1,.int .i64 p.2,.int .i64 0,tx (JQ r)] w F (.bool true):=by
 rw [hp]
 have h:=Xfe (a:=(Pj r).1) (b:=JQ r) (e:=(Pj r).2) (d:=0) hF (by have:=Gy r;omega)
 rw [Xha] at h
 exact h
theorem O7 {p:(List UInt8×List UInt8)×Int} {r:Rat×Rat} (hF:Fits F w) (hp:p=Vi r) (hr:JL r.1≤400000∧JL r.2≤400000):QZ Tryz.prog 26 [.agg #[tx p.1.1,tx p.1.2],.int .i64 p.2,.int .i64 0,.agg #[tx (JQ r.1),tx (JQ r.2)]] w F (.bool true):=by
 rw [hp]
 have h:=zi (a:=(Vi r).1) (b:=(JQ r.1,JQ r.2)) (e:=(Vi r).2) (d:=0) hF ⟨by have:=Gy r.1;show(JQ r.1).length≤_;omega,by have:=Gy r.2;show(JQ r.2).length≤_;omega⟩
 rw [yr] at h
 exact h
variable {a b:List UInt8}
end
end
section
open Go.RowKit Ig
theorem A4 (x y:Rat):Vg x y≤0↔x≤y:=by
 unfold Vg
 by_cases h:x<y
 ·rw [if_pos h];exact⟨fun _=>Rat.le_of_lt h,fun _=>by decide⟩
 ·rw [if_neg h]
  by_cases e:x=y
  ·rw [if_pos e,e];exact⟨fun _=>Rat.le_refl,fun _=>by decide⟩
  ·rw [if_neg e];refine⟨fun k=>absurd k (by decide),fun k=>absurd (Rat.lt_of_le_of_ne k e) h⟩
end
section
open Go.RowKit Ig
def Vh (a:List UInt8×List UInt8):Prop:=JM a.1 a.2=0
def vS (a:List UInt8×List UInt8):Rat×Rat:=(Ju a.1,Ju a.2)
theorem Vh.v {a:List UInt8×List UInt8} (h:Vh a):I8 (vS a) = .agg #[tx a.1,tx a.2]:=by
 obtain ⟨h1,h2,_⟩:=Z2 h
 show Value.agg #[tx (JQ (Ju a.1)),tx (JQ (Ju a.2))]=_
 rw [← (Zj h1).1,← (Zj h2).1]
theorem Vh.sz {a:List UInt8×List UInt8} (h:Vh a):CM 2400 (vS a):=by
 obtain ⟨h1,h2,_⟩:=Z2 h
 exact⟨XH h1,XH h2⟩
theorem Vh.le {a:List UInt8×List UInt8} (h:Vh a):(vS a).1≤(vS a).2:=by
 obtain ⟨_,_,h3⟩:=Z2 h
 exact(A4 _ _).1 (Int.not_lt.1 h3)
theorem CM.le {a:Rat×Rat} {k k':Nat} (h:CM k a) (hk:k≤k'):CM k' a:=⟨Nat.le_trans h.1 hk,Nat.le_trans h.2 hk⟩
section
variable {w:World} {F:Gs} {a b:List UInt8×List UInt8}
theorem UP {p:(List UInt8×List UInt8)×Int} {r:Rat×Rat} (hF:Fits F w) (hp:p=Vi r) (hr:JL r.1≤400000∧JL r.2≤400000):QZ Tryz.prog 26 [.agg #[tx p.1.1,tx p.1.2],.int .i64 p.2,.int .i64 0,I8 r] w F (.bool true):=O7 hF hp hr
def Iu (a:List UInt8×List UInt8) (n:Int):List UInt8×List UInt8:=if Qm [JM a.1 a.2,GH n]=0 then(JQ (Vx (vS a) n).1,JQ (Vx (vS a) n).2) else([],[])
end
end
section
open Go.RowKit Ig
theorem Xgc {w:World} {F:Gs} {s:List UInt8} (hF:Fits F w) (hl:s.length≤1000000000):QZ Tryz.prog 174 [tx s] w F (.int .i64 ((ptK s:Nat):Int)):=Xh5 hF hl
theorem Xh6 (t:List UInt8):ptK t≤t.length:=Bi _ _
theorem Xf1 {t:List UInt8} (h:Xer t=false):0<ptK t∧XF (t.take (ptK t))=true∧(ptK t<t.length→ptK t+1<t.length∧XF (t.drop (ptK t+1))=true):=by
 unfold Xer at h
 simp only [Bool.or_eq_false_iff,Bool.and_eq_false_iff,decide_eq_false_iff_not,Bool.not_eq_false'] at h
 obtain ⟨⟨h1,h2⟩,h3⟩:=h
 refine⟨by omega,h2,fun hk=>?_⟩
 rcases h3 with h3 | h3
 ·exact absurd hk h3
 ·exact⟨by omega,h3.2⟩
theorem Xgf {l:List UInt8} (h:XF l=true):XF (Lib.trimPrefix l [45])=true:=by rw [ZQ h];exact h
theorem Xf0 {l:List UInt8} (h:XF l=true) {k:Nat} (hl:l.length≤k):sz (Q8 l:Int)≤4*k:=by
 rw [Xx,Int.natAbs_natCast]
 have h1:Q8 l<10^l.length:=Vm h
 have h2:10^l.length≤10^k:=Nat.pow_le_pow_right (by decide) hl
 have h3:10^k≤16^k:=Nat.pow_le_pow_left (by decide) _
 have h4:(16:Nat)^k=2^(4*k):=by rw [Nat.pow_mul]
 omega
theorem Xh2 (k:Nat):sz ((10:Int)^k)≤4*k+1:=by
 rw [Xx]
 have e:((10:Int)^k).natAbs=10^k:=by rw [Int.natAbs_pow];rfl
 rw [e]
 have h3:10^k≤16^k:=Nat.pow_le_pow_left (by decide) _
 have h4:(16:Nat)^k=2^(4*k):=by rw [Nat.pow_mul]
 have h5:(2:Nat)^(4*k)<2^(4*k+1):=Nat.pow_lt_pow_right (by decide) (by omega)
 omega
theorem Xg3 {t:List UInt8} (h:Xev t=true):slT t=false:=by
 unfold Xev slT at *
 rw [Bool.and_eq_true] at h
 rw [eq_of_beq h.2,Bool.and_eq_false_iff];exact .inr (by decide)
theorem Xh3 {t:List UInt8} (h:slT t=true):ptK t<t.length:=by
 unfold slT at h;rw [Bool.and_eq_true] at h;exact dec_t h.1
theorem Xfh {t:List UInt8} (h:Xev t=true):ptK t<t.length:=by
 unfold Xev at h;rw [Bool.and_eq_true] at h;exact dec_t h.1
theorem Xhx {t:List UInt8} (hk:ptK t<t.length):(((t[ptK t]).toNat:Int)==47)=slT t:=by
 unfold slT;rw [decide_eq_true hk,Za hk,Bool.true_and];exact MD rfl
theorem Xhv {t:List UInt8} (hk:ptK t<t.length):(((t[ptK t]).toNat:Int)==46)=Xev t:=by
 unfold Xev;rw [decide_eq_true hk,Za hk,Bool.true_and];exact MD rfl
structure PrJ (t:List UInt8) where
 j:Nat
 n:Ri
 d:Ri
 le:j≤(t.drop (ptK t+1)).length
def Xeu (t:List UInt8) (j:Nat):List UInt8:=t.take (ptK t)++(t.drop (ptK t+1)).take j
theorem Xfn (t:List UInt8) (j:Nat):(Xeu t j).length≤t.length:=by
 unfold Xeu;rw [List.length_append,List.length_take,List.length_take,List.length_drop]
 have:=Xh6 t
 omega
theorem Xfo {t:List UInt8} (h:Xer t=false) (hk:ptK t<t.length) (j:Nat):XF (Xeu t j)=true:=by
 obtain ⟨_,h2,h3⟩:=Xf1 h
 have:=(h3 hk).2
 unfold Xeu XF at *
 rw [List.all_append,h2,Bool.true_and,List.all_eq_true]
 exact fun x hx=>List.all_eq_true.1 this x (List.mem_of_mem_take hx)
theorem Xgj {t:List UInt8} {j:Nat} (h:ptK t+1+j<t.length):Q8 (Xeu t (j+1))=Q8 (Xeu t j)*10+((t[ptK t+1+j]).toNat - 48):=by
 have hj:j<(t.drop (ptK t+1)).length:=by rw [List.length_drop];omega
 unfold Xeu
 rw [Xex hj,← List.append_assoc]
 unfold Q8
 rw [List.foldl_append]
 simp
theorem Xi0 {t:List UInt8} (h:Xer t=false) (hk:ptK t<t.length) {j:Nat} (hj:ptK t+1+j<t.length):48≤(t[ptK t+1+j]).toNat∧(t[ptK t+1+j]).toNat≤57:=by
 have h3:=((Xf1 h).2.2 hk).2
 refine YZ.1 (List.all_eq_true.1 h3 _ ?_)
 have hj':j<(t.drop (ptK t+1)).length:=by rw [List.length_drop];omega
 have e:t[ptK t+1+j]=(t.drop (ptK t+1))[j]:=by simp
 rw [e];exact List.getElem_mem _
theorem Xhm {z:Int} {x:Ri} {F:Gs} (h:VP F x z):x.r.n=0↔z=0:=by
 have h1:=h.p.zero
 have h2:=h.1.2.1
 rw [← h1,← h2,List.length_eq_zero_iff]
theorem Xi1 {t:List UInt8} (h:Xer t=false) (hl:t.length≤5000):sz (Xet t)≤20001:=by
 unfold Xet Xfc
 split
 ·refine Nat.le_trans (Xh2 _) ?_
  rw [List.length_drop];omega
 ·split
  ·rename_i hs
   have:=((Xf1 h).2.2 (Xh3 hs)).2
   have hl2:(t.drop (ptK t+1)).length≤5000:=by rw [List.length_drop];omega
   exact Nat.le_trans (Xf0 this hl2) (by decide)
  ·decide
theorem Xfx {t:List UInt8} (h:Xer t=false) (hl:t.length≤5000):sz (Xeq t)≤20000:=by
 unfold Xeq
 split
 ·rename_i hd
  have e:t.take (ptK t)++t.drop (ptK t+1)=Xeu t (t.drop (ptK t+1)).length:=by unfold Xeu;rw [List.take_length]
  rw [e]
  exact Xf0 (Xfo h (Xfh hd) _) (Nat.le_trans (Xfn _ _) hl)
 ·have hl2:(t.take (ptK t)).length≤5000:=by rw [List.length_take];omega
  exact Xf0 (Xf1 h).2.1 hl2
theorem Xg9 (s:List UInt8):(Lib.trimPrefix s [45]).length≤s.length∧((Lib.trimPrefix s [45]).length<s.length↔Lib.hasPrefix s [45]=true):=by
 unfold Lib.trimPrefix
 by_cases h:Lib.hasPrefix s [45]=true
 ·rw [if_pos h]
  have:s≠[]:=by rintro rfl;exact absurd h (by decide)
  have:=List.length_pos_iff.2 this
  simp [h];omega
 ·rw [if_neg h];simp [h]
end
section
open Go.RowKit Ig
theorem Xfd {w:World} {F:Gs} {l:List UInt8} (hF:Fits F w) (h:XF l=true) (hl:l.length≤1000000):G2 Tryz.prog 167 [tx l] w F (Q8 l:Int):=by
 have:=Gp hF (Xgf h) hl
 rw [XI h] at this;exact this
theorem Xhq {F:Gs} {t:List UInt8} {i:PrJ t} (hdt:Xev t=true) (hje:ptK t+1+i.j=t.length) (hn:VP F i.n (Q8 (Xeu t i.j):Int)) (hd:VP F i.d (10^i.j)):VP F i.n (Xeq t)∧VP F i.d (Xet t):=by
 have e:i.j=(t.drop (ptK t+1)).length:=by rw [List.length_drop];omega
 unfold Xeq Xet
 rw [if_pos hdt,if_pos hdt,← e]
 refine⟨?_,hd⟩
 unfold Xeu at hn
 rw [e,List.take_length] at hn;exact hn
theorem Xgi {F:Gs} {t:List UInt8} {c e:Ri} (hdt:Xev t=false) (h59:VP F c (Q8 (t.take (ptK t)):Int)) (hD:VP F e (Xfc t)):VP F c (Xeq t)∧VP F e (Xet t):=by
 unfold Xeq Xet
 rw [if_neg (by rw [hdt];decide),if_neg (by rw [hdt];decide)];exact⟨h59,hD⟩
theorem Xgh {F:Gs} {t:List UInt8} {c e:Ri} (hdt:Xev t=true) (h59:VP F c (Q8 (t.take (ptK t)):Int)) (hD:VP F e (Xfc t)):VP F c (Q8 (Xeu t 0):Int)∧VP F e (10^0):=by
 unfold Xeu
 rw [List.take_zero,List.append_nil]
 unfold Xfc at hD
 rw [if_neg (by rw [Xg3 hdt];decide)] at hD
 exact⟨h59,hD⟩
theorem Xh9 {F:Gs} {t:List UInt8} {x y:Ri} {j:Nat} (hji:ptK t+1+j<t.length) (hdg:48≤(t[ptK t+1+j]).toNat∧(t[ptK t+1+j]).toNat≤57) (h1:VP F x ((Q8 (Xeu t j):Int)*10+(((t[ptK t+1+j]).toNat:Int) - 48))) (h2:VP F y (10^j*10)):VP F x (Q8 (Xeu t (j+1)):Int)∧VP F y (10^(j+1)):=by
 rw [Xgj hji,Int.pow_succ]
 refine⟨?_,h2⟩
 have e:((Q8 (Xeu t j)*10+((t[ptK t+1+j]).toNat - 48):Nat):Int)=(Q8 (Xeu t j):Int)*10+(((t[ptK t+1+j]).toNat:Int) - 48):=by omega
 rw [e];exact h1
theorem Xfy {t:List UInt8} {b:Bool} (h:Xer t=false) (hl:t.length≤5000):sz (if b=true then -Xeq t else Xeq t)≤20000:=by
 split
 ·rw [YK];exact Xfx h hl
 ·exact Xfx h hl
theorem Xgd {w:World} {F:Gs} {s:List UInt8} (hF:Fits F w) (hl5:s.length≤5000):QZ Tryz.prog 72 [tx s] w F (.tuple #[tx (RQ s).1,.int .i64 (RQ s).2]):=by
 rw [Xh7]
 refine QS.intro (G:=fun F=>True) Tryz.func72 rfl (by rfl) rfl rfl hF (fun F' hF'=>trivial)<|J_sr<|JS_as rfl<|JS_as rfl<|JS_nt<|QG<|J_sr<|JS_mv rfl<|QA (J9 rfl Xh)<|QA (QV rfl rfl rfl)<|QE<|QC ?_
 refine QR rfl (fun hc=>?_) (fun hc=>?_)
 ·
  refine J_sr<|JS_as rfl<|JS_as rfl<|JS_nt<|QT ?_
  exact JY (()) rfl (.tmp rfl (.tmp rfl .nil)) (by have h:=dec_t hc;unfold Xey;rw [if_pos (by omega)]) (fun F hT=>trivial)
 ·
  have h4096:=dec_f hc
  refine QP<|QC<|J_sr<|JS_mv rfl<|JS_as rfl<|QE<|QC ?_
  refine KZ [(0,_)] [(4,tx (Lib.trimPrefix s [45]))] ⟨rfl,trivial⟩ ?_ ?_
  ·
   refine KZ [(0,_),(4,_)] [(21,.bool ((Lib.hasPrefix s [45])))] ⟨rfl,rfl,trivial⟩ ?_ ?_
   ·
    refine QB<|JS_mv rfl<|QA (J9 rfl Xh)<|QA (QV rfl rfl rfl)<|JS_mv rfl ?_
    refine Qn (t:=17) rfl (fun hb17=>?_) (fun hb17=>?_)
    ·
     refine QL rfl rfl<|JS_mv rfl<|QL rfl rfl<|QA (Vn (i:=0) rfl rfl Xh (by have:=dec_t hb17;omega))<|QL rfl rfl<|QA (QV rfl rfl rfl)<|QA (Qi rfl rfl rfl)<|QE ?_
     exact X0 ⟨rfl,rfl,(congrArg (fun b=>some (Value.bool b)) (by have h0:0<s.length:=(by have:=dec_t hb17;omega);rw [Wr h0];exact MD rfl)),trivial⟩ subl_r (fun _ h=>h)
    ·
     refine QO rfl rfl rfl<|QO rfl rfl rfl<|QO rfl rfl rfl<|QA (Qh rfl rfl rfl)<|QE ?_
     exact X0 ⟨rfl,rfl,(congrArg (fun b=>some (Value.bool b)) (by have h0:s.length=0:=(by have:=dec_f hb17;omega);rw [List.eq_nil_of_length_eq_zero h0];rfl)),trivial⟩ subl_r (fun _ h=>h)
   ·
    simp only [List.cons_append,List.nil_append]
    refine QR rfl (fun hc=>?_) (fun hc=>?_)
    ·
     refine QB<|JS_mv rfl<|QA (Kd (1) rfl rfl Xh rfl (Mc hc))<|JS_as rfl<|QE ?_
     exact X0 ⟨rfl,(congrArg (fun l=>some (tx l)) (by unfold Lib.trimPrefix;rw [if_pos hc];rfl)),trivial⟩ subl_r (fun _ h=>h)
    ·
     refine QP ?_
     exact X0 ⟨rfl,(congrArg (fun l=>some (tx l)) (by unfold Lib.trimPrefix;rw [hc];rfl)),trivial⟩ subl_r (fun _ h=>h)
  ·
   simp only [List.cons_append,List.nil_append]
   obtain ⟨hln,hlnI⟩:=Xg9 s
   have hK:=Xh6 (Lib.trimPrefix s [45])
   refine J_sr<|JS_mv rfl ?_
   refine QI rfl (fun w F hF hT=>Xgc hF (by omega)) (fun _=>?_)
   refine JS_as rfl<|JS_nt<|QG ?_
   refine KZ [(0,_),(4,_),(5,_)] [(55,.bool ((Xer (Lib.trimPrefix s [45]))))] ⟨rfl,rfl,rfl,trivial⟩ ?_ ?_
   ·
    refine QB<|JS_mv rfl<|QA (QV rfl rfl rfl)<|JS_mv rfl ?_
    refine Qn (t:=28) rfl (fun hb28=>?_) (fun hb28=>?_)
    ·
     refine QO rfl rfl rfl<|QO rfl rfl rfl<|QO rfl rfl rfl<|QO rfl rfl rfl<|QO rfl rfl rfl<|QA (Qi rfl rfl rfl)<|JS_mv rfl<|QO rfl rfl rfl<|QO rfl rfl rfl<|QO rfl rfl rfl<|QO rfl rfl rfl<|QO rfl rfl rfl<|JV rfl rfl<|JV rfl rfl<|JV rfl rfl<|JV rfl rfl<|JV rfl rfl<|JV rfl rfl<|JV rfl rfl<|JV rfl rfl<|JV rfl rfl<|JV rfl rfl<|JV rfl rfl<|JV rfl rfl<|JV rfl rfl ?_
     refine QO rfl rfl rfl<|QA (Qi rfl rfl rfl)<|QE ?_
     exact X0 ⟨rfl,rfl,rfl,(congrArg (fun b=>some (Value.bool b)) (by unfold Xer;rw [Bool.eq_iff_iff];simp_all<;>omega)),trivial⟩ subl_r (fun _ h=>h)
    ·
     refine QL rfl rfl<|JS_mv rfl<|QL rfl rfl<|JS_mv rfl<|QL rfl rfl<|QA (Gx ((ptK (Lib.trimPrefix s [45]))) rfl rfl Xh rfl (by omega))<|QL rfl rfl ?_
     refine QI rfl (fun w F hF ⟨hT,_⟩=>O8 (s:=(Lib.trimPrefix s [45]).take (ptK (Lib.trimPrefix s [45]))) hF (by rw [List.length_take];omega)) (fun _=>?_)
     refine QL rfl rfl<|QA (Yt rfl)<|QA (Qh rfl rfl rfl)<|JS_mv rfl ?_
     refine Qn (t:=35) rfl (fun hb35=>?_) (fun hb35=>?_)
     ·
      refine QO rfl rfl rfl<|QO rfl rfl rfl<|QO rfl rfl rfl<|QO rfl rfl rfl<|QO rfl rfl rfl<|JV rfl rfl<|JV rfl rfl<|JV rfl rfl<|JV rfl rfl<|JV rfl rfl<|JV rfl rfl<|JV rfl rfl<|JV rfl rfl<|JV rfl rfl<|JV rfl rfl<|JV rfl rfl<|JV rfl rfl<|JV rfl rfl<|QO rfl rfl rfl<|QA (Qi rfl rfl rfl)<|QE ?_
      exact X0 ⟨rfl,rfl,rfl,(congrArg (fun b=>some (Value.bool b)) (by unfold Xer;rw [Bool.eq_iff_iff];simp_all<;>omega)),trivial⟩ subl_r (fun _ h=>h.1)
     ·
      refine QL rfl rfl<|JS_mv rfl<|QL rfl rfl<|JS_mv rfl<|QL rfl rfl<|QA (J9 rfl Xh)<|QL rfl rfl<|QA (QV rfl rfl rfl)<|QL rfl rfl<|JS_mv rfl ?_
      refine Qn (t:=40) rfl (fun hb40=>?_) (fun hb40=>?_)
      ·
       refine QL rfl rfl<|JS_mv rfl<|QL rfl rfl<|QA (Qu rfl rfl (by omega))<|QL rfl rfl<|JS_mv rfl<|QL rfl rfl<|QA (J9 rfl Xh)<|QL rfl rfl<|QA (QV rfl rfl rfl)<|QL rfl rfl<|JS_mv rfl ?_
       refine Qn (t:=46) rfl (fun hb46=>?_) (fun hb46=>?_)
       ·
        refine QO rfl rfl rfl<|QO rfl rfl rfl<|QO rfl rfl rfl<|QO rfl rfl rfl<|QO rfl rfl rfl<|QO rfl rfl rfl<|QL rfl rfl<|QA (Qi rfl rfl rfl)<|QL rfl rfl<|QA (Qi rfl rfl rfl)<|QA (Qh rfl rfl rfl)<|QE ?_
        exact X0 ⟨rfl,rfl,rfl,(congrArg (fun b=>some (Value.bool b)) (by unfold Xer;rw [Bool.eq_iff_iff];simp_all<;>omega)),trivial⟩ subl_r (fun _ h=>h.1)
       ·
        refine QL rfl rfl<|JS_mv rfl<|QL rfl rfl<|JS_mv rfl<|QL rfl rfl<|QA (Qu rfl rfl (by omega))<|QL rfl rfl<|QA (Kd ((ptK (Lib.trimPrefix s [45])+1)) rfl rfl Xh (congrArg (fun z:Int=>some (Value.int .i64 z)) (by omega)) (by have:=dec_t hb40;omega))<|QL rfl rfl ?_
        refine QI rfl (fun w F hF ⟨⟨hT,_⟩,_⟩=>O8 (s:=(Lib.trimPrefix s [45]).drop (ptK (Lib.trimPrefix s [45])+1)) hF (by rw [List.length_drop];omega)) (fun _=>?_)
        refine QL rfl rfl<|QA (Yt rfl)<|QL rfl rfl<|QA (Qh rfl rfl rfl)<|QL rfl rfl<|QA (Qi rfl rfl rfl)<|QA (Qh rfl rfl rfl)<|QE ?_
        exact X0 ⟨rfl,rfl,rfl,(congrArg (fun b=>some (Value.bool b)) (by unfold Xer;rw [Bool.eq_iff_iff];simp_all<;>omega)),trivial⟩ subl_r (fun _ h=>h.1.1)
      ·
       refine QO rfl rfl rfl<|QO rfl rfl rfl<|QO rfl rfl rfl<|QO rfl rfl rfl<|QO rfl rfl rfl<|QO rfl rfl rfl<|JV rfl rfl<|JV rfl rfl<|JV rfl rfl<|JV rfl rfl<|JV rfl rfl<|JV rfl rfl<|QO rfl rfl rfl<|QL rfl rfl<|QA (Qh rfl rfl rfl)<|QA (Qh rfl rfl rfl)<|QE ?_
       exact X0 ⟨rfl,rfl,rfl,(congrArg (fun b=>some (Value.bool b)) (by unfold Xer;rw [Bool.eq_iff_iff];simp_all<;>omega)),trivial⟩ subl_r (fun _ h=>h.1)
   ·
    simp only [List.cons_append,List.nil_append]
    refine QR rfl (fun hc2=>?_) (fun hc2=>?_)
    ·
     refine J_sr<|JS_as rfl<|JS_as rfl<|JS_nt<|QT ?_
     exact JY (()) rfl (.tmp rfl (.tmp rfl .nil)) (by unfold Xey;rw [if_neg (by omega),if_pos hc2]) (fun F ⟨hT,_⟩=>trivial)
    ·
     have hpf:Xer (Lib.trimPrefix s [45])=false:=hc2
     have hpb:=Xf1 hpf
     refine QP<|QC<|J_sr<|JS_mv rfl<|JS_mv rfl<|QA (Gx ((ptK (Lib.trimPrefix s [45]))) rfl rfl Xh rfl (by omega)) ?_
     refine QI rfl (fun w F hF ⟨hT,_⟩=>Xfd (l:=(Lib.trimPrefix s [45]).take (ptK (Lib.trimPrefix s [45]))) hF hpb.2.1 (by rw [List.length_take];omega)) (fun c59=>?_)
     refine QI rfl (fun w F hF ⟨⟨hT,_⟩,h59⟩=>E6 (n:=1) hF (by decide)) (fun c60=>?_)
     refine Qb Z6 (fun b6=>?_)
     refine Qb Z6 (fun b7=>?_)
     refine QN (vs:=[_,_]) rfl rfl rfl JH rfl (.there .here) (.here (.here .nil)) ⟨rfl,rfl,trivial⟩<|QN (vs:=[_,_]) rfl rfl rfl JH rfl .here (.here (.here .nil)) ⟨rfl,rfl,trivial⟩<|QE<|QC ?_
     refine T3 (ι:=Ri) [(0,_),(4,_),(5,_),(6,_),(7,_)] (fun e=>[]) (fun e=>[(b7,.cells [.bool e.neg,.slice e.r.q e.r.n e.r.cap].toArray 143 (0,0)),(b6,.cells [.bool c59.neg,.slice c59.r.q c59.r.n c59.r.cap].toArray 143 (0,0))]) (fun e F=>VP F e (Xfc (Lib.trimPrefix s [45]))) ⟨rfl,rfl,rfl,rfl,rfl,trivial⟩ ?_ ?_
     ·
      refine KZ [(0,_),(4,_),(5,_),(6,_),(7,_)] [(70,.bool ((slT (Lib.trimPrefix s [45]))))] ⟨rfl,rfl,rfl,rfl,rfl,trivial⟩ ?_ ?_
      ·
       refine QB<|JS_mv rfl<|JS_mv rfl<|QA (J9 rfl Xh)<|QA (QV rfl rfl rfl)<|JS_mv rfl ?_
       refine Qn (t:=65) rfl (fun hb65=>?_) (fun hb65=>?_)
       ·
        refine QL rfl rfl<|JS_mv rfl<|QL rfl rfl<|JS_mv rfl<|QL rfl rfl<|QA (Vn (i:=(ptK (Lib.trimPrefix s [45]))) rfl rfl Xh (by have:=dec_t hb65;omega))<|QL rfl rfl<|QA (QV rfl rfl rfl)<|QA (Qi rfl rfl rfl)<|QE ?_
        exact X0 ⟨rfl,rfl,rfl,rfl,rfl,(congrArg (fun b=>some (Value.bool b)) (Xhx (by have:=dec_t hb65;omega))),trivial⟩ subl_r (fun _ h=>h)
       ·
        refine QO rfl rfl rfl<|QO rfl rfl rfl<|QO rfl rfl rfl<|QO rfl rfl rfl<|QA (Qh rfl rfl rfl)<|QE ?_
        exact X0 ⟨rfl,rfl,rfl,rfl,rfl,(congrArg (fun b=>some (Value.bool b)) (by unfold slT;rw [decide_eq_false (by have:=dec_f hb65;omega)];rfl)),trivial⟩ subl_r (fun _ h=>h)
      ·
       simp only [List.cons_append,List.nil_append]
       refine QR rfl (fun hc=>?_) (fun hc=>?_)
       ·
        refine QB<|JS_mv rfl<|JS_mv rfl<|QA (Qu rfl rfl (by omega))<|QA (Kd ((ptK (Lib.trimPrefix s [45])+1)) rfl rfl Xh (congrArg (fun z:Int=>some (Value.int .i64 z)) (by omega)) (by have:=Xh3 hc;omega)) ?_
        refine QI rfl (fun w F hF ⟨⟨⟨hT,_⟩,h59⟩,h60⟩=>Xfd (l:=(Lib.trimPrefix s [45]).drop (ptK (Lib.trimPrefix s [45])+1)) hF (hpb.2.2 (Xh3 hc)).2 (by rw [List.length_drop];omega)) (fun c75=>?_)
        refine QN (vs:=[_,_]) rfl rfl rfl JH rfl .here (.here (.here .nil)) ⟨rfl,rfl,trivial⟩<|QE ?_
        exact Jt (c75) ⟨rfl,rfl,rfl,rfl,rfl,trivial⟩ subl_r (fun F ⟨⟨⟨⟨hT,_⟩,h59⟩,h60⟩,h75⟩=>⟨⟨⟨⟨hT,trivial⟩,h59⟩,h60⟩,(by rw [show Xfc _=_ from if_pos hc];exact h75)⟩)
       ·
        refine QP ?_
        exact Jt (c60) ⟨rfl,rfl,rfl,rfl,rfl,trivial⟩ subl_r (fun F ⟨⟨⟨hT,_⟩,h59⟩,h60⟩=>⟨⟨⟨⟨hT,trivial⟩,h59⟩,h60⟩,(by rw [show Xfc _=_ from if_neg (by rw [hc];decide)];exact h60)⟩)
     ·intro e
      simp only [List.cons_append,List.nil_append]
      refine T3 (ι:=Ri×Ri) [(0,_),(4,_),(6,_),(7,_)] (fun g=>[]) (fun g=>[(b7,.cells [.bool g.2.neg,.slice g.2.r.q g.2.r.n g.2.r.cap].toArray 143 (0,0)),(b6,.cells [.bool g.1.neg,.slice g.1.r.q g.1.r.n g.1.r.cap].toArray 143 (0,0))]) (fun g F=>VP F g.1 (Xeq (Lib.trimPrefix s [45]))∧VP F g.2 (Xet (Lib.trimPrefix s [45]))) ⟨rfl,rfl,rfl,rfl,trivial⟩ ?_ ?_
      ·
       refine KZ [(0,_),(4,_),(5,_),(6,_),(7,_)] [(85,.bool ((Xev (Lib.trimPrefix s [45]))))] ⟨rfl,rfl,rfl,rfl,rfl,trivial⟩ ?_ ?_
       ·
        refine QB<|JS_mv rfl<|JS_mv rfl<|QA (J9 rfl Xh)<|QA (QV rfl rfl rfl)<|JS_mv rfl ?_
        refine Qn (t:=80) rfl (fun hb80=>?_) (fun hb80=>?_)
        ·
         refine QL rfl rfl<|JS_mv rfl<|QL rfl rfl<|JS_mv rfl<|QL rfl rfl<|QA (Vn (i:=(ptK (Lib.trimPrefix s [45]))) rfl rfl Xh (by have:=dec_t hb80;omega))<|QL rfl rfl<|QA (QV rfl rfl rfl)<|QA (Qi rfl rfl rfl)<|QE ?_
         exact X0 ⟨rfl,rfl,rfl,rfl,rfl,(congrArg (fun b=>some (Value.bool b)) (Xhv (by have:=dec_t hb80;omega))),trivial⟩ subl_r (fun _ h=>h)
        ·
         refine QO rfl rfl rfl<|QO rfl rfl rfl<|QO rfl rfl rfl<|QO rfl rfl rfl<|QA (Qh rfl rfl rfl)<|QE ?_
         exact X0 ⟨rfl,rfl,rfl,rfl,rfl,(congrArg (fun b=>some (Value.bool b)) (by unfold Xev;rw [decide_eq_false (by have:=dec_f hb80;omega)];rfl)),trivial⟩ subl_r (fun _ h=>h)
       ·
        simp only [List.cons_append,List.nil_append]
        refine QR rfl (fun hc2=>?_) (fun hc2=>?_)
        ·
         have hdt:=hc2
         refine J_sr<|JS_mv rfl<|QA (Qu rfl rfl (by omega))<|JS_as rfl<|JS_nt<|Qa ?_
         refine Jz (ι:=PrJ (Lib.trimPrefix s [45])) [(0,_),(4,_),(6,_),(7,_)] (fun i=>[(8,.int .i64 (((ptK (Lib.trimPrefix s [45])+1+i.j):Nat):Int))]) (fun i=>[(b7,.cells [.bool i.d.neg,.slice i.d.r.q i.d.r.n i.d.r.cap].toArray 143 (0,0)),(b6,.cells [.bool i.n.neg,.slice i.n.r.q i.n.r.n i.n.r.cap].toArray 143 (0,0))]) (fun i F=>VP F i.n (Q8 (Xeu (Lib.trimPrefix s [45]) i.j):Int)∧VP F i.d (10^i.j)) (fun i=>(Lib.trimPrefix s [45]).length - (i.j+ptK (Lib.trimPrefix s [45])+1)) (⟨0,c59,e,Nat.zero_le _⟩) ⟨rfl,rfl,rfl,rfl,trivial⟩ ⟨rfl,trivial⟩ subl_r (fun F h=>Xgh hdt h.1.1.2 h.2) (fun i=>?_)
         simp only [List.cons_append,List.nil_append]
         have hda:=Xfh hdt
         have hj:=i.le
         rw [List.length_drop] at hj
         have hsn:=Xf0 (Xfo hpf (Xfh hdt) i.j) (k:=5000) (by have:=Xfn (Lib.trimPrefix s [45]) i.j;omega)
         have hsd:=Xh2 i.j
         refine QG<|J_sr<|JS_mv rfl<|JS_mv rfl<|QA (J9 rfl Xh)<|QA (QV rfl rfl rfl)<|QE<|QC ?_
         refine QR rfl (fun hc3=>?_) (fun hc3=>?_)
         ·
          have hji:ptK (Lib.trimPrefix s [45])+1+i.j<(Lib.trimPrefix s [45]).length:=by have:=dec_t hc3;omega
          have hdg:=Xi0 hpf (Xfh hdt) hji
          have hdz:sz (((Lib.trimPrefix s [45])[ptK (Lib.trimPrefix s [45])+1+i.j].toNat:Int) - 48)≤1000000:=Nat.le_trans (Y9 (b:=1000) (by omega)) (by decide)
          refine QP<|QC<|QG<|Qa<|QG<|Xv 10 subl_r mixed (by kernel_rfl) (by kernel_rfl) ?_
          simp only [List.take_succ_cons,List.take_zero,List.drop_succ_cons,List.drop_zero]
          refine QK (QJ (vs:=[_,_]) rfl JH (.there .here) (.here (.here .nil)) rfl) ?_
          refine QY rfl (fun w F hF ⟨⟨⟨⟨⟨hT,_⟩,h59⟩,h60⟩,hD⟩,⟨hn,hd⟩⟩=>E6 (n:=10) hF (by decide)) (fun c95=>?_)
          refine QY rfl (fun w F hF ⟨⟨⟨⟨⟨⟨hT,_⟩,h59⟩,h60⟩,hD⟩,⟨hn,hd⟩⟩,h95⟩=>Gn (zx:=(Q8 (Xeu (Lib.trimPrefix s [45]) i.j):Int)) (zy:=10) hF hn h95 (by omega) (by decide)) (fun c96=>?_)
          refine QK (QD rfl)<|QK (QD rfl)<|QK (Vn (i:=(ptK (Lib.trimPrefix s [45])+1+i.j)) rfl rfl Xh (by omega))<|QK (FZ rfl gV pO (by omega))<|QK (J6 rfl rfl (by omega)) ?_
          refine QY rfl (fun w F hF ⟨⟨⟨⟨⟨⟨⟨hT,_⟩,h59⟩,h60⟩,hD⟩,⟨hn,hd⟩⟩,h95⟩,h96⟩=>E6 (n:=((Lib.trimPrefix s [45])[ptK (Lib.trimPrefix s [45])+1+i.j].toNat:Int) - 48) hF (by omega)) (fun c102=>?_)
          refine QY rfl (fun w F hF ⟨⟨⟨⟨⟨⟨⟨⟨hT,_⟩,h59⟩,h60⟩,hD⟩,⟨hn,hd⟩⟩,h95⟩,h96⟩,h102⟩=>zS (zx:=(Q8 (Xeu (Lib.trimPrefix s [45]) i.j):Int)*10) (zy:=((Lib.trimPrefix s [45])[ptK (Lib.trimPrefix s [45])+1+i.j].toNat:Int) - 48) hF h96 h102 (by have:=Ve (Q8 (Xeu (Lib.trimPrefix s [45]) i.j):Int) 10;have:sz 10≤10:=(by decide);omega) hdz) (fun c103=>?_)
          refine VL<|QN (vs:=[_,_]) rfl rfl rfl JH rfl (.there .here) (.here (.here .nil)) ⟨rfl,rfl,trivial⟩<|JS_nt<|Xv 3 subl_r mixed (by kernel_rfl) (by kernel_rfl) ?_
          simp only [List.take_succ_cons,List.take_zero,List.drop_succ_cons,List.drop_zero]
          refine QK (QJ (vs:=[_,_]) rfl JH .here (.here (.here .nil)) rfl) ?_
          refine QY rfl (fun w F hF ⟨⟨⟨⟨⟨⟨⟨⟨⟨hT,_⟩,h59⟩,h60⟩,hD⟩,⟨hn,hd⟩⟩,h95⟩,h96⟩,h102⟩,h103⟩=>E6 (n:=10) hF (by decide)) (fun c105=>?_)
          refine QY rfl (fun w F hF ⟨⟨⟨⟨⟨⟨⟨⟨⟨⟨hT,_⟩,h59⟩,h60⟩,hD⟩,⟨hn,hd⟩⟩,h95⟩,h96⟩,h102⟩,h103⟩,h105⟩=>Gn (zx:=10^i.j) (zy:=10) hF hd h105 (by omega) (by decide)) (fun c106=>?_)
          refine VL<|QN (vs:=[_,_]) rfl rfl rfl JH rfl .here (.here (.here .nil)) ⟨rfl,rfl,trivial⟩<|QE<|Qk<|QC<|QB<|JS_mv rfl<|QA (Qu rfl rfl (by omega))<|JS_as rfl<|QE ?_
          exact Qo (⟨i.j+1,c103,c106,by rw [List.length_drop];omega⟩) (by show _ - _<_ - _;dsimp only;omega) ⟨rfl,rfl,rfl,rfl,rfl,trivial⟩ subl_r (fun F ⟨⟨⟨⟨⟨⟨⟨⟨⟨⟨⟨hT,_⟩,h59⟩,h60⟩,hD⟩,⟨hn,hd⟩⟩,h95⟩,h96⟩,h102⟩,h103⟩,h105⟩,h106⟩=>⟨⟨⟨⟨⟨hT,trivial⟩,h59⟩,h60⟩,hD⟩,Xh9 hji hdg h103 h106⟩)
         ·
          have hje:ptK (Lib.trimPrefix s [45])+1+i.j=(Lib.trimPrefix s [45]).length:=by have:=dec_f hc3;omega
          refine Q5 ?_
          repeat (first | refine Qd ?_ | refine QW (by rfl) ?_)
          refine Qe ?_
          exact Jt ((i.n,i.d)) ⟨rfl,rfl,rfl,rfl,trivial⟩ subl_r (fun F ⟨⟨⟨⟨⟨hT,_⟩,h59⟩,h60⟩,hD⟩,⟨hn,hd⟩⟩=>⟨⟨⟨⟨⟨hT,trivial⟩,h59⟩,h60⟩,hD⟩,(Xhq hdt hje hn hd)⟩)
        ·
         have hdt:=hc2
         refine QP ?_
         exact Jt ((c59,e)) ⟨rfl,rfl,rfl,rfl,trivial⟩ subl_r (fun F ⟨⟨⟨⟨hT,_⟩,h59⟩,h60⟩,hD⟩=>⟨⟨⟨⟨⟨hT,trivial⟩,h59⟩,h60⟩,hD⟩,(Xgi hdt h59 hD)⟩)
      ·intro g
       simp only [List.cons_append,List.nil_append]
       refine QG<|QG ?_
       have hns:=Xfx hpf (by omega)
       have hds:=Xi1 hpf (by omega)
       have hnz:=Xfy (b:=Lib.hasPrefix s [45]) hpf (by omega)
       refine Xz _ (fun w F hF h=>Xhm h.2.2) (fun pz=>?_)
       refine QB<|QA (QH rfl Z1 Qz)<|QA (Qj rfl Qz .here (.skip (.here .nil)))<|QA (Ql rfl Qf)<|QA (QV rfl rfl rfl)<|QE<|QC ?_
       refine QR rfl (fun hc=>?_) (fun hc=>?_)
       ·
        have hz0:Xet (Lib.trimPrefix s [45])=0:=pz.1 (by simpa using hc)
        refine J_sr<|JS_as rfl<|JS_as rfl<|JS_nt<|QT ?_
        exact JY (()) rfl (.tmp rfl (.tmp rfl .nil)) (by unfold Xey;rw [if_neg (by omega),if_neg (by rw [hpf];decide),if_pos hz0]) (fun F ⟨⟨⟨⟨⟨hT,_⟩,h59⟩,h60⟩,hD⟩,⟨hN,hE⟩⟩=>trivial)
       ·
        have hd0:Xet (Lib.trimPrefix s [45])≠0:=fun e=>by have:=pz.2 e;rw [this] at hc;simp at hc
        refine QP<|QC ?_
        refine T3 (ι:=Ri) [(6,_),(7,_)] (fun u=>[]) (fun u=>[(b7,.cells [.bool g.2.neg,.slice g.2.r.q g.2.r.n g.2.r.cap].toArray 143 (0,0)),(b6,.cells [.bool u.neg,.slice u.r.q u.r.n u.r.cap].toArray 143 (0,0))]) (fun u F=>VP F u (if Lib.hasPrefix s [45]=true then -Xeq (Lib.trimPrefix s [45]) else Xeq (Lib.trimPrefix s [45]))) ⟨rfl,rfl,trivial⟩ ?_ ?_
        ·
         refine J_sr<|JS_mv rfl<|QA (J9 rfl Xh)<|JS_mv rfl<|QA (J9 rfl Xh)<|QA (QV rfl rfl rfl)<|QE<|QC ?_
         refine QR rfl (fun hc=>?_) (fun hc=>?_)
         ·
          have hlt:=dec_t hc
          refine QB<|QA (QJ (vs:=[_,_]) rfl JH (.there .here) (.here (.here .nil)) rfl) ?_
          refine QI rfl (fun w F hF ⟨⟨⟨⟨⟨hT,_⟩,h59⟩,h60⟩,hD⟩,⟨hN,hE⟩⟩=>jJ (zx:=Xeq (Lib.trimPrefix s [45])) hF hN (by omega)) (fun c117=>?_)
          refine QN (vs:=[_,_]) rfl rfl rfl JH rfl (.there .here) (.here (.here .nil)) ⟨rfl,rfl,trivial⟩<|QE ?_
          exact Jt (c117) ⟨rfl,rfl,trivial⟩ subl_r (fun F ⟨⟨⟨⟨⟨⟨hT,_⟩,h59⟩,h60⟩,hD⟩,⟨hN,hE⟩⟩,h117⟩=>⟨⟨⟨⟨⟨⟨hT,trivial⟩,h59⟩,h60⟩,hD⟩,⟨hN,hE⟩⟩,(by rw [if_pos (hlnI.1 (by omega))];exact h117)⟩)
         ·
          have hlt:=dec_f hc
          refine QP ?_
          exact Jt (g.1) ⟨rfl,rfl,trivial⟩ subl_r (fun F ⟨⟨⟨⟨⟨hT,_⟩,h59⟩,h60⟩,hD⟩,⟨hN,hE⟩⟩=>⟨⟨⟨⟨⟨⟨hT,trivial⟩,h59⟩,h60⟩,hD⟩,⟨hN,hE⟩⟩,(by rw [if_neg (fun e=>absurd (hlnI.2 e) (by omega))];exact hN)⟩)
        ·intro u
         simp only [List.cons_append,List.nil_append]
         refine J_sr<|QA (QJ (vs:=[_,_]) rfl JH (.there .here) (.here (.here .nil)) rfl)<|QA (QJ (vs:=[_,_]) rfl JH .here (.here (.here .nil)) rfl) ?_
         refine QI rfl (fun w F hF ⟨⟨⟨⟨⟨⟨hT,_⟩,h59⟩,h60⟩,hD⟩,⟨hN,hE⟩⟩,hU⟩=>Hm (zx:=if Lib.hasPrefix s [45]=true then -Xeq (Lib.trimPrefix s [45]) else Xeq (Lib.trimPrefix s [45])) (zy:=Xet (Lib.trimPrefix s [45])) hF hU hE hd0 (by omega) (by omega)) (fun _=>?_)
         refine JS_as rfl<|JS_nt<|QG<|J_sr<|JS_mv rfl ?_
         refine QI rfl (fun w F hF ⟨⟨⟨⟨⟨⟨⟨hT,_⟩,h59⟩,h60⟩,hD⟩,⟨hN,hE⟩⟩,hU⟩,_⟩=>y3 hF (by have h1:=Gy (Rat.divInt (if Lib.hasPrefix s [45]=true then -Xeq (Lib.trimPrefix s [45]) else Xeq (Lib.trimPrefix s [45])) (Xet (Lib.trimPrefix s [45])));have h2:=Yd (a:=if Lib.hasPrefix s [45]=true then -Xeq (Lib.trimPrefix s [45]) else Xeq (Lib.trimPrefix s [45])) hd0;omega)) (fun _=>?_)
         refine QA (QV rfl rfl rfl)<|QE<|QC ?_
         refine QR rfl (fun hc=>?_) (fun hc=>?_)
         ·
          have hLG:Xi (Rat.divInt (if Lib.hasPrefix s [45]=true then -Xeq (Lib.trimPrefix s [45]) else Xeq (Lib.trimPrefix s [45])) (Xet (Lib.trimPrefix s [45])))=true:=by rw [CB] at hc;by_cases g:Xi (Rat.divInt (if Lib.hasPrefix s [45]=true then -Xeq (Lib.trimPrefix s [45]) else Xeq (Lib.trimPrefix s [45])) (Xet (Lib.trimPrefix s [45])))=true;exact g;rw [if_neg g] at hc;simp at hc
          refine J_sr<|JS_as rfl<|JS_as rfl<|JS_nt<|QT ?_
          exact JY (()) rfl (.tmp rfl (.tmp rfl .nil)) (by unfold Xey;rw [if_neg (by omega),if_neg (by rw [hpf];decide),if_neg hd0];unfold Pj;rw [if_pos hLG]) (fun F ⟨⟨⟨⟨⟨⟨⟨⟨hT,_⟩,h59⟩,h60⟩,hD⟩,⟨hN,hE⟩⟩,hU⟩,_⟩,_⟩=>trivial)
         ·
          have hLG:¬ Xi (Rat.divInt (if Lib.hasPrefix s [45]=true then -Xeq (Lib.trimPrefix s [45]) else Xeq (Lib.trimPrefix s [45])) (Xet (Lib.trimPrefix s [45])))=true:=fun g=>by rw [CB,if_pos g] at hc;simp at hc
          refine QP<|QC<|J_sr<|JS_mv rfl<|JS_as rfl<|JS_as rfl<|JS_nt<|QT ?_
          exact JY (()) rfl (.tmp rfl (.tmp rfl .nil)) (by unfold Xey;rw [if_neg (by omega),if_neg (by rw [hpf];decide),if_neg hd0];unfold Pj;rw [if_neg hLG]) (fun F ⟨⟨⟨⟨⟨⟨⟨⟨hT,_⟩,h59⟩,h60⟩,hD⟩,⟨hN,hE⟩⟩,hU⟩,_⟩,_⟩=>trivial)
end
section
open Go.RowKit Ig
section
variable {P:Program} {N:Nat} {m:Sl} {Y:World→Prop} {ty:TypeId}
theorem Xek {T yT:TypeId} {x y:Operand} {a:List UInt8} (hx:ev m x=some (tx a)) (hy:ev m y=some (tx a)):Qt P N m Y (.binOp .neq T x y yT) ty (.bool false):=by
 have:=La (P:=P) (N:=N) (Y:=Y) (ty:=ty) (T:=T) (yT:=yT) hx hy
 rw [show(!(a==a))=false from by simp] at this;exact this
end
end
section
open Go.RowKit Ig
def Xh1 (n:Nat):Bool:=(decide ((n:Int)>40)&&decide ((n:Int)<1200))||decide ((n:Int)>5000)
section
variable {P:Program} {N:Nat} {m:Sl} {S:World→Prop} {ty:TypeId}
theorem Xho {T yT:TypeId} {x y:Operand} {a:Bool} (hT:CE P T=true) (hx:ev m x=some (.bool a)) (hy:ev m y=some (.bool a)):Qt P N m S (.binOp .neq T x y yT) ty (.bool false):=by
 have:=y8 (P:=P) (N:=N) (S:=S) (ty:=ty) (T:=T) (yT:=yT) hT hx hy
 rw [show(!(a==a))=false from by simp] at this;exact this
end
theorem Xgb {w:World} {F:Gs} {s:List UInt8} (hF:Fits F w) (hs:Jy s=0):QZ Tryz.prog 70 [tx s] w F (.tuple #[.int .i64 (tiO (Ju s)).1,.bool (tiO (Ju s)).2]):=by
 have h:=Xh4 (x:=Ju s) hF (Nat.le_trans (XH hs) (by decide))
 rwa [← (Zj hs).1] at h
theorem Xg7 {s:List UInt8} (hs:Jy s=0):(if(!(tiO (Ju s)).2)=true then(3:Int) else 0)=(Xes s).2∧(tiO (Ju s)).1=(Xes s).1:=by
 unfold Xes tiO
 rw [if_pos hs]
 split<;>exact⟨rfl,rfl⟩
theorem Xg8 {s:List UInt8} (hs:¬ Jy s=0):Jy s=(Xes s).2∧0=(Xes s).1:=by
 unfold Xes;rw [if_neg hs];exact⟨rfl,rfl⟩
theorem Xfu {s:List UInt8} (h:¬ (Xes s).2=0):(Xes s).1=0:=by
 unfold Xes at *
 split at h
 ·rename_i h1
  rw [if_pos h1]
  split at h
  ·exact absurd rfl h
  ·rename_i h2;rw [if_neg h2]
 ·rename_i h1;rw [if_neg h1]
theorem Xhn {w:World} {F:Gs} {s:List UInt8} {num den:Int} (hF:Fits F w) (hGl:JB F) (hn : -9223372036854775808≤num∧num≤9223372036854775807) (hd : -9223372036854775808≤den∧den≤9223372036854775807):QZ Tryz.prog 9 [tx s,.int .i64 num,.int .i64 den] w F (.bool true):=by
 refine QS.intro (G:=fun F=>JB F) Tryz.func9 rfl (by rfl) rfl rfl hF (fun F' hF'=>hGl.le hF')<|J_sr<|JS_as rfl<|JS_nt<|QG ?_
 refine KZ [(0,_),(1,_),(2,_)] [(35,.bool ((Xh1 s.length)))] ⟨rfl,rfl,rfl,trivial⟩ ?_ ?_
 ·
  refine QB ?_
  refine QI rfl (fun w F hF hGl=>T2 hF hGl) (fun _=>?_)
  refine QA (Yt rfl)<|JS_mv rfl<|QL rfl rfl<|JS_mv rfl<|QL rfl rfl<|QA (J9 rfl Xh)<|QL rfl rfl<|QA (QV rfl rfl rfl)<|QL rfl rfl<|JS_mv rfl ?_
  refine Qn (t:=25) rfl (fun hb25=>?_) (fun hb25=>?_)
  ·
   refine QL rfl rfl<|JS_mv rfl<|QL rfl rfl<|QA (J9 rfl Xh)<|QL rfl rfl<|QA (QV rfl rfl rfl)<|QL rfl rfl<|QA (Qi rfl rfl rfl)<|QA (Qh rfl rfl rfl)<|JS_mv rfl ?_
   refine Qn (t:=31) rfl (fun hb31=>?_) (fun hb31=>?_)
   ·
    refine QO rfl rfl rfl<|QO rfl rfl rfl<|QO rfl rfl rfl<|QA (Qi rfl rfl rfl)<|QE ?_
    exact X0 ⟨rfl,rfl,rfl,(congrArg (fun b=>some (Value.bool b)) (by unfold Xh1;rw [Bool.eq_iff_iff];simp_all<;>(intros;omega))),trivial⟩ subl_r (fun _ h=>h.1)
   ·
    refine QL rfl rfl<|JS_mv rfl<|QL rfl rfl<|QA (J9 rfl Xh)<|QL rfl rfl<|QA (QV rfl rfl rfl)<|QA (Qh rfl rfl rfl)<|QE ?_
    exact X0 ⟨rfl,rfl,rfl,(congrArg (fun b=>some (Value.bool b)) (by unfold Xh1;rw [Bool.eq_iff_iff];simp_all<;>(intros;omega))),trivial⟩ subl_r (fun _ h=>h.1)
  ·
   refine QO rfl rfl rfl<|QO rfl rfl rfl<|QO rfl rfl rfl<|QL rfl rfl<|QA (Qh rfl rfl rfl)<|QA (Qh rfl rfl rfl)<|JS_mv rfl<|QL rfl rfl<|JS_mv rfl<|QL rfl rfl<|QA (J9 rfl Xh)<|QL rfl rfl<|QA (QV rfl rfl rfl)<|QA (Qh rfl rfl rfl)<|QE ?_
   exact X0 ⟨rfl,rfl,rfl,(congrArg (fun b=>some (Value.bool b)) (by unfold Xh1;rw [Bool.eq_iff_iff];simp_all<;>(intros;omega))),trivial⟩ subl_r (fun _ h=>h.1)
 ·
  simp only [List.cons_append,List.nil_append]
  refine QR rfl (fun hc=>?_) (fun hc=>?_)
  ·
   refine QG<|QB ?_
   refine QI rfl (fun w F hF hGl=>T2 hF hGl) (fun _=>?_)
   refine JS_as rfl<|JS_nt<|QT ?_
   exact QQ (()) rfl (.tmp rfl .nil) (rfl) (fun F ⟨hGl,_⟩=>trivial)
  ·
   have hl5:s.length≤5000:=by unfold Xh1 at hc;simp at hc;omega
   refine QP<|QC<|J_sr<|JS_mv rfl<|JS_as rfl<|JS_nt<|J_sr<|JS_mv rfl ?_
   refine QI rfl (fun w F hF hGl=>LU (s:=s) hF (by omega)) (fun _=>?_)
   refine JS_as rfl<|JS_nt<|QG<|J_sr<|JS_mv rfl ?_
   refine QI rfl (fun w F hF ⟨hGl,_⟩=>TS (s:=s) hF (by omega)) (fun _=>?_)
   refine JS_mv rfl ?_
   refine QI rfl (fun w F hF ⟨⟨hGl,_⟩,_⟩=>Xge (s:=s) hF (by omega)) (fun _=>?_)
   refine QA (Xho qW rfl rfl)<|JS_mv rfl<|QL rfl rfl<|JS_mv rfl<|QL rfl rfl ?_
   refine QI rfl (fun w F hF ⟨⟨⟨hGl,_⟩,_⟩,_⟩=>Ef (s:=s) hF hGl (by omega)) (fun _=>?_)
   refine QL rfl rfl<|JS_mv rfl<|QL rfl rfl<|QA (QV rfl rfl (show some (Value.bool (!(Jy s==Jy s)))=some (Value.bool false) by simp))<|QA (Qh rfl rfl rfl)<|QE<|QC ?_
   refine QR rfl (fun hc=>?_) (fun hc=>?_)
   ·exact absurd hc (by simp)
   ·
    refine QP<|QC<|J_sr<|JS_mv rfl ?_
    refine QI rfl (fun w F hF ⟨⟨⟨⟨hGl,_⟩,_⟩,_⟩,_⟩=>Xhz (a:=s) hF hGl (by omega)) (fun _=>?_)
    refine JS_mv rfl<|QA (QM rfl rfl)<|QA (QM rfl rfl)<|JS_as rfl<|JS_as rfl<|JS_nt<|J_sr<|JS_as rfl<|QE<|QC ?_
    refine KZ [(0,_),(1,_),(2,_),(9,_),(10,_)] [(8,.int .i64 ((Xes s).2)),(11,.int .i64 ((Xes s).1))] ⟨rfl,rfl,rfl,rfl,rfl,trivial⟩ ?_ ?_
    ·
     refine J_sr<|JS_mv rfl<|QA (QV rfl rfl rfl)<|QE<|QC ?_
     refine QR rfl (fun hc=>?_) (fun hc=>?_)
     ·
      have hck:Jy s=0:=by simpa using hc
      refine J_sr<|JS_as rfl<|JS_nt<|J_sr<|JS_mv rfl ?_
      refine QI rfl (fun w F hF ⟨⟨⟨⟨⟨hGl,_⟩,_⟩,_⟩,_⟩,_⟩=>Xgb hF hck) (fun _=>?_)
      refine JS_mv rfl<|QA (QM rfl rfl)<|QA (QM rfl rfl)<|JS_as rfl<|JS_as rfl<|JS_nt<|QB<|JS_mv rfl<|QA (Yt rfl) ?_
      refine QI rfl (fun w F hF ⟨⟨⟨⟨⟨⟨hGl,_⟩,_⟩,_⟩,_⟩,_⟩,_⟩=>CA hF) (fun _=>?_)
      refine JS_as rfl<|QE ?_
      exact X0 ⟨rfl,rfl,rfl,rfl,rfl,(congrArg (fun z:Int=>some (Value.int .i64 z)) ((Xg7 hck).1)),(congrArg (fun z:Int=>some (Value.int .i64 z)) ((Xg7 hck).2)),trivial⟩ subl_r (fun _ h=>h.1.1)
     ·
      have hck:¬ Jy s=0:=by simpa using hc
      refine QP ?_
      exact X0 ⟨rfl,rfl,rfl,rfl,rfl,(congrArg (fun z:Int=>some (Value.int .i64 z)) ((Xg8 hck).1)),(congrArg (fun z:Int=>some (Value.int .i64 z)) ((Xg8 hck).2)),trivial⟩ subl_r (fun _ h=>h)
    ·
     simp only [List.cons_append,List.nil_append]
     refine QG ?_
     refine KZ [(0,_),(1,_),(2,_)] [(85,.bool (false))] ⟨rfl,rfl,rfl,trivial⟩ ?_ ?_
     ·
      refine QB<|JS_mv rfl<|JS_mv rfl<|QA (QV rfl rfl (show some (Value.bool (!((Xes s).2==(Xes s).2)))=some (Value.bool false) by simp))<|JS_mv rfl<|QL rfl rfl<|JS_mv rfl<|QL rfl rfl<|QA (QV rfl rfl rfl)<|QL rfl rfl<|JS_mv rfl ?_
      refine Qn (t:=72) rfl (fun hb72=>?_) (fun hb72=>?_)
      ·
       refine QL rfl rfl<|JS_mv rfl<|QL rfl rfl<|JS_mv rfl<|QL rfl rfl<|QA (QV rfl rfl (show some (Value.bool (!((Xes s).1==(Xes s).1)))=some (Value.bool false) by simp))<|QL rfl rfl<|QA (Qi rfl rfl rfl)<|QA (Qh rfl rfl rfl)<|JS_mv rfl<|QL rfl rfl<|JS_mv rfl<|QL rfl rfl<|QA (QV rfl rfl rfl)<|QL rfl rfl<|JS_mv rfl ?_
       refine Qn (t:=81) rfl (fun hb81=>?_) (fun hb81=>?_)
       ·
        refine QL rfl rfl<|JS_mv rfl<|QL rfl rfl<|QA (QV rfl rfl (show some (Value.bool (!((Xes s).1==0)))=some (Value.bool false) by rw [Xfu (by simpa using hb81)];rfl))<|QL rfl rfl<|QA (Qi rfl rfl rfl)<|QA (Qh rfl rfl rfl)<|QE ?_
        exact X0 ⟨rfl,rfl,rfl,(congrArg (fun b=>some (Value.bool b)) (by simp_all)),trivial⟩ subl_r (fun _ h=>h)
       ·
        refine QO rfl rfl rfl<|QO rfl rfl rfl<|QL rfl rfl<|QA (Qh rfl rfl rfl)<|QA (Qh rfl rfl rfl)<|QE ?_
        exact X0 ⟨rfl,rfl,rfl,(congrArg (fun b=>some (Value.bool b)) (by simp_all)),trivial⟩ subl_r (fun _ h=>h)
      ·
       refine QO rfl rfl rfl<|QO rfl rfl rfl<|QO rfl rfl rfl<|QL rfl rfl<|QA (Qh rfl rfl rfl)<|QA (Qh rfl rfl rfl)<|JS_mv rfl<|QL rfl rfl<|JS_mv rfl<|QL rfl rfl<|QA (QV rfl rfl rfl)<|QL rfl rfl<|JS_mv rfl ?_
       refine Qn (t:=81) rfl (fun hb81=>?_) (fun hb81=>?_)
       ·
        refine QL rfl rfl<|JS_mv rfl<|QL rfl rfl<|QA (QV rfl rfl (show some (Value.bool (!((Xes s).1==0)))=some (Value.bool false) by rw [Xfu (by simpa using hb81)];rfl))<|QL rfl rfl<|QA (Qi rfl rfl rfl)<|QA (Qh rfl rfl rfl)<|QE ?_
        exact X0 ⟨rfl,rfl,rfl,(congrArg (fun b=>some (Value.bool b)) (by simp_all)),trivial⟩ subl_r (fun _ h=>h)
       ·
        refine QO rfl rfl rfl<|QO rfl rfl rfl<|QL rfl rfl<|QA (Qh rfl rfl rfl)<|QA (Qh rfl rfl rfl)<|QE ?_
        exact X0 ⟨rfl,rfl,rfl,(congrArg (fun b=>some (Value.bool b)) (by simp_all)),trivial⟩ subl_r (fun _ h=>h)
     ·
      simp only [List.cons_append,List.nil_append]
      refine QR rfl (fun hc=>?_) (fun hc=>?_)
      ·exact absurd hc (by simp)
      ·
       refine QP<|QC<|J_sr<|JS_mv rfl ?_
       refine QI rfl (fun w F hF ⟨⟨⟨⟨⟨hGl,_⟩,_⟩,_⟩,_⟩,_⟩=>Lv (s:=s) hF hGl (by omega)) (fun _=>?_)
       refine JS_mv rfl<|QA (QM rfl rfl)<|QA (QM rfl rfl)<|JS_as rfl<|JS_as rfl<|JS_nt<|J_sr<|JS_mv rfl ?_
       refine QI rfl (fun w F hF ⟨⟨⟨⟨⟨⟨hGl,_⟩,_⟩,_⟩,_⟩,_⟩,_⟩=>Xgd (s:=s) hF hl5) (fun _=>?_)
       refine JS_mv rfl<|QA (QM rfl rfl)<|QA (QM rfl rfl)<|JS_as rfl<|JS_as rfl<|JS_nt<|QG<|J_sr<|JS_mv rfl<|JS_mv rfl<|QA (QV rfl rfl (show some (Value.bool (!((RQ s).2==(RQ s).2)))=some (Value.bool false) by simp))<|JS_mv rfl<|QL rfl rfl<|JS_mv rfl<|QL rfl rfl<|JS_mv rfl<|QL rfl rfl<|QA (Xek rfl rfl)<|QA (Qh rfl rfl rfl)<|QE<|QC ?_
       refine QR rfl (fun hc=>?_) (fun hc=>?_)
       ·exact absurd hc (by simp)
       ·
        refine QP<|QC<|J_sr<|JS_mv rfl<|JS_mv rfl ?_
        refine QI rfl (fun w F hF ⟨⟨⟨⟨⟨⟨⟨hGl,_⟩,_⟩,_⟩,_⟩,_⟩,_⟩,_⟩=>Xi3 hF hGl hn hd) (fun _=>?_)
        refine JS_mv rfl<|QA (QM rfl rfl)<|QA (QM rfl rfl)<|JS_as rfl<|JS_as rfl<|JS_nt<|QG<|J_sr<|JS_mv rfl<|QA (QV rfl rfl rfl)<|QE<|QC ?_
        refine QR rfl (fun hc=>?_) (fun hc=>?_)
        ·
         have hd0:den=0:=by simpa using hc
         refine J_sr<|JS_mv rfl<|JS_mv rfl ?_
         refine QI rfl (fun w F hF ⟨⟨⟨⟨⟨⟨⟨⟨hGl,_⟩,_⟩,_⟩,_⟩,_⟩,_⟩,_⟩,_⟩=>Xfw (p:=ofT num den) (d:=6) (u:=[]) hF (by decide) (if_pos hd0) (Nat.zero_le _)) (fun _=>?_)
         refine JS_as rfl<|JS_nt<|QT ?_
         exact QQ (()) rfl (.tmp rfl .nil) (rfl) (fun F ⟨⟨⟨⟨⟨⟨⟨⟨⟨hGl,_⟩,_⟩,_⟩,_⟩,_⟩,_⟩,_⟩,_⟩,_⟩=>trivial)
        ·
         have hd0:¬ den=0:=by simpa using hc
         refine QP<|QC<|J_sr<|JS_mv rfl<|JS_mv rfl<|JS_mv rfl<|JS_mv rfl ?_
         refine QI rfl (fun w F hF ⟨⟨⟨⟨⟨⟨⟨⟨hGl,_⟩,_⟩,_⟩,_⟩,_⟩,_⟩,_⟩,_⟩=>gP hF hn hd hd0) (fun _=>?_)
         refine QI rfl (fun w F hF ⟨⟨⟨⟨⟨⟨⟨⟨⟨hGl,_⟩,_⟩,_⟩,_⟩,_⟩,_⟩,_⟩,_⟩,_⟩=>Xfm (p:=ofT num den) (r:=Rat.divInt num den) hF (if_neg hd0) (by have h1:=Yd (a:=num) hd0;have h2:sz num≤64:=(Xx num 64).2 (by omega);have h3:sz den≤64:=(Xx den 64).2 (by omega);omega)) (fun _=>?_)
         refine JS_as rfl<|JS_nt<|QT ?_
         exact QQ (()) rfl (.tmp rfl .nil) (rfl) (fun F ⟨⟨⟨⟨⟨⟨⟨⟨⟨⟨hGl,_⟩,_⟩,_⟩,_⟩,_⟩,_⟩,_⟩,_⟩,_⟩,_⟩=>trivial)
end
end Go.Proofs.YtknegjaeoffnbaaGreatDoor
