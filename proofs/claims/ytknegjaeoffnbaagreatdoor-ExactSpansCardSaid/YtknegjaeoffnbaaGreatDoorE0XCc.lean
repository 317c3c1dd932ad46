/- Steps of the proof of the theorem in the last file. -/
import Derived.Test.YtknegjaeoffnbaaGreatDoorQ0
import Derived.Test.YtknegjaeoffnbaaGreatDoorProg
import Derived.KernelRfl
set_option linter.all false
set_option maxHeartbeats 4000000
namespace Go.Proofs.YtknegjaeoffnbaaGreatDoor
section
theorem MQ:GF Tryz.prog 22=true:=by kernel_rfl
end
section
open Go.RowKit Ig
theorem Ik (r s:Rat):JL (r - s)≤JL r+JL s+1:=by
 rw [Rat.sub_eq_add_neg];have:=KN r (-s);rw [Hv] at this;exact this
theorem ka {w:World} {F:Gs} {x y:Fr} {r s:Rat} (hF:Fits F w) (h:JW F x r) (h':JW F y s) (hr:JL r≤100000000) (hs:JL s≤100000000):X9 Tryz.prog 190 [x.v,y.v] w F (r - s):=by
 refine QS.intro (G:=fun F=>JW F x r∧JW F y s) Tryz.func190 rfl (by rfl) rfl rfl hF (fun F' hF'=>⟨h.le hF',h'.le hF'⟩)<|J_sr<|Qw rfl (vs:=[_,_,_,_]) rfl (fun b2=>Qw rfl (vs:=[_,_,_,_]) rfl (fun b3=>Qb Xw (fun b4=>JS_nt<|QG<|JN (.cons _ (.cons_cons _ (.cons_cons _ .slnil))) mixed (by kernel_rfl)<|QK (QJ (vs:=[_,_,_,_]) rfl Qc (.there .here) (.here (.here (.here (.here .nil)))) rfl)<|QK (QJ (vs:=[_,_,_,_]) rfl Qc .here (.here (.here (.here (.here .nil)))) rfl)<|QY rfl (fun w F hF ⟨⟨hn,hd⟩,⟨kn,kd⟩⟩=>qJ hF ⟨kn,kd⟩) (fun x7=>QY rfl (fun w F hF ⟨⟨⟨hn,hd⟩,⟨kn,kd⟩⟩,⟨h7,h7_⟩⟩=>ED hF ⟨hn,hd⟩ ⟨h7,h7_⟩ hr (by rw [Hv];exact hs)) (fun x8=>Q7 (vs:=[_,_,_,_]) rfl rfl rfl Qc rfl .here (.cons_cons _ (.cons_cons _ .slnil)) (fun _ h=>h.1.1) (.here (.here (.here (.here .nil)))) ⟨rfl,rfl,rfl,rfl,trivial⟩<|Q4<|QC<|QT ?_)))))
 exact QQ (_) rfl (.JU (c:=[_,_,_,_]) rfl Qc .here .nil) rfl (fun F ⟨⟨⟨⟨hn,hd⟩,⟨kn,kd⟩⟩,⟨h7,h7_⟩⟩,⟨h8,h8_⟩⟩=>(by rw [Rat.sub_eq_add_neg];exact⟨h8,h8_⟩))
end
section
open Go.RowKit Ig
theorem yu {w:World} {F:Gs} {x y:Sp} {a b:Rat×Rat} (hF:Fits F w) (h:Xy F x a) (h':Xy F y b) (ha:JL a.1≤100000000∧JL a.2≤100000000) (hb:JL b.1≤100000000∧JL b.2≤100000000):KP Tryz.prog 147 [x.v,y.v] w F (a.1 - b.2,a.2 - b.1):=by
 refine QS.intro (G:=fun F=>Xy F x a∧Xy F y b) Tryz.func147 rfl (by rfl) rfl rfl hF (fun F' hF'=>⟨h.le hF',h'.le hF'⟩)<|J_sr<|Qw rfl (vs:=[_,_,_,_,_,_,_,_]) rfl (fun b2=>Qw rfl (vs:=[_,_,_,_,_,_,_,_]) rfl (fun b3=>Qb ZA (fun b4=>JS_nt<|QG<|JN (.cons _ (.cons_cons _ (.cons_cons _ .slnil))) mixed (by kernel_rfl)<|QK (QH rfl ZE Qc)<|QK (QJ (vs:=[_,_,_,_]) rfl Qc (.there .here) (.here (.here (.here (.here .nil)))) rfl)<|QK (QH rfl ZV Qc)<|QK (QJ (vs:=[_,_,_,_]) rfl Qc .here (.skip (.skip (.skip (.skip (.here (.here (.here (.here .nil)))))))) rfl)<|QY rfl (fun w F hF ⟨hA,hB⟩=>ka (x:=x.lo) (y:=y.hi) hF hA.1 hB.2 ha.1 hb.2) (fun x9=>QK (QH rfl ZV Qc)<|QK (QJ (vs:=[_,_,_,_]) rfl Qc (.there .here) (.skip (.skip (.skip (.skip (.here (.here (.here (.here .nil)))))))) rfl)<|QK (QH rfl ZE Qc)<|QK (QJ (vs:=[_,_,_,_]) rfl Qc .here (.here (.here (.here (.here .nil)))) rfl)<|QY rfl (fun w F hF ⟨⟨hA,hB⟩,⟨h9,h9_⟩⟩=>ka (x:=x.hi) (y:=y.lo) hF hA.2 hB.1 ha.2 hb.1) (fun x14=>QK (Qy rfl Nn ZA (.cons (vs:=[_,_,_,_]) rfl rfl rfl (.here (.here (.here (.here .nil)))) (.cons (vs:=[_,_,_,_]) rfl rfl rfl (.skip (.skip (.skip (.skip (.here (.here (.here (.here .nil)))))))) .nil)))<|Q7 (vs:=[_,_,_,_,_,_,_,_]) rfl rfl rfl Jj rfl .here (.cons_cons _ (.cons_cons _ .slnil)) (fun _ h=>h.1.1) (.here (.here (.here (.here (.here (.here (.here (.here .nil)))))))) ⟨rfl,rfl,rfl,rfl,rfl,rfl,rfl,rfl,trivial⟩<|Q4<|QC<|QT ?_)))))
 exact QQ (⟨x9,x14⟩:Sp) rfl (.JU (c:=[_,_,_,_,_,_,_,_]) rfl Jj .here .nil) rfl (fun F ⟨⟨⟨hA,hB⟩,⟨h9,h9_⟩⟩,⟨h14,h14_⟩⟩=>⟨⟨h9,h9_⟩,⟨h14,h14_⟩⟩)
end
section
open Go.RowKit Ig
def SE (a b:Rat×Rat):Rat×Rat:=(a.1+b.1,a.2+b.2)
theorem zF {w:World} {F:Gs} {a b:List UInt8×List UInt8} (hF:Fits F w) (hG:JB F) (ha:short a) (hb:short b) :
  QZ Tryz.prog 45 [.agg #[tx a.1,tx a.2],.agg #[tx b.1,tx b.2]] w F (.tuple #[.agg #[tx (Yf SE a b).1.1,tx (Yf SE a b).1.2],.int .i64 (Yf SE a b).2]):=by
 refine QS.intro (G:=fun F=>JB F) Tryz.func45 rfl (by rfl) rfl rfl hF (fun F' hF'=>hG.le hF')<|J_sr<|Qw rfl (vs:=[_,_]) rfl (fun b2=>Qw rfl (vs:=[_,_]) rfl (fun b3=>Qb ZN (fun b4=>JS_as rfl<|JS_nt<|J_sr<|QA (QJ (vs:=[_,_]) rfl JC (.there (.there .here)) (.here (.here .nil)) rfl)<|QA (QJ (vs:=[_,_]) rfl JC (.there .here) (.here (.here .nil)) rfl)<|QI rfl (fun w F hF hGl=>Lw (a:=a) (b:=b) (op:=SE) hF hGl ha hb (fun w F x y r s hF hx hy hr hs=>⟨Il hF hx hy ⟨by omega,by omega⟩ ⟨by omega,by omega⟩,⟨Nat.le_trans (KN _ _) (by omega),Nat.le_trans (KN _ _) (by omega)⟩⟩)) (fun c8=>QA (QM rfl rfl)<|QA (QM rfl rfl)<|QN (vs:=[_,_]) rfl rfl rfl JC rfl .here (.here (.here .nil)) ⟨rfl,rfl,trivial⟩<|JS_as rfl<|JS_nt<|QT ?_))))
 exact JY () rfl (.JU (c:=[_,_]) rfl JC .here (.tmp rfl .nil)) rfl (fun _ _=>trivial)
def EB (a b:Rat×Rat):Rat×Rat:=(a.1 - b.2,a.2 - b.1)
theorem j9 {w:World} {F:Gs} {a b:List UInt8×List UInt8} (hF:Fits F w) (hG:JB F) (ha:short a) (hb:short b) :
  QZ Tryz.prog 46 [.agg #[tx a.1,tx a.2],.agg #[tx b.1,tx b.2]] w F (.tuple #[.agg #[tx (Yf EB a b).1.1,tx (Yf EB a b).1.2],.int .i64 (Yf EB a b).2]):=by
 refine QS.intro (G:=fun F=>JB F) Tryz.func46 rfl (by rfl) rfl rfl hF (fun F' hF'=>hG.le hF')<|J_sr<|Qw rfl (vs:=[_,_]) rfl (fun b2=>Qw rfl (vs:=[_,_]) rfl (fun b3=>Qb ZN (fun b4=>JS_as rfl<|JS_nt<|J_sr<|QA (QJ (vs:=[_,_]) rfl JC (.there (.there .here)) (.here (.here .nil)) rfl)<|QA (QJ (vs:=[_,_]) rfl JC (.there .here) (.here (.here .nil)) rfl)<|QI rfl (fun w F hF hGl=>Lw (a:=a) (b:=b) (op:=EB) hF hGl ha hb (fun w F x y r s hF hx hy hr hs=>⟨yu hF hx hy ⟨by omega,by omega⟩ ⟨by omega,by omega⟩,⟨Nat.le_trans (Ik _ _) (by omega),Nat.le_trans (Ik _ _) (by omega)⟩⟩)) (fun c8=>QA (QM rfl rfl)<|QA (QM rfl rfl)<|QN (vs:=[_,_]) rfl rfl rfl JC rfl .here (.here (.here .nil)) ⟨rfl,rfl,trivial⟩<|JS_as rfl<|JS_nt<|QT ?_))))
 exact JY () rfl (.JU (c:=[_,_]) rfl JC .here (.tmp rfl .nil)) rfl (fun _ _=>trivial)
end
section
open Go.RowKit Ig
theorem O8 {w:World} {F:Gs} {s:List UInt8} (hF:Fits F w) (hl:s.length≤1000000000):QZ Tryz.prog 175 [tx s] w F (.bool (XF s)):=by
 refine QS.intro (G:=fun _=>True) Tryz.func175 rfl (by rfl) rfl rfl hF (fun F' hF'=>trivial)<|J_sr<|JS_as rfl<|JS_nt<|QG<|J_sr<|JS_as rfl<|JS_nt<|Qa<|XU (ι:=Hl s.length (fun i=>(s.take i).all T6=true)) (fun i=>[(0,tx s),(3,.int .i64 i.i)]) (fun _=>[]) (fun _ _=>True) (fun i=>s.length - i.i) ⟨0,Nat.zero_le _,rfl⟩ ⟨rfl,rfl,trivial⟩ subl_r (fun _ h=>trivial) (fun i=>?_)
 have hle:=i.le
 refine QG<|J_sr<|JS_mv rfl<|JS_mv rfl<|QA (J9 rfl Xh)<|QA (QV rfl rfl rfl)<|QE<|QC ?_
 refine QR rfl (fun hc=>?_) (fun hc=>?_)
 ·
  have hi:i.i<s.length:=by simp at hc;omega
  clear hc
  refine QP<|QC<|QG<|Qa<|J_sr<|JS_mv rfl<|JS_mv rfl<|QA (Vn rfl rfl Xh (hi))<|QA (QV rfl rfl rfl)<|JS_mv rfl ?_
  refine Qn (t:=14) rfl (fun hb14=>?_) (fun hb14=>?_)
  ·
   refine QO rfl rfl rfl<|QO rfl rfl rfl<|QO rfl rfl rfl<|QO rfl rfl rfl<|QA (Qi rfl rfl rfl)<|JS_nt<|WT rfl<|J_sr<|JS_as rfl<|JS_nt<|QT ?_
   repeat (first | refine JJ ?_ | refine JA ?_)
   exact QQ () rfl (.tmp rfl .nil) (congrArg Value.bool (by rw [RW hi (by have h1:=dec_t hb14;cases hd:T6 s[i.i] with | false=>rfl | true=>(have:=YZ.1 hd;omega))])) (fun _ _=>trivial)
  ·
   refine QL rfl rfl<|JS_mv rfl<|QL rfl rfl<|JS_mv rfl<|QL rfl rfl<|QA (Vn rfl rfl Xh (hi))<|QL rfl rfl<|QA (QV rfl rfl rfl)<|QA (Qh rfl rfl rfl)<|QE<|QC ?_
   refine QR rfl (fun hc=>?_) (fun hc=>?_)
   ·
    refine J_sr<|JS_as rfl<|JS_nt<|QT ?_
    repeat (first | refine JJ ?_ | refine JA ?_)
    exact QQ () rfl (.tmp rfl .nil) (congrArg Value.bool (by rw [RW hi (by have h1:=dec_t hc;cases hd:T6 s[i.i] with | false=>rfl | true=>(have:=YZ.1 hd;omega))])) (fun _ _=>trivial)
   ·
    refine QP<|Qk<|QC<|QB<|JS_mv rfl<|QA (Qu rfl rfl (by omega))<|JS_as rfl<|QE ?_
    exact Qo (⟨i.i+1,by omega,DY hi i.h (YZ.2 (by have h1:=dec_f hb14;have h2:=dec_f hc;constructor<;>omega))⟩:Hl s.length (fun i=>(s.take i).all T6=true)) (by show s.length - (i.i+1)<s.length - i.i;omega) ⟨rfl,rfl,trivial⟩ subl_r (fun _ h=>trivial)
 ·
  refine Q5 ?_
  repeat (first | refine Qd ?_ | refine QW (by rfl) ?_)
  refine Qe<|QC<|J_sr<|JS_as rfl<|JS_nt<|QT ?_
  exact QQ () rfl (.tmp rfl .nil) (congrArg Value.bool (by have e:=i.h;rw [List.take_of_length_le (by simp at hc;omega)] at e;exact e)) (fun _ _=>trivial)
theorem kc {s:List UInt8} (h1:(1:Int)<(s.length:Int)) (h:s[0]'(by omega)=48):XV s=false:=by
 cases s with
 |nil=>simp at h1
 |cons c r =>
  have hc:c=48:=h
  subst hc
  have hr:r≠[]:=by intro e;subst e;simp at h1
  simp [XV,hr]
theorem yL {s:List UInt8} (h1:(1:Int)<(s.length:Int)) (h:¬ s[0]'(by omega)=48):XV s=XF s:=by
 cases s with
 |nil=>simp at h1
 |cons c r =>
  have hc:¬ c=48:=h
  simp [XV,hc]
theorem kb {s:List UInt8} (h0:0<s.length) (h1:s.length≤1):XV s=XF s:=by
 match s,h0,h1 with
 |[c],_,_ =>
  by_cases hc:c=48
  ·subst hc;rfl
  ·simp [XV,hc]
theorem zU {w:World} {F:Gs} {s:List UInt8} (hF:Fits F w) (hl:s.length≤1000000000):QZ Tryz.prog 118 [tx s] w F (.bool (XV s)):=by
 refine QS.intro (G:=fun _=>True) Tryz.func118 rfl (by rfl) rfl rfl hF (fun F' hF'=>trivial)<|J_sr<|JS_as rfl<|JS_nt<|QG<|J_sr<|JS_mv rfl<|QA (J9 rfl Xh)<|QA (QV rfl rfl rfl)<|JS_mv rfl ?_
 refine Qn (t:=6) rfl (fun hb6=>?_) (fun hb6=>?_)
 ·
  refine QO rfl rfl rfl<|QO rfl rfl rfl<|QO rfl rfl rfl<|QO rfl rfl rfl<|JV rfl rfl<|JV rfl rfl<|JV rfl rfl<|QO rfl rfl rfl<|QA (Qi rfl rfl rfl)<|JS_nt<|WT rfl<|J_sr<|JS_as rfl<|JS_nt<|QT ?_
  exact QQ () rfl (.tmp rfl .nil) (congrArg Value.bool (by have h0:s=[]:=(by simpa using hb6);subst h0;rfl)) (fun _ _=>trivial)
 ·
  refine QL rfl rfl<|JS_mv rfl<|QL rfl rfl<|QA (J9 rfl Xh)<|QL rfl rfl<|QA (QV rfl rfl rfl)<|QL rfl rfl<|JS_mv rfl ?_
  refine Qn (t:=10) rfl (fun hb10=>?_) (fun hb10=>?_)
  ·
   refine QL rfl rfl<|JS_mv rfl<|QL rfl rfl<|QA (Vn (i:=0) rfl rfl Xh (by have:=dec_t hb10;omega))<|QL rfl rfl<|QA (QV rfl rfl rfl)<|QL rfl rfl<|QA (Qi rfl rfl rfl)<|QA (Qh rfl rfl rfl)<|QE<|QC ?_
   refine QR rfl (fun hc=>?_) (fun hc=>?_)
   ·
    refine J_sr<|JS_as rfl<|JS_nt<|QT ?_
    exact QQ () rfl (.tmp rfl .nil) (congrArg Value.bool (kc (dec_t hb10) (by have h:=hc;rw [MD (d:=48) (z:=48) rfl] at h;simpa using h))) (fun _ _=>trivial)
   ·
    refine QP<|QC<|J_sr<|JS_mv rfl<|QI rfl (fun w F hF _=>O8 hF hl) (fun _=>JS_as rfl<|JS_nt<|QT ?_)
    exact QQ () rfl (.tmp rfl .nil) (congrArg Value.bool (yL (dec_t hb10) (by have h:=hc;rw [MD (d:=48) (z:=48) rfl] at h;simpa using h))) (fun _ _=>trivial)
  ·
   refine QO rfl rfl rfl<|QO rfl rfl rfl<|QO rfl rfl rfl<|QL rfl rfl<|QA (Qh rfl rfl rfl)<|QA (Qh rfl rfl rfl)<|JS_nt<|Z8 rfl<|QP<|QC<|J_sr<|JS_mv rfl<|QI rfl (fun w F hF _=>O8 hF hl) (fun _=>JS_as rfl<|JS_nt<|QT ?_)
   exact QQ () rfl (.tmp rfl .nil) (congrArg Value.bool (kb (List.length_pos_iff.2 (by simpa using hb6)) (by have h:=dec_f hb10;omega))) (fun _ _=>trivial)
end
section
open Go.RowKit Ig
def xX (s:List UInt8):List UInt8:=if NW s<0 then s.drop 1 else if NW s=0 then s else 45::s
def BJ (s:List UInt8):Int:=if(decide (600<(O4 (numOf s)).length)||decide (600<(T8 s).length))=true then 4 else 0
theorem Bi (p:UInt8→Bool) (s:List UInt8):ahead p s≤s.length:=(List.takeWhile_sublist _).length_le
theorem AY {s:List UInt8} (h:NW s<0):0<s.length:=by
 cases s with
 |nil=>exact absurd h (by decide)
 |cons=>simp
theorem Ad {w:World} {F:Gs} {s:List UInt8} (hF:Fits F w):QZ Tryz.prog 38 [tx s] w F (.int .i64 (NW s)):=by
 refine QS.intro (G:=fun _=>True) Tryz.func38 rfl (by rfl) rfl rfl hF (fun F' hF'=>trivial)<|J_sr<|JS_as rfl<|JS_nt<|QG<|J_sr<|JS_mv rfl<|QA (K3 rfl rfl)<|QE<|QC ?_
 refine QR rfl (fun hc4=>?_) (fun hc4=>?_)
 ·
  refine J_sr<|JS_as rfl<|JS_nt<|QT ?_
  exact QQ () rfl (.tmp rfl .nil) (congrArg (Value.int .i64) (by unfold NW;rw [if_pos (by simpa using hc4)])) (fun _ _=>trivial)
 ·
  refine QP<|QC<|QG<|J_sr<|JS_mv rfl<|QA (J9 rfl MQ)<|QA (QV rfl rfl rfl)<|JS_mv rfl ?_
  refine Qn (t:=8) rfl (fun hb8=>?_) (fun hb8=>?_)
  ·
   refine QL rfl rfl<|JS_mv rfl<|QL rfl rfl<|QA (Vn (i:=0) rfl rfl MQ (by have:=dec_t hb8;omega))<|QL rfl rfl<|QA (QV rfl rfl rfl)<|QA (Qi rfl rfl rfl)<|QE<|QC ?_
   refine QR rfl (fun hc=>?_) (fun hc=>?_)
   ·
    refine J_sr<|JS_as rfl<|JS_nt<|QT ?_
    exact QQ () rfl (.tmp rfl .nil) (congrArg (Value.int .i64) (by unfold NW;rw [if_neg (by simpa using hc4),if_pos];rw [Wr (by have:=dec_t hb8;omega),← MD (z:=45) rfl];exact hc)) (fun _ _=>trivial)
   ·
    refine QP<|QC<|J_sr<|JS_as rfl<|JS_nt<|QT ?_
    exact QQ () rfl (.tmp rfl .nil) (congrArg (Value.int .i64) (by unfold NW;rw [if_neg (by simpa using hc4),if_neg];rw [Wr (by have:=dec_t hb8;omega),← MD (z:=45) rfl,hc];decide)) (fun _ _=>trivial)
  ·
   refine QO rfl rfl rfl<|QO rfl rfl rfl<|QO rfl rfl rfl<|QA (Qh rfl rfl rfl)<|JS_nt<|Z8 rfl<|QP<|QC<|J_sr<|JS_as rfl<|JS_nt<|QT ?_
   exact QQ () rfl (.tmp rfl .nil) (congrArg (Value.int .i64) (by have h0:s=[]:=(by have:=hb8;simp at this;exact this);subst h0;rfl)) (fun _ _=>trivial)
theorem y2 {w:World} {F:Gs} {s:List UInt8} (hF:Fits F w) (hl:s.length≤1000000000):QZ Tryz.prog 35 [tx s] w F (tx (xX s)):=by
 refine QS.intro (G:=fun _=>True) Tryz.func35 rfl (by rfl) rfl rfl hF (fun F' hF'=>trivial)<|J_sr<|JS_as rfl<|JS_nt<|QG<|J_sr<|JS_mv rfl<|QI rfl (fun w F hF _=>Ad hF ) (fun _=>QA (QV rfl rfl rfl)<|QE<|QC ?_)
 refine QR rfl (fun hc5=>?_) (fun hc5=>?_)
 ·
  refine J_sr<|JS_mv rfl<|QA (Kd 1 rfl rfl MQ rfl (AY (dec_t hc5)))<|JS_as rfl<|JS_nt<|QT ?_
  exact QQ () rfl (.tmp rfl .nil) (congrArg tx (by unfold xX;rw [if_pos (dec_t hc5)])) (fun _ _=>trivial)
 ·
  refine QP<|QC<|QG<|J_sr<|JS_mv rfl<|QI rfl (fun w F hF ⟨_,_⟩=>Ad hF ) (fun _=>QA (QV rfl rfl rfl)<|QE<|QC ?_)
  refine QR rfl (fun hc10=>?_) (fun hc10=>?_)
  ·
   refine J_sr<|JS_mv rfl<|JS_as rfl<|JS_nt<|QT ?_
   exact QQ () rfl (.tmp rfl .nil) (congrArg tx (by unfold xX;rw [if_neg (dec_f hc5),if_pos (by simpa using hc10)])) (fun _ _=>trivial)
  ·
   refine QP<|QC<|J_sr<|JS_mv rfl<|QA (Zc rfl rfl (by simp;omega))<|JS_as rfl<|JS_nt<|QT ?_
   exact QQ () rfl (.tmp rfl .nil) (congrArg tx (by unfold xX;rw [if_neg (dec_f hc5),if_neg (by simpa using hc10)];rfl)) (fun _ _=>trivial)
theorem gq {w:World} {F:Gs} {s:List UInt8} (hF:Fits F w):QZ Tryz.prog 33 [tx s] w F (tx (O4 s)):=by
 refine QS.intro (G:=fun _=>True) Tryz.func33 rfl (by rfl) rfl rfl hF (fun F' hF'=>trivial)<|J_sr<|JS_as rfl<|JS_nt<|QG<|J_sr<|JS_mv rfl<|QI rfl (fun w F hF _=>Ad hF ) (fun _=>QA (QV rfl rfl rfl)<|QE<|QC ?_)
 refine QR rfl (fun hc=>?_) (fun hc=>?_)
 ·
  refine J_sr<|JS_mv rfl<|QA (Kd 1 rfl rfl MQ rfl (AY (dec_t hc)))<|JS_as rfl<|JS_nt<|QT ?_
  exact QQ () rfl (.tmp rfl .nil) (congrArg tx (by unfold O4;rw [if_pos (dec_t hc)])) (fun _ _=>trivial)
 ·
  refine QP<|QC<|J_sr<|JS_mv rfl<|JS_as rfl<|JS_nt<|QT ?_
  exact QQ () rfl (.tmp rfl .nil) (congrArg tx (by unfold O4;rw [if_neg (dec_f hc)])) (fun _ _=>trivial)
theorem yx {w:World} {F:Gs} {s:List UInt8} (hF:Fits F w) (hl:s.length≤1000000000):QZ Tryz.prog 36 [tx s] w F (.bool (ahead XS s==s.length)):=by
 refine QS.intro (G:=fun _=>True) Tryz.func36 rfl (by rfl) rfl rfl hF (fun F' hF'=>trivial)<|J_sr<|JS_as rfl<|JS_nt<|J_sr<|JS_mv rfl<|QI rfl (fun w F hF _=>BA hF hl) (fun _=>JS_mv rfl<|QA (J9 rfl MQ)<|QA (QV rfl rfl rfl)<|JS_as rfl<|JS_nt<|QT ?_)
 exact QQ () rfl (.tmp rfl .nil) (congrArg Value.bool (by rw [Bool.eq_iff_iff];simp;try omega)) (fun _ _=>trivial)
theorem gn {w:World} {F:Gs} {s:List UInt8} (hF:Fits F w) (hl:s.length≤1000000000):QZ Tryz.prog 204 [tx s] w F (tx (numOf s)):=by
 refine QS.intro (G:=fun _=>True) Tryz.func204 rfl (by rfl) rfl rfl hF (fun F' hF'=>trivial)<|J_sr<|JS_as rfl<|JS_nt<|J_sr<|JS_mv rfl<|JS_mv rfl<|QI rfl (fun w F hF _=>BA hF hl) (fun _=>QA (Gx (ahead XS s) rfl rfl MQ rfl (Bi _ _))<|JS_as rfl<|JS_nt<|QT ?_)
 exact QQ () rfl (.tmp rfl .nil) (rfl) (fun _ _=>trivial)
theorem gp {w:World} {F:Gs} {s:List UInt8} (hF:Fits F w) (hl:s.length≤1000000000):QZ Tryz.prog 205 [tx s] w F (tx (T8 s)):=by
 refine QS.intro (G:=fun _=>True) Tryz.func205 rfl (by rfl) rfl rfl hF (fun F' hF'=>trivial)<|J_sr<|JS_as rfl<|JS_nt<|J_sr<|JS_mv rfl<|QI rfl (fun w F hF _=>BA hF hl) (fun _=>JS_as rfl<|JS_nt<|QG<|J_sr<|JS_mv rfl<|JS_mv rfl<|QA (J9 rfl MQ)<|QA (QV rfl rfl rfl)<|QE<|QC ?_)
 refine QR rfl (fun hc=>?_) (fun hc=>?_)
 ·
  refine J_sr<|JS_as rfl<|JS_nt<|QT ?_
  exact QQ () rfl (.tmp rfl .nil) (congrArg tx (by unfold T8;rw [if_pos (by simp at hc;omega)])) (fun _ _=>trivial)
 ·
  refine QP<|QC<|J_sr<|JS_mv rfl<|JS_mv rfl<|QA (Qu rfl rfl (by have:=Bi XS s;omega))<|QA (Kd (ahead XS s+1) rfl rfl MQ rfl (by have:=Bi XS s;simp at hc;omega))<|JS_as rfl<|JS_nt<|QT ?_
  exact QQ () rfl (.tmp rfl .nil) (congrArg tx (by unfold T8;rw [if_neg (by simp at hc;omega)])) (fun _ _=>trivial)
theorem y3 {w:World} {F:Gs} {s:List UInt8} (hF:Fits F w) (hl:s.length≤1000000000):QZ Tryz.prog 124 [tx s] w F (.int .i64 (BJ s)):=by
 refine QS.intro (G:=fun _=>True) Tryz.func124 rfl (by rfl) rfl rfl hF (fun F' hF'=>trivial)<|J_sr<|JS_as rfl<|JS_nt<|QG<|J_sr<|JS_mv rfl<|QI rfl (fun w F hF _=>gn hF hl) (fun _=>QI rfl (fun w F hF ⟨_,_⟩=>gq hF ) (fun _=>QA (J9 rfl MQ)<|QA (QV rfl rfl rfl)<|JS_mv rfl ?_))
 refine Qn (t:=8) rfl (fun hb8=>?_) (fun hb8=>?_)
 ·
  refine QO rfl rfl rfl<|QO rfl rfl rfl<|QO rfl rfl rfl<|QO rfl rfl rfl<|QA (Qi rfl rfl rfl)<|JS_nt<|WT rfl<|J_sr<|JS_as rfl<|JS_nt<|QT ?_
  exact QQ () rfl (.tmp rfl .nil) (congrArg (Value.int .i64) (by have h:=dec_t hb8;unfold BJ;rw [if_pos (by rw [decide_eq_true (by omega)];rfl)])) (fun _ _=>trivial)
 ·
  refine QL rfl rfl<|JS_mv rfl<|QL rfl rfl<|QI rfl (fun w F hF ⟨⟨_,_⟩,_⟩=>gp hF hl) (fun _=>QL rfl rfl<|QA (J9 rfl MQ)<|QL rfl rfl<|QA (QV rfl rfl rfl)<|QA (Qh rfl rfl rfl)<|QE<|QC ?_)
  refine QR rfl (fun hc=>?_) (fun hc=>?_)
  ·
   refine J_sr<|JS_as rfl<|JS_nt<|QT ?_
   exact QQ () rfl (.tmp rfl .nil) (congrArg (Value.int .i64) (by have h:=dec_t hc;unfold BJ;rw [if_pos (by rw [decide_eq_true (show 600<(T8 s).length by omega),Bool.or_true])])) (fun _ _=>trivial)
  ·
   refine QP<|QC<|J_sr<|JS_as rfl<|JS_nt<|QT ?_
   exact QQ () rfl (.tmp rfl .nil) (congrArg (Value.int .i64) (by have h:=dec_f hc;have h8:=dec_f hb8;unfold BJ;rw [if_neg (by rw [decide_eq_false (by omega),decide_eq_false (by omega)];decide)])) (fun _ _=>trivial)
end
section
open Go.RowKit Ig
theorem yj {d:Nat} (h:d<10):(([48,49,50,51,52,53,54,55,56,57]:List UInt8).take (d+1)).drop d=[UInt8.ofNat (48+d)]:=by
 match d,h with
 |0,_=>rfl
 |1,_=>rfl
 |2,_=>rfl
 |3,_=>rfl
 |4,_=>rfl
 |5,_=>rfl
 |6,_=>rfl
 |7,_=>rfl
 |8,_=>rfl
 |9,_=>rfl
theorem xF {w:World} {F:Gs} {n least:Nat} (hF:Fits F w) (hn:n≤9223372036854775807) (hl:least≤1000):QZ Tryz.prog 182 [.int .i64 (n:Int),.int .i64 (least:Int)] w F (tx (NU n least)):=by
 refine QS.intro (G:=fun _=>True) Tryz.func182 rfl (by rfl) rfl rfl hF (fun F' hF'=>trivial)<|J_sr<|JS_as rfl<|JS_nt<|J_sr<|JS_as rfl<|JS_nt<|QG<|Qa<|XU (ι:=O5 n least) (fun i=>[(0,.int .i64 (i.m:Int)),(1,.int .i64 (least:Int)),(5,tx i.t)]) (fun _=>[]) (fun _ _=>True) (fun i=>i.m+(least - i.t.length)) ⟨n,[],Nat.le_refl _,by unfold NU;simp,by have:=OP hn;simp;omega⟩ ⟨rfl,rfl,rfl,trivial⟩ subl_r (fun _ h=>trivial) (fun i=>?_)
 have hle:=i.le
 have htl:=i.tl
 refine QG<|J_sr<|JS_mv rfl<|QA (QV rfl rfl rfl)<|JS_mv rfl ?_
 refine Qn (t:=8) rfl (fun hb8=>?_) (fun hb8=>?_)
 ·
  refine QO rfl rfl rfl<|QO rfl rfl rfl<|QO rfl rfl rfl<|QO rfl rfl rfl<|QA (Qi rfl rfl rfl)<|JS_nt<|WT rfl<|QP<|QC<|Qa<|J_sr<|JS_mv rfl<|QA (Kc rfl rfl (by omega) (by omega))<|JS_mv rfl<|QA (Kc rfl rfl (by omega) (by omega))<|QA (Qu rfl rfl (by omega))<|QA (MY (i.m%10) (i.m%10+1) rfl rfl rfl Xh (.inr rfl) (.inr rfl) (by omega) (by show i.m%10+1≤10;omega)) ?_
  rw [yj (Nat.mod_lt _ (by decide))]
  refine JS_mv rfl<|QA (Zc rfl rfl (by simp;omega))<|JS_as rfl<|JS_nt<|QB<|JS_mv rfl<|QA (Wb rfl rfl (by omega) (by omega) (by omega))<|JS_as rfl<|QE<|Qk ?_
  exact Qo (O5.next i (Or.inl (by have:=dec_t hb8;omega):0<i.m∨i.t.length<least)) (by show i.m / 10+(least - (i.t.length+1))<i.m+(least - i.t.length);rcases (Or.inl (by have:=dec_t hb8;omega):0<i.m∨i.t.length<least) with g | g<;>omega) ⟨rfl,rfl,rfl,trivial⟩ subl_r (fun _ h=>trivial)
 ·
  refine QL rfl rfl<|JS_mv rfl<|QL rfl rfl<|QA (J9 rfl Xh)<|QL rfl rfl<|JS_mv rfl<|QL rfl rfl<|QA (QV rfl rfl rfl)<|QA (Qh rfl rfl rfl)<|QE<|QC ?_
  refine QR rfl (fun hc=>?_) (fun hc=>?_)
  ·
   refine QP<|QC<|Qa<|J_sr<|JS_mv rfl<|QA (Kc rfl rfl (by omega) (by omega))<|JS_mv rfl<|QA (Kc rfl rfl (by omega) (by omega))<|QA (Qu rfl rfl (by omega))<|QA (MY (i.m%10) (i.m%10+1) rfl rfl rfl Xh (.inr rfl) (.inr rfl) (by omega) (by show i.m%10+1≤10;omega)) ?_
   rw [yj (Nat.mod_lt _ (by decide))]
   refine JS_mv rfl<|QA (Zc rfl rfl (by simp;omega))<|JS_as rfl<|JS_nt<|QB<|JS_mv rfl<|QA (Wb rfl rfl (by omega) (by omega) (by omega))<|JS_as rfl<|QE<|Qk ?_
   exact Qo (O5.next i (Or.inr (by have:=dec_t hc;omega):0<i.m∨i.t.length<least)) (by show i.m / 10+(least - (i.t.length+1))<i.m+(least - i.t.length);rcases (Or.inr (by have:=dec_t hc;omega):0<i.m∨i.t.length<least) with g | g<;>omega) ⟨rfl,rfl,rfl,trivial⟩ subl_r (fun _ h=>trivial)
  ·
   refine Q5 ?_
   repeat (first | refine Qd ?_ | refine QW (by rfl) ?_)
   refine Qe<|QC<|J_sr<|JS_mv rfl<|JS_as rfl<|JS_nt<|QT ?_
   exact QQ () rfl (.tmp rfl .nil) (congrArg tx (by have h1:=dec_f hb8;have h2:=dec_f hc;have h0:i.m=0:=(by omega);rw [← i.h,h0];simp [hd,VM,show least - i.t.length=0 by omega,Lib.repeatL])) (fun _ _=>trivial)
end
section
open Go.RowKit Ig
theorem vc {a b out:List Int} {c:Int} (da:DG B9 out) (hl:out.length=a.length) (hb:b.length≤a.length) (h:dv B9 out+dv B9 (b.take a.length)=dv B9 (a.take a.length)+B9^a.length*c) (h0:0≤c) (h1:c≤1) (hle:dv B9 b≤dv B9 a):dv B9 out=dv B9 a - dv B9 b:=by
 rw [List.take_length,List.take_of_length_le hb] at h
 have hlt:=Zw (b:=B9) (by decide) da
 rw [hl] at hlt
 have hc:c=0∨c=1:=by omega
 rcases hc with rfl | rfl
 ·rw [Int.mul_zero] at h;omega
 ·rw [Int.mul_one] at h;omega
theorem Ac {w:World} {F:Gs} {ra rb:Sr} {a b:List Int} (hF:Fits F w) (hA:JP F ra a) (hB:JP F rb b) (da:DG B9 a) (db:DG B9 b) (la:a.length≤100000000) (lb:b.length≤a.length) (hle:dv B9 b≤dv B9 a) :
  E7 Tryz.prog 239 [ra.v,rb.v] w F (fun l=>dv B9 l=dv B9 a - dv B9 b∧NZ l∧l.length≤a.length):=by
 obtain ⟨q,n,c⟩:=ra
 have na:=hA.2.1
 have nb:=hB.2.1
 dsimp only at na
 have h9:B9=1000000000:=rfl
 refine QS.intro (G:=fun F=>JP F ⟨q,n,c⟩ a∧JP F rb b) Tryz.func239 rfl (by rfl) rfl rfl hF (fun F' hF'=>⟨hA.le hF',hB.le hF'⟩) ?_
 dsimp only [Sr.v]
 refine J_sr<|JS_as rfl<|JS_nt<|J_sr<|JS_as rfl<|JS_nt<|J_sr<|JS_as rfl<|JS_nt<|QG<|J_sr<|JS_as rfl<|JS_nt<|Qa ?_
 refine XU (ι:=gM a b) (fun i=>[(0,.slice q n c),(1,.slice rb.q rb.n rb.cap),(5,i.v),(6,.int .i64 i.borrow),(7,.int .i64 (i.i:Int))]) (fun i=>i.ob) (fun _ F=>JP F ⟨q,n,c⟩ a∧JP F rb b) (fun i=>a.length - i.i)
  ⟨0,[],0,.slice none 0 0,[],Nat.zero_le _,rfl,DG.nil _,by decide,by decide,by simp,.nil⟩ ⟨rfl,rfl,rfl,rfl,rfl,trivial⟩ (List.nil_sublist _) (fun _ h=>h) (fun i=>?_)
 have hile:=i.le
 have hlen:=i.len
 have hc0:=i.c0
 have hc1:=i.c1
 refine QG<|J_sr<|JS_mv rfl<|JS_mv rfl<|QA (Ql rfl Qf)<|QA (QV rfl rfl rfl)<|QE<|QC ?_
 refine QR rfl (fun hc=>?_) (fun hc=>?_)
 ·
  have hi:i.i<n:=by have:=dec_t hc;omega
  have hia:i.i<a.length:=by omega
  have b1:=Rl da i.i
  have b2:=Rl db i.i
  have e1:a[i.i]=a.getD i.i 0:=by simp [hia]
  refine Xz _ (fun w F hF h=>h.1.1.ptr (by dsimp only;omega)) (fun hq=>?_)
  obtain ⟨qb,qo,hq⟩:=hq
  dsimp only at hq
  subst hq
  refine QP<|QC<|QG<|Qa<|QG<|JN subl_r mixed (by kernel_rfl)<|QK (QD rfl)<|QK (QD rfl)<|QK (Qv (i:=i.i) rfl rfl Qf Qp (by omega))<|QK (XR (n:=n) (sz:=1) (cs:=a.map Qx) (u:=.int .i64 (a.getD i.i 0)) rfl Qp (fun F h=>h.1.1) (by omega) (by simp [hia,Qx]))<|QK (QD rfl)<|QK (QD rfl)<|QY rfl (fun w F hF ⟨hA,hB⟩=>PH (r:=rb) (l:=b) hF hB (by omega)) (fun _=>QK (J6 rfl rfl (by omega))<|QK (QD rfl)<|QK (J6 rfl rfl (by omega))<|QK (QF rfl)<|Q4<|QC<|J_sr<|JS_as rfl<|JS_nt<|QG ?_)
  refine J_sr<|JS_mv rfl<|QA (QV rfl rfl rfl)<|QE<|QC ?_
  refine QR rfl (fun hs=>?_) (fun hs=>?_)
  ·
   refine J_sr<|JS_mv rfl<|QA (Qu rfl rfl (by omega))<|JS_as rfl<|JS_nt<|QB<|JS_as rfl<|JS_nt<|QB<|JS_mv rfl<|JS_mv rfl<|QU rfl (Q6 Qf) Qp VQ rfl rfl (fun b31=>?_)
   refine VI (bs1:=[]) (ob:=i.ob) (k:=1) (sz:=1) (news:=[.int .i64 ((a.getD i.i 0 - b.getD i.i 0 - i.borrow)+1000000000)]) rfl rfl Qf Qp VQ rfl DF i.hr (Src.row (off:=0) (fun F h=>h.2) (fun j v hv=>by rw [Nat.zero_add];show([Value.int .i64 ((a.getD i.i 0 - b.getD i.i 0 - i.borrow)+1000000000)].toArray)[j]?=some v;rw [List.getElem?_toArray];exact hv) rfl) (by omega) (by omega) (fun u hu=>by rw [List.mem_singleton.1 hu];rfl) (fun v' ob' hr'=>?_)
   refine JS_as rfl<|QE<|Qk<|QC<|QB<|JS_mv rfl<|QA (Qu rfl rfl (by omega))<|JS_as rfl<|QE ?_
   exact Qo (⟨i.i+1,i.out++[((a.getD i.i 0 - b.getD i.i 0 - i.borrow)+1000000000)],1,v',ob',by omega,by simp [hlen],i.dg.append (DG.cons (by have:=dec_t hs;omega) (by have:=dec_t hs;rw [h9];omega) (DG.nil _)),by decide,by decide,yo hlen i.h (by rw [h9];omega),by simpa [Qx] using hr'⟩:gM a b) (by show a.length - (i.i+1)<a.length - i.i;omega) ⟨rfl,rfl,rfl,rfl,rfl,trivial⟩ subl_r (fun F h=>h.1.1)
  ·
   refine QP<|QC<|QB<|JS_mv rfl<|JS_mv rfl<|QU rfl (Q6 Qf) Qp VQ rfl rfl (fun b31=>?_)
   refine VI (bs1:=[]) (ob:=i.ob) (k:=1) (sz:=1) (news:=[.int .i64 (a.getD i.i 0 - b.getD i.i 0 - i.borrow)]) rfl rfl Qf Qp VQ rfl DF i.hr (Src.row (off:=0) (fun F h=>h.2) (fun j v hv=>by rw [Nat.zero_add];show([Value.int .i64 (a.getD i.i 0 - b.getD i.i 0 - i.borrow)].toArray)[j]?=some v;rw [List.getElem?_toArray];exact hv) rfl) (by omega) (by omega) (fun u hu=>by rw [List.mem_singleton.1 hu];rfl) (fun v' ob' hr'=>?_)
   refine JS_as rfl<|QE<|Qk<|QC<|QB<|JS_mv rfl<|QA (Qu rfl rfl (by omega))<|JS_as rfl<|QE ?_
   exact Qo (⟨i.i+1,i.out++[(a.getD i.i 0 - b.getD i.i 0 - i.borrow)],0,v',ob',by omega,by simp [hlen],i.dg.append (DG.cons (by have:=dec_f hs;omega) (by have:=dec_f hs;rw [h9];omega) (DG.nil _)),by decide,by decide,yo hlen i.h (by rw [h9];omega),by simpa [Qx] using hr'⟩:gM a b) (by show a.length - (i.i+1)<a.length - i.i;omega) ⟨rfl,rfl,rfl,rfl,rfl,trivial⟩ subl_r (fun F h=>h.1.1)
 ·
  refine Q5 ?_
  repeat (first | refine Qd ?_ | refine QW (by rfl) ?_)
  refine Qe<|QC<|QG ?_
  obtain ⟨r,hv,hrn,hrc,hfix⟩:=Q3.fix (w0:=w) (F0:=F) (bs1:=[]) (G:=fun F=>JP F ⟨q,n,c⟩ a∧JP F rb b) i.hr
  have hex:i.i=a.length:=by have:=dec_f hc;omega
  have hlz:=Xq i.out
  refine T9 hfix ?_
  rw [hv]
  refine QB<|JS_mv rfl<|QI rfl (fun w F hF ⟨⟨hA,hB⟩,hX⟩=>We (r:=r) (l:=i.out) hF ⟨by rw [hrn];exact hX,hrn.symm,by omega⟩ (by omega)) (fun c34=>JS_as rfl<|JS_nt<|QT ?_)
  exact QQ ((⟨r.q,(Q2 i.out).length,r.cap⟩,Q2 i.out):Sr×List Int) rfl (.tmp rfl .nil) rfl (fun F h=>⟨h.2,i.dg.Q2,by show dv B9 (Q2 i.out)=_;rw [J7];exact vc i.dg (by omega) lb (by have e:=i.h;rw [hex] at e;exact e) hc0 hc1 hle,Xa _,by show(Q2 i.out).length≤_;omega⟩)
end
section
open Go.RowKit Ig
section
variable {P:Program} {N:Nat} {m:Sl} {S:World→Prop} {ty:TypeId}
def CE (P:Program) (T:TypeId):Bool:=match P.underlying T with
 |some .bool=>true
 |_=>false
theorem gL {T:TypeId} (h:CE P T=true):P.underlying T=some .bool:=by
 unfold CE at h;split at h
 ·assumption
 ·cases h
theorem LK {T:TypeId} (hT:CE P T=true) (a b:Bool) (w:World):(Op.equal T (.bool a) (.bool b)).run P w = .ok (a==b) w:=by
 have e:∃ n,Op.maxDepth=n+1:=⟨Op.maxDepth - 1,by decide⟩
 obtain ⟨n,e⟩:=e
 unfold Op.equal
 rw [e]
 unfold Op.equalIn
 simp [run_underlying (gL hT)]
theorem gu {T yT:TypeId} {x y:Operand} {a b:Bool} (hT:CE P T=true) (hx:ev m x=some (.bool a)) (hy:ev m y=some (.bool b)):Qt P N m S (.binOp .eql T x y yT) ty (.bool (a==b)):=fun s w _ _ _ _ ha _=>by
 simp only [execOp,ha.ev hx,ha.ev hy,eqGuard,binOp,Sem.run_bind,Sem.run_pure,Result.andThen_ok,LK hT]
 rfl
theorem y8 {T yT:TypeId} {x y:Operand} {a b:Bool} (hT:CE P T=true) (hx:ev m x=some (.bool a)) (hy:ev m y=some (.bool b)):Qt P N m S (.binOp .neq T x y yT) ty (.bool (!(a==b))):=fun s w _ _ _ _ ha _=>by
 simp only [execOp,ha.ev hx,ha.ev hy,eqGuard,binOp,Sem.run_bind,Sem.run_pure,Result.andThen_ok,LK hT]
 rfl
end
theorem qW:CE Tryz.prog 4=true:=by kernel_rfl
theorem gI {x y:Int} (h:ZO x y≥0):y≤x:=by
 unfold ZO at h;split at h
 ·omega
 ·split at h<;>omega
theorem jJ {w:World} {F:Gs} {x:Ri} {zx:Int} (hF:Fits F w) (hx:VP F x zx) (hz:sz zx≤1000000):G2 Tryz.prog 179 [x.v] w F (-zx):=by
 obtain ⟨xn,⟨xq,xm,xc⟩,xl⟩:=x
 have px:=hx.p
 have lx:=px.len
 have kx:=hx.1.2.1
 have vx:=px.v0
 dsimp only at px lx kx vx
 dsimp only [Ri.v]
 have eqn : -zx=G9 (!xn) xl:=by rw [px.e];cases xn<;>simp [G9]
 refine QS.intro (G:=fun F=>VP F ⟨xn,⟨xq,xm,xc⟩,xl⟩ zx) Tryz.func179 rfl (by rfl) rfl rfl hF (fun F' hF'=>hx.le hF')<|J_sr<|Qw rfl (vs:=[_,_]) rfl (fun b1=>Qb Z6 (fun b2=>JS_nt<|J_sr<|QA (QH rfl KO Vy)<|QA (Qj rfl Vy (.there .here) (.here .nil))<|QA (Yt rfl)<|QA (QH rfl Z1 Qz)<|QA (Qj rfl Qz (.there .here) (.skip (.here .nil)))<|QI rfl (fun w F hF hx=>Zy hF (r:=⟨xq,xm,xc⟩) (l:=xl) (neg:=!xn) hx.1 (px.dg) (by omega)) (fun c8=>QN (vs:=[_,_]) rfl rfl rfl JH rfl .here (.here (.here .nil)) ⟨rfl,rfl,trivial⟩<|JS_nt<|QT ?_)))
 exact QQ (c8) rfl (.JU (c:=[_,_]) rfl JH .here .nil) (rfl) (fun F ⟨hx,h8⟩=>(by rw [eqn];exact h8))
theorem Gn {w:World} {F:Gs} {x y:Ri} {zx zy:Int} (hF:Fits F w) (hx:VP F x zx) (hy:VP F y zy) (hzx:sz zx≤1000000) (hzy:sz zy≤1000000):G2 Tryz.prog 178 [x.v,y.v] w F (zx*zy):=by
 obtain ⟨xn,⟨xq,xm,xc⟩,xl⟩:=x
 have px:=hx.p
 have lx:=px.len
 have kx:=hx.1.2.1
 have vx:=px.v0
 dsimp only at px lx kx vx
 obtain ⟨yn,⟨yq,ym,yc⟩,yl⟩:=y
 have py:=hy.p
 have ly:=py.len
 have ky:=hy.1.2.1
 have vy:=py.v0
 dsimp only at py ly ky vy
 dsimp only [Ri.v]
 refine QS.intro (G:=fun F=>VP F ⟨xn,⟨xq,xm,xc⟩,xl⟩ zx∧VP F ⟨yn,⟨yq,ym,yc⟩,yl⟩ zy) Tryz.func178 rfl (by rfl) rfl rfl hF (fun F' hF'=>⟨hx.le hF',hy.le hF'⟩)<|J_sr<|Qw rfl (vs:=[_,_]) rfl (fun b2=>Qw rfl (vs:=[_,_]) rfl (fun b3=>Qb Z6 (fun b4=>JS_nt<|QG<|JN (.cons _ (.cons_cons _ (.cons_cons _ .slnil))) mixed (by kernel_rfl)<|QK (QH rfl KO Vy)<|QK (Qj rfl Vy (.there .here) (.here .nil))<|QK (QH rfl KO Vy)<|QK (Qj rfl Vy .here (.here .nil))<|QK (y8 qW rfl rfl)<|QK (QH rfl Z1 Qz)<|QK (Qj rfl Qz (.there .here) (.skip (.here .nil)))<|QK (QH rfl Z1 Qz)<|QK (Qj rfl Qz .here (.skip (.here .nil))) ?_)))
 refine QY rfl (fun w F hF ⟨hx,hy⟩=>GI hF (a:=xl) (b:=yl) (ra:=⟨xq,xm,xc⟩) (rb:=⟨yq,ym,yc⟩) hx.1 (hy.1) (px.dg) (py.dg) (by omega) (by first | omega | (simp;done) | (simp;omega))) (fun c14=>?_);rcases c14 with ⟨v14,l14⟩;dsimp only
 refine E4 _ (fun w F hF ⟨⟨hx,hy⟩,⟨h14,h14p⟩⟩=>And.intro h14.2 h14p) (fun p14=>?_)
 have eqn:zx*zy=G9 (!(xn==yn)) l14:=by
  have e14:=p14.2.2.1
  rw [px.e,py.e];unfold G9;rw [e14];cases xn<;>cases yn<;>simp [Int.mul_neg,Int.neg_mul]
 have m14:=p14.2.2.2.2
 refine QY rfl (fun w F hF ⟨⟨hx,hy⟩,⟨h14,h14p⟩⟩=>Zy hF (r:=v14) (l:=l14) (neg:=!(xn==yn)) h14 (p14.2.1) (by omega)) (fun c15=>Q7 (vs:=[_,_]) rfl rfl rfl JH rfl .here (.cons_cons _ (.cons_cons _ .slnil)) (fun _ h=>h.1.1) (.here (.here .nil)) ⟨rfl,rfl,trivial⟩<|Q4<|QC<|QT ?_)
 exact QQ (c15) rfl (.JU (c:=[_,_]) rfl JH .here .nil) (rfl) (fun F ⟨⟨⟨hx,hy⟩,⟨h14,h14p⟩⟩,h15⟩=>(by rw [eqn];exact h15))
theorem zS {w:World} {F:Gs} {x y:Ri} {zx zy:Int} (hF:Fits F w) (hx:VP F x zx) (hy:VP F y zy) (hzx:sz zx≤1000000) (hzy:sz zy≤1000000):G2 Tryz.prog 177 [x.v,y.v] w F (zx+zy):=by
 obtain ⟨xn,⟨xq,xm,xc⟩,xl⟩:=x
 have px:=hx.p
 have lx:=px.len
 have kx:=hx.1.2.1
 have vx:=px.v0
 dsimp only at px lx kx vx
 obtain ⟨yn,⟨yq,ym,yc⟩,yl⟩:=y
 have py:=hy.p
 have ly:=py.len
 have ky:=hy.1.2.1
 have vy:=py.v0
 dsimp only at py ly ky vy
 dsimp only [Ri.v]
 refine QS.intro (G:=fun F=>VP F ⟨xn,⟨xq,xm,xc⟩,xl⟩ zx∧VP F ⟨yn,⟨yq,ym,yc⟩,yl⟩ zy) Tryz.func177 rfl (by rfl) rfl rfl hF (fun F' hF'=>⟨hx.le hF',hy.le hF'⟩)<|J_sr<|Qw rfl (vs:=[_,_]) rfl (fun b2=>Qw rfl (vs:=[_,_]) rfl (fun b3=>Qb Z6 (fun b4=>JS_nt<|QG<|J_sr<|QA (QH rfl KO Vy)<|QA (Qj rfl Vy (.there (.there .here)) (.here .nil))<|QA (QH rfl KO Vy)<|QA (Qj rfl Vy (.there .here) (.here .nil))<|QA (gu qW rfl rfl)<|QE<|QC ?_)))
 refine QR rfl (fun hc=>?_) (fun hc=>?_)
 ·
  have hne:xn=yn:=by simpa using hc
  refine QG<|JN (.cons _ (.cons_cons _ (.cons_cons _ .slnil))) mixed (by kernel_rfl)<|QK (QH rfl KO Vy)<|QK (Qj rfl Vy (.there .here) (.here .nil))<|QK (QH rfl Z1 Qz)<|QK (Qj rfl Qz (.there .here) (.skip (.here .nil)))<|QK (QH rfl Z1 Qz)<|QK (Qj rfl Qz .here (.skip (.here .nil))) ?_
  refine QY rfl (fun w F hF ⟨hx,hy⟩=>EV hF (a:=xl) (b:=yl) (ra:=⟨xq,xm,xc⟩) (rb:=⟨yq,ym,yc⟩) hx.1 (hy.1) (px.dg) (py.dg) (by omega) (by first | omega | (simp;done) | (simp;omega))) (fun c16=>?_);rcases c16 with ⟨v16,l16⟩;dsimp only
  refine E4 _ (fun w F hF ⟨⟨hx,hy⟩,⟨h16,h16p⟩⟩=>And.intro h16.2 h16p) (fun p16=>?_)
  have eqn:zx+zy=G9 xn l16:=by
   have e16:=p16.2.2.1
   rw [px.e,py.e,hne];unfold G9;rw [e16];cases yn<;>simp<;>omega
  have m16:=p16.2.2.2
  refine QY rfl (fun w F hF ⟨⟨hx,hy⟩,⟨h16,h16p⟩⟩=>Zy hF (r:=v16) (l:=l16) (neg:=xn) h16 (p16.2.1) (by omega)) (fun c17=>Q7 (vs:=[_,_]) rfl rfl rfl JH rfl .here (.cons_cons _ (.cons_cons _ .slnil)) (fun _ h=>h.1.1) (.here (.here .nil)) ⟨rfl,rfl,trivial⟩<|Q4<|QC<|QT ?_)
  exact QQ (c17) rfl (.JU (c:=[_,_]) rfl JH .here .nil) (rfl) (fun F ⟨⟨⟨hx,hy⟩,⟨h16,h16p⟩⟩,h17⟩=>(by rw [eqn];exact h17))
 ·
  have hne:xn=!yn:=by cases xn<;>cases yn<;>simp_all
  refine QP<|QC<|QG<|J_sr<|QA (QH rfl Z1 Qz)<|QA (Qj rfl Qz (.there (.there .here)) (.skip (.here .nil)))<|QA (QH rfl Z1 Qz)<|QA (Qj rfl Qz (.there .here) (.skip (.here .nil)))<|QI rfl (fun w F hF ⟨hx,hy⟩=>GK hF (a:=xl) (b:=yl) (ra:=⟨xq,xm,xc⟩) (rb:=⟨yq,ym,yc⟩) hx.1 (hy.1) (px.dg) (py.dg) (px.nz) (py.nz) (by omega) (by omega)) (fun _=>QA (QV rfl rfl rfl)<|QE<|QC ?_)
  refine QR rfl (fun hc=>?_) (fun hc=>?_)
  ·
   have hle:dv B9 yl≤dv B9 xl:=gI (dec_t hc)
   have hll:=Ww py.dg px.dg py.nz hle
   refine QG<|JN (.cons _ (.cons_cons _ (.cons_cons _ .slnil))) mixed (by kernel_rfl)<|QK (QH rfl KO Vy)<|QK (Qj rfl Vy (.there .here) (.here .nil))<|QK (QH rfl Z1 Qz)<|QK (Qj rfl Qz (.there .here) (.skip (.here .nil)))<|QK (QH rfl Z1 Qz)<|QK (Qj rfl Qz .here (.skip (.here .nil))) ?_
   refine QY rfl (fun w F hF ⟨⟨hx,hy⟩,_⟩=>Ac hF (a:=xl) (b:=yl) (ra:=⟨xq,xm,xc⟩) (rb:=⟨yq,ym,yc⟩) hx.1 (hy.1) (px.dg) (py.dg) (by omega) (by omega) (hle)) (fun c30=>?_);rcases c30 with ⟨v30,l30⟩;dsimp only
   refine E4 _ (fun w F hF ⟨⟨⟨hx,hy⟩,_⟩,⟨h30,h30p⟩⟩=>And.intro h30.2 h30p) (fun p30=>?_)
   have eqn:zx+zy=G9 xn l30:=by
    have e30:=p30.2.2.1
    rw [px.e,py.e,hne];unfold G9;rw [e30];cases yn<;>simp<;>omega
   have m30:=p30.2.2.2
   refine QY rfl (fun w F hF ⟨⟨⟨hx,hy⟩,_⟩,⟨h30,h30p⟩⟩=>Zy hF (r:=v30) (l:=l30) (neg:=xn) h30 (p30.2.1) (by omega)) (fun c31=>Q7 (vs:=[_,_]) rfl rfl rfl JH rfl .here (.cons_cons _ (.cons_cons _ .slnil)) (fun _ h=>h.1.1) (.here (.here .nil)) ⟨rfl,rfl,trivial⟩<|Q4<|QC<|QT ?_)
   exact QQ (c31) rfl (.JU (c:=[_,_]) rfl JH .here .nil) (rfl) (fun F ⟨⟨⟨⟨hx,hy⟩,_⟩,⟨h30,h30p⟩⟩,h31⟩=>(by rw [eqn];exact h31))
  ·
   have hle:dv B9 xl≤dv B9 yl:=ju (dec_f hc)
   have hll:=Ww px.dg py.dg px.nz hle
   refine QP<|QC<|QG<|JN (.cons _ (.cons_cons _ (.cons_cons _ .slnil))) mixed (by kernel_rfl)<|QK (QH rfl KO Vy)<|QK (Qj rfl Vy .here (.here .nil))<|QK (QH rfl Z1 Qz)<|QK (Qj rfl Qz .here (.skip (.here .nil)))<|QK (QH rfl Z1 Qz)<|QK (Qj rfl Qz (.there .here) (.skip (.here .nil))) ?_
   refine QY rfl (fun w F hF ⟨⟨hx,hy⟩,_⟩=>Ac hF (a:=yl) (b:=xl) (ra:=⟨yq,ym,yc⟩) (rb:=⟨xq,xm,xc⟩) hy.1 (hx.1) (py.dg) (px.dg) (by omega) (by omega) (hle)) (fun c38=>?_);rcases c38 with ⟨v38,l38⟩;dsimp only
   refine E4 _ (fun w F hF ⟨⟨⟨hx,hy⟩,_⟩,⟨h38,h38p⟩⟩=>And.intro h38.2 h38p) (fun p38=>?_)
   have eqn:zx+zy=G9 yn l38:=by
    have e38:=p38.2.2.1
    rw [px.e,py.e,hne];unfold G9;rw [e38];cases yn<;>simp<;>omega
   have m38:=p38.2.2.2
   refine QY rfl (fun w F hF ⟨⟨⟨hx,hy⟩,_⟩,⟨h38,h38p⟩⟩=>Zy hF (r:=v38) (l:=l38) (neg:=yn) h38 (p38.2.1) (by omega)) (fun c39=>Q7 (vs:=[_,_]) rfl rfl rfl JH rfl .here (.cons_cons _ (.cons_cons _ .slnil)) (fun _ h=>h.1.1) (.here (.here .nil)) ⟨rfl,rfl,trivial⟩<|Q4<|QC<|QT ?_)
   exact QQ (c39) rfl (.JU (c:=[_,_]) rfl JH .here .nil) (rfl) (fun F ⟨⟨⟨⟨hx,hy⟩,_⟩,⟨h38,h38p⟩⟩,h39⟩=>(by rw [eqn];exact h39))
end
section
open Go.RowKit Ig
theorem yK (x y:Int):Int.gcd y (x%y)=Int.gcd x y:=by
 rw [Int.gcd_comm y,Int.emod_def]
 first | rw [Int.gcd_sub_mul_left_left] | rw [Int.gcd_sub_mul_right_left] | rw [Int.gcd_sub_mul_left] | simp
theorem O9 {w:World} {F:Gs} {ra rb:Sr} {a b:List Int} (hF:Fits F w) (hA:JP F ra a) (hB:JP F rb b) (da:DG B9 a) (db:DG B9 b) (za:NZ a) (zb:NZ b) (la:a.length≤10000000) (lb:b.length≤10000000) :
  QS Tryz.prog 120 [ra.v,rb.v] w F (fun(c:Sr×List Int)=>.slice c.1.q c.1.n c.1.cap) (fun c F=>JP F c.1 c.2∧DG B9 c.2∧NZ c.2∧dv B9 c.2=(Int.gcd (dv B9 a) (dv B9 b):Int)):=by
 refine QS.intro (G:=fun F=>JP F ra a∧JP F rb b) Tryz.func120 rfl (by rfl) rfl rfl hF (fun F' hF'=>⟨hA.le hF',hB.le hF'⟩)<|J_sr<|JS_as rfl<|JS_nt<|QG<|Qa<|Jz (ι:=pJ (dv B9 a) (dv B9 b)) [] (fun i=>[(0,.slice i.ra.q i.ra.n i.ra.cap),(1,.slice i.rb.q i.rb.n i.rb.cap)]) (fun i=>[]) (fun i F=>JP F i.ra i.a∧JP F i.rb i.b) (fun i=>(dv B9 i.b).toNat) (⟨ra,rb,a,b,da,db,za,zb,la,lb,hB.2.1,rfl⟩) trivial ⟨rfl,rfl,trivial⟩ subl_r (fun F h=>h) (fun i=>?_)
 simp only [List.cons_append,List.nil_append]
 have hla:=i.la
 have hlb:=i.lb
 have hnb:=i.nb
 refine QG<|J_sr<|JS_mv rfl<|QA (Ql rfl Qf)<|QA (QV rfl rfl rfl)<|QE<|QC ?_
 refine QR rfl (fun hc=>?_) (fun hc=>?_)
 ·
  have hpos:0<dv B9 i.b:=by
   have h1:=Yh VV i.db i.zb
   have h2:=Qs JE i.db
   rw [← List.length_eq_zero_iff] at h1
   have:=dec_t hc
   omega
  have hm0:=Int.emod_nonneg (dv B9 i.a) (Int.ne_of_gt hpos)
  have hm1:=Int.emod_lt_of_pos (dv B9 i.a) hpos
  refine QP<|QC<|Qa<|J_sr<|JS_mv rfl<|JS_mv rfl<|QI rfl (fun w F hF ⟨⟨hA,hB⟩,⟨hR1,hR2⟩⟩=>GJ hF (a:=i.a) (b:=i.b) (ra:=i.ra) (rb:=i.rb) hR1 (hR2) (i.da) (i.db) (i.za) (i.zb) (hpos) (by omega) (by omega)) (fun c13=>JS_mv rfl<|QA (QM rfl rfl)<|QA (QM rfl rfl)<|JS_as rfl<|JS_as rfl<|JS_nt<|Xz _ (fun w F hF h=>And.intro h.2.2.2 h.2.2.1.2.1) (fun q13=>?_))
  obtain ⟨q13,n13⟩:=q13
  refine QB<|JS_mv rfl<|JS_mv rfl<|JS_as rfl<|JS_as rfl<|QE<|Qk ?_
  exact Qo (⟨i.rb,c13.2.1,i.b,c13.2.2,i.db,q13.1,i.zb,q13.2.1,i.lb,by have:=Ww q13.1 i.db q13.2.1 (by rw [q13.2.2];omega);omega,n13,by rw [q13.2.2,yK];exact i.h⟩) (by show(dv B9 c13.2.2).toNat<(dv B9 i.b).toNat;rw [q13.2.2];omega) ⟨rfl,rfl,trivial⟩ subl_r (fun F ⟨⟨⟨hA,hB⟩,⟨hR1,hR2⟩⟩,h13⟩=>⟨⟨hA,hB⟩,⟨hR2,h13.2.1⟩⟩)
 ·
  have hz:i.b=[]:=by
   have:=dec_f hc
   exact List.eq_nil_of_length_eq_zero (by omega)
  refine Q5 ?_
  repeat (first | refine Qd ?_ | refine QW (by rfl) ?_)
  refine Qe<|QC<|J_sr<|JS_mv rfl<|JS_as rfl<|JS_nt<|QT ?_
  exact QQ ((i.ra,i.a):Sr×List Int) rfl (.tmp rfl .nil) (rfl) (fun F ⟨⟨hA,hB⟩,⟨hR1,hR2⟩⟩=>⟨hR1,i.da,i.za,by have e:=i.h;rw [hz,Tg,Int.gcd_zero_right] at e;have:=Qs JE i.da;show dv B9 i.a=_;omega⟩)
end
section
open Go.RowKit Ig
theorem NX {w:World} {F:Gs} {x:Int} {least:Nat} (hF:Fits F w) (h0:0≤x) (hn:x≤9223372036854775807) (hl:least≤1000):QZ Tryz.prog 182 [.int .i64 x,.int .i64 (least:Int)] w F (tx (NU x.toNat least)):=by
 have:=xF (n:=x.toNat) (least:=least) hF (by omega) hl
 rw [Int.toNat_of_nonneg h0] at this;exact this
theorem Im {w:World} {F:Gs} {x:Ri} {zx:Int} (hF:Fits F w) (hx:VP F x zx) (hz:sz zx≤1000000):QZ Tryz.prog 192 [x.v] w F (tx (Xu zx)):=by
 obtain ⟨xn,⟨xq,xm,xc⟩,xl⟩:=x
 have px:=hx.p
 have lx:=px.len
 have kx:=hx.1.2.1
 have vx:=px.v0
 dsimp only at px lx kx vx
 dsimp only [Ri.v]
 have h9:B9=1000000000:=rfl
 refine QS.intro (G:=fun F=>VP F ⟨xn,⟨xq,xm,xc⟩,xl⟩ zx) Tryz.func192 rfl (by rfl) rfl rfl hF (fun F' hF'=>hx.le hF')<|J_sr<|Qw rfl (vs:=[_,_]) rfl (fun b1=>JS_as rfl<|JS_nt<|QG<|J_sr<|QA (QH rfl Z1 Qz)<|QA (Qj rfl Qz .here (.skip (.here .nil)))<|QA (Ql rfl Qf)<|QA (QV rfl rfl rfl)<|QE<|QC ?_)
 refine QR rfl (fun hc=>?_) (fun hc=>?_)
 ·
  have hx0:zx=0:=(px.zero).1 (List.eq_nil_of_length_eq_zero (by have:=hc;simp at this;omega))
  refine J_sr<|JS_as rfl<|JS_nt<|QT ?_
  exact QQ (()) rfl (.tmp rfl .nil) (by rw [hx0,Jx (by decide)];exact congrArg (fun l=>tx l) Zt) (fun F hx=>trivial)
 ·
  have hl0:0<xl.length:=by
   rcases Nat.eq_zero_or_pos xm with g | g
   ·rw [g] at hc;simp at hc
   ·omega
  obtain ⟨d1,d2⟩:=Gz px.dg px.nz hl0
  have b0:=px.dg.Qg JE (xl.length - 1)
  rw [h9] at b0
  refine QP<|QC<|J_sr<|QA (QH rfl Z1 Qz)<|QA (Qj rfl Qz .here (.skip (.here .nil)))<|QA (QH rfl Z1 Qz)<|QA (Qj rfl Qz .here (.skip (.here .nil)))<|QA (Ql rfl Qf)<|QA (J6 rfl rfl (by omega))<|QA (Ja (n:=xm) (xl.length - 1) (fun F hx=>(hx.1).1) rfl (congrArg (fun z:Int=>some (Value.int .i64 z)) (by omega)) Qf Qp (by omega))<|QA (Jk (n:=xm) ((xl.length - 1)*1) (fun F hx=>(hx.1).1) (by omega) rfl Qp (JO (o:=xl) (by omega)))<|QI rfl (fun w F hF hx=>NX hF (least:=1) (by omega) (by omega) (by omega)) (fun _=>JS_as rfl<|JS_nt<|QG<|J_sr<|QA (QH rfl Z1 Qz)<|QA (Qj rfl Qz .here (.skip (.here .nil)))<|QA (Ql rfl Qf)<|QA (J6 rfl rfl (by omega))<|JS_as rfl<|QE ?_)
  refine QC<|Qa<|Z3 (ι:=qh xl) [(1,_)] (fun i=>[(3,tx i.s),(4,.int .i64 ((i.k:Int) - 1))]) (fun i=>i.k) (qh.start px.dg px.nz hl0) ⟨rfl,trivial⟩ ⟨rfl,(congrArg (fun z:Int=>some (Value.int .i64 z)) (by simp only [qh.start];omega)),trivial⟩ (fun i=>?_)
  simp only [List.cons_append,List.nil_append]
  have hle:=i.le
  have hsl:=i.sl
  refine QG<|J_sr<|JS_mv rfl<|QA (QV rfl rfl rfl)<|QE<|QC ?_
  refine QR rfl (fun hc=>?_) (fun hc=>?_)
  ·
   have hk0:0<i.k:=by have:=dec_t hc;omega
   have b1:=px.dg.Qg JE (i.k - 1)
   rw [h9] at b1
   have ln:=DX (n:=(Qg xl (i.k - 1)).toNat) (by omega)
   refine QP<|QC<|QG<|Qa<|QB<|JS_mv rfl<|QA (QH rfl Z1 Qz)<|QA (Qj rfl Qz .here (.skip (.here .nil)))<|JS_mv rfl<|QA (Ja (n:=xm) (i.k - 1) (fun F ⟨hx,_⟩=>(hx.1).1) rfl (congrArg (fun z:Int=>some (Value.int .i64 z)) (by omega)) Qf Qp (by omega))<|QA (Jk (n:=xm) ((i.k - 1)*1) (fun F ⟨hx,_⟩=>(hx.1).1) (by omega) rfl Qp (JO (o:=xl) (by omega)))<|QI rfl (fun w F hF ⟨hx,_⟩=>NX hF (least:=9) (by omega) (by omega) (by omega)) (fun _=>QA (Zc rfl rfl (by omega))<|JS_as rfl<|QE<|Qk<|QC<|QB<|JS_mv rfl<|QA (J6 rfl rfl (by omega))<|JS_as rfl<|QE ?_)
   exact Qo (i.next px.dg hk0) (by show i.k - 1<i.k;omega) ⟨rfl,rfl,(congrArg (fun z:Int=>some (Value.int .i64 z)) (by simp only [qh.next];omega)),trivial⟩ subl_r (fun F h=>h.1)
  ·
   have hk0:i.k=0:=by have:=dec_f hc;omega
   have hi:=i.h
   rw [hk0,List.drop_zero] at hi
   have ha:=px.abs
   refine Q5 ?_
   repeat (first | refine Qd ?_ | refine QW (by rfl) ?_)
   refine Qe<|QC<|QG<|J_sr<|QA (QH rfl KO Vy)<|QA (Qj rfl Vy .here (.here .nil))<|QE<|QC ?_
   refine QR rfl (fun hc=>?_) (fun hc=>?_)
   ·
    have hneg:zx<0:=by have:=px.neg;rw [hc] at this;exact dec_t this.symm
    refine J_sr<|JS_mv rfl<|QA (Zc rfl rfl (by simp;omega))<|JS_as rfl<|JS_nt<|QT ?_
    exact QQ (()) rfl (.tmp rfl .nil) (by rw [YB hneg,hi];exact congrArg (fun n=>tx (45::Lib.decDigits n)) (by omega)) (fun F ⟨hx,_⟩=>trivial)
   ·
    have hneg:¬ zx<0:=by have:=px.neg;rw [hc] at this;exact dec_f this.symm
    refine QP<|QC<|J_sr<|JS_mv rfl<|JS_as rfl<|JS_nt<|QT ?_
    exact QQ (()) rfl (.tmp rfl .nil) (by rw [Jx (by omega),hi];exact congrArg (fun n=>tx (Lib.decDigits n)) (by omega)) (fun F ⟨hx,_⟩=>trivial)
end
section
open Go.RowKit Ig
theorem gE {n d:Int} (h:0<d) {neg:Bool} {l p:List Int} (hn:Vw neg l n) (hp:dv B9 p=dv B9 l / (Int.gcd n d:Int)):G9 neg p=(Rat.divInt n d).num:=by
 rw [(Kh h).1]
 have hg:(0:Int)<(Int.gcd n d:Int):=by have:=WG (x:=n) h;omega
 obtain ⟨k,hk⟩:=Int.gcd_dvd_left (a:=n) (b:=d)
 have e:=hn.e
 have hv:=hn.v0
 unfold G9 at e ⊢
 rw [hp]
 cases neg with
 |true =>
  simp only [if_true] at e ⊢
  have e2:dv B9 l=(Int.gcd n d:Int)*(-k):=by rw [Int.mul_neg,← hk];omega
  rw [e2,Int.mul_ediv_cancel_left _ (by omega)]
  have e3:n / (Int.gcd n d:Int)=k:=by
   conv=>lhs;lhs;rw [hk]
   exact Int.mul_ediv_cancel_left _ (by omega)
  rw [e3];omega
 |false =>
  simp only [Bool.false_eq_true,if_false] at e ⊢
  rw [← e]
theorem gF {n d:Int} (h:0<d) {neg:Bool} {l p:List Int} (hn:Vw neg l d) (hp:dv B9 p=dv B9 l / (Int.gcd n d:Int)):dv B9 p=((Rat.divInt n d).den:Int):=by
 rw [(Kh h).2,hp]
 have:=hn.abs
 congr 1;omega
theorem jm {n d:Int} {a b:Bool} {l m:List Int} (hn:Vw a l n) (hd:Vw b m d):Int.gcd (dv B9 l) (dv B9 m)=Int.gcd n d:=by
 rw [← hn.abs,← hd.abs];simp [Int.gcd]
theorem js (x y:Int):Rat.divInt (-x) (-y)=Rat.divInt x y:=Rat.neg_divInt_neg x y
theorem L2 {l:List Int} (h:DG B9 l) (hz:NZ l):(l.length=1∧Qg l 0=1)↔dv B9 l=1:=by
 constructor
 ·rintro ⟨h1,h2⟩
  obtain ⟨x,rfl⟩:=List.length_eq_one_iff.1 h1
  simp [Qg] at h2
  simp [dv,h2]
 ·intro e
  have:l=[1]:=qN VV h (DG.cons (by decide) (by decide) (DG.nil _)) hz (by simp [NZ]) (by rw [e];simp [dv])
  subst this;exact⟨rfl,rfl⟩
theorem zV {x:Rat} (h:(x.den:Int)=1):Xu x.num=JQ x:=by unfold JQ;rw [if_pos (by omega)]
theorem CW {x:Rat} (h:¬ (x.den:Int)=1):Xu x.num++[47]++Xu (x.den:Int)=JQ x:=by
 unfold JQ;rw [if_neg (by omega),Jx (z:=(x.den:Int)) (by omega)];simp
theorem Hm {w:World} {F:Gs} {x y:Ri} {zx zy:Int} (hF:Fits F w) (hx:VP F x zx) (hy:VP F y zy) (h0:zy≠0) (hzx:sz zx≤500000) (hzy:sz zy≤500000):QZ Tryz.prog 180 [x.v,y.v] w F (tx (JQ (Rat.divInt zx zy))):=by
 obtain ⟨xn,⟨xq,xm,xc⟩,xl⟩:=x
 have px:=hx.p
 have lx:=px.len
 have kx:=hx.1.2.1
 have vx:=px.v0
 dsimp only at px lx kx vx
 obtain ⟨yn,⟨yq,ym,yc⟩,yl⟩:=y
 have py:=hy.p
 have ly:=py.len
 have ky:=hy.1.2.1
 have vy:=py.v0
 dsimp only at py ly ky vy
 dsimp only [Ri.v]
 have hny:=py.neg
 refine QS.intro (G:=fun F=>VP F ⟨xn,⟨xq,xm,xc⟩,xl⟩ zx∧VP F ⟨yn,⟨yq,ym,yc⟩,yl⟩ zy) Tryz.func180 rfl (by rfl) rfl rfl hF (fun F' hF'=>⟨hx.le hF',hy.le hF'⟩)<|J_sr<|Qw rfl (vs:=[_,_]) rfl (fun b2=>Qw rfl (vs:=[_,_]) rfl (fun b3=>JS_as rfl<|QE<|QC ?_))
 refine T3 (ι:=pH zx zy) [(2,_),(3,_)] (fun i=>[]) (fun i=>[(b3,.cells [.bool i.d.neg,.slice i.d.r.q i.d.r.n i.d.r.cap].toArray 143 (0,0)),(b2,.cells [.bool i.n.neg,.slice i.n.r.q i.n.r.n i.n.r.cap].toArray 143 (0,0))]) (fun i F=>VP F i.n i.zn∧VP F i.d i.zd) ⟨rfl,rfl,trivial⟩ ?_ ?_
 ·
  refine J_sr<|QA (QH rfl KO Vy)<|QA (Qj rfl Vy .here (.here .nil))<|QE<|QC ?_
  refine QR rfl (fun hc=>?_) (fun hc=>?_)
  ·
   refine Xv 4 subl_r mixed (by kernel_rfl) (by kernel_rfl) ?_
   simp only [List.take_succ_cons,List.take_zero,List.drop_succ_cons,List.drop_zero]
   refine QK (QJ (vs:=[_,_]) rfl JH (.there .here) (.here (.here .nil)) rfl)<|QY rfl (fun w F hF ⟨hx,hy⟩=>jJ hF (x:=⟨xn,⟨xq,xm,xc⟩,xl⟩) hx (by omega)) (fun c14=>QK (QJ (vs:=[_,_]) rfl JH .here (.here (.here .nil)) rfl)<|QY rfl (fun w F hF ⟨⟨hx,hy⟩,h14⟩=>jJ hF (x:=⟨yn,⟨yq,ym,yc⟩,yl⟩) hy (by omega)) (fun c16=>VL<|QN (vs:=[_,_]) rfl rfl rfl JH rfl (.there .here) (.here (.here .nil)) ⟨rfl,rfl,trivial⟩<|QN (vs:=[_,_]) rfl rfl rfl JH rfl .here (.here (.here .nil)) ⟨rfl,rfl,trivial⟩<|QE ?_))
   exact Jt (⟨c14,c16,-zx,-zy,by rw [hc] at hny;have:=dec_t hny.symm;omega,js _ _,by rw [YK];exact hzx,by rw [YK];exact hzy⟩) ⟨rfl,rfl,trivial⟩ subl_r (fun F ⟨⟨⟨hx,hy⟩,h14⟩,h16⟩=>⟨⟨hx,hy⟩,⟨h14,h16⟩⟩)
  ·
   refine QP ?_
   exact Jt (⟨⟨xn,⟨xq,xm,xc⟩,xl⟩,⟨yn,⟨yq,ym,yc⟩,yl⟩,zx,zy,by rw [hc] at hny;have:=dec_f hny.symm;omega,rfl,hzx,hzy⟩) ⟨rfl,rfl,trivial⟩ subl_r (fun F ⟨hx,hy⟩=>⟨⟨hx,hy⟩,⟨hx,hy⟩⟩)
 ·intro i
  simp only [List.cons_append,List.nil_append]
  refine Xz _ (fun w F hF h=>And.intro h.2.1.p (And.intro h.2.2.p (And.intro h.2.1.1.2.1 h.2.2.1.2.1))) (fun pp=>?_)
  obtain ⟨pn,pd,kn,kd⟩:=pp
  have ln:=pn.len
  have ld:=pd.len
  have hsn:=i.sn
  have hsd:=i.sd
  have hi:=i.h
  have gg:=jm pn pd
  have q1:=Yd (a:=i.zn) (b:=i.zd) (by omega)
  have q2:=Jf (Rat.divInt i.zn i.zd)
  have q3:=Jb (Rat.divInt i.zn i.zd)
  have q4:sz (Rat.divInt i.zn i.zd).num≤500000:=by omega
  have q5:sz ((Rat.divInt i.zn i.zd).den:Int)≤500000:=by omega
  refine J_sr<|QA (QH rfl Z1 Qz)<|QA (Qj rfl Qz (.there .here) (.skip (.here .nil)))<|QA (QH rfl Z1 Qz)<|QA (Qj rfl Qz .here (.skip (.here .nil))) ?_
  refine QI rfl (fun w F hF ⟨⟨hx,hy⟩,⟨hN,hD⟩⟩=>O9 hF (a:=i.n.l) (b:=i.d.l) (ra:=i.n.r) (rb:=i.d.r) hN.1 (hD.1) (pn.dg) (pd.dg) (pn.nz) (pd.nz) (by omega) (by omega)) (fun c21=>?_);rcases c21 with ⟨v21,l21⟩;dsimp only
  refine JK _ (fun w F hF ⟨⟨⟨hx,hy⟩,⟨hN,hD⟩⟩,⟨h21,h21p⟩⟩=>And.intro h21.2 h21p) (fun p21=>JS_as rfl<|JS_nt<|QG ?_)
  have g0:0<dv B9 l21:=by rw [p21.2.2.2,gg];have:=WG (x:=i.zn) i.h;omega
  have l21l:l21.length≤i.d.l.length:=by
   refine Ww p21.2.1 pd.dg p21.2.2.1 ?_
   rw [p21.2.2.2,gg]
   have h1:(Int.gcd i.zn i.zd:Int)≤i.zd:=Int.le_of_dvd i.h (Int.gcd_dvd_right (a:=i.zn) (b:=i.zd))
   have h2:=pd.abs
   omega
  refine QB<|QA (QH rfl Z1 Qz)<|QA (Qj rfl Qz (.there .here) (.skip (.here .nil)))<|JS_mv rfl<|QI rfl (fun w F hF ⟨⟨⟨hx,hy⟩,⟨hN,hD⟩⟩,⟨h21,h21p⟩⟩=>GJ hF (a:=i.n.l) (b:=l21) (ra:=i.n.r) (rb:=v21) hN.1 (h21) (pn.dg) (p21.2.1) (pn.nz) (p21.2.2.1) (g0) (by omega) (by omega)) (fun c26=>JS_mv rfl<|QA (QM rfl rfl)<|QA (QM rfl rfl)<|JS_as rfl<|JS_as rfl<|JS_nt<|QG<|Xz _ (fun w F hF h=>And.intro h.2.1.2 h.2.1.1.2.1) (fun p26=>?_))
  obtain ⟨p26,n26⟩:=p26
  refine QB<|QA (QH rfl Z1 Qz)<|QA (Qj rfl Qz .here (.skip (.here .nil)))<|JS_mv rfl<|QI rfl (fun w F hF ⟨⟨⟨⟨hx,hy⟩,⟨hN,hD⟩⟩,⟨h21,h21p⟩⟩,h26⟩=>GJ hF (a:=i.d.l) (b:=l21) (ra:=i.d.r) (rb:=v21) hD.1 (h21) (pd.dg) (p21.2.1) (pd.nz) (p21.2.2.1) (g0) (by omega) (by omega)) (fun c33=>JS_mv rfl<|QA (QM rfl rfl)<|QA (QM rfl rfl)<|JS_as rfl<|JS_as rfl<|JS_nt<|QG<|Xz _ (fun w F hF h=>And.intro h.2.1.2 h.2.1.1.2.1) (fun p33=>?_))
  obtain ⟨p33,n33⟩:=p33
  have en:G9 i.n.neg c26.1.2=(Rat.divInt i.zn i.zd).num:=gE i.h pn (by rw [p26.2.2,p21.2.2.2,gg])
  have ed:dv B9 c33.1.2=((Rat.divInt i.zn i.zd).den:Int):=gF i.h pd (by rw [p33.2.2,p21.2.2.2,gg])
  have ed2:G9 false c33.1.2=((Rat.divInt i.zn i.zd).den:Int):=by rw [← ed];rfl
  have lnp:=Ww p26.1 pn.dg p26.2.1 (by rw [p26.2.2];exact Int.ediv_le_self _ pn.v0)
  have lnq:=Ww p33.1 pd.dg p33.2.1 (by rw [p33.2.2];exact Int.ediv_le_self _ pd.v0)
  have one1:=L2 p33.1 p33.2.1
  have lr1:=DV (Rat.divInt i.zn i.zd).num
  have lr2:=DV ((Rat.divInt i.zn i.zd).den:Int)
  refine QB<|QA (QH rfl KO Vy)<|QA (Qj rfl Vy (.there .here) (.here .nil))<|JS_mv rfl<|QI rfl (fun w F hF ⟨⟨⟨⟨⟨hx,hy⟩,⟨hN,hD⟩⟩,⟨h21,h21p⟩⟩,h26⟩,h33⟩=>Zy hF (r:=c26.1.1) (l:=c26.1.2) (neg:=i.n.neg) h26.1.1 (p26.1) (by first | omega | (simp;omega))) (fun c39=>QI rfl (fun w F hF ⟨⟨⟨⟨⟨⟨hx,hy⟩,⟨hN,hD⟩⟩,⟨h21,h21p⟩⟩,h26⟩,h33⟩,h39⟩=>Im hF (zx:=(Rat.divInt i.zn i.zd).num) (by rw [← en];exact h39) (by omega)) (fun _=>JS_as rfl<|JS_nt<|QG<|J_sr<|JS_mv rfl<|QA (Ql rfl Qf)<|QA (QV rfl rfl rfl)<|JS_mv rfl ?_))
  refine Qn (t:=44) rfl (fun hb44=>?_) (fun hb44=>?_)
  ·
   have hn1:c33.1.1.n=1:=by simp at hb44;omega
   refine QL rfl rfl<|JS_mv rfl<|QL rfl rfl<|QA (Ja (n:=c33.1.1.n) (0) (fun F ⟨⟨⟨⟨⟨⟨⟨hx,hy⟩,⟨hN,hD⟩⟩,⟨h21,h21p⟩⟩,h26⟩,h33⟩,h39⟩,_⟩=>(h33.1.1).1) rfl (congrArg (fun z:Int=>some (Value.int .i64 z)) (by omega)) Qf Qp (by omega))<|QL rfl rfl<|QA (Jk (n:=c33.1.1.n) ((0)*1) (fun F ⟨⟨⟨⟨⟨⟨⟨hx,hy⟩,⟨hN,hD⟩⟩,⟨h21,h21p⟩⟩,h26⟩,h33⟩,h39⟩,_⟩=>(h33.1.1).1) (by omega) rfl Qp (JO (o:=c33.1.2) (by omega)))<|QL rfl rfl<|QA (QV rfl rfl rfl)<|QA (Qi rfl rfl rfl)<|QE<|QC ?_
   refine QR rfl (fun hc=>?_) (fun hc=>?_)
   ·
    refine J_sr<|JS_mv rfl<|JS_as rfl<|JS_nt<|QT ?_
    exact QQ (()) rfl (.tmp rfl .nil) (by rw [← i.e];exact congrArg (fun l=>tx l) (zV (by rw [← ed];exact one1.1 ⟨by omega,by simpa using hc⟩)).symm) (fun F ⟨⟨⟨⟨⟨⟨⟨hx,hy⟩,⟨hN,hD⟩⟩,⟨h21,h21p⟩⟩,h26⟩,h33⟩,h39⟩,_⟩=>trivial)
   ·
    refine QP<|QC<|J_sr<|JS_mv rfl<|QA (Zc rfl rfl (by simp;omega))<|JS_mv rfl<|QI rfl (fun w F hF ⟨⟨⟨⟨⟨⟨⟨hx,hy⟩,⟨hN,hD⟩⟩,⟨h21,h21p⟩⟩,h26⟩,h33⟩,h39⟩,_⟩=>Zy hF (r:=c33.1.1) (l:=c33.1.2) (neg:=false) h33.1.1 (p33.1) (by first | omega | (simp;omega))) (fun c54=>QI rfl (fun w F hF ⟨⟨⟨⟨⟨⟨⟨⟨hx,hy⟩,⟨hN,hD⟩⟩,⟨h21,h21p⟩⟩,h26⟩,h33⟩,h39⟩,_⟩,h54⟩=>Im hF (zx:=((Rat.divInt i.zn i.zd).den:Int)) (by rw [← ed2];exact h54) (by omega)) (fun _=>QA (Zc rfl rfl (by simp;omega))<|JS_as rfl<|JS_nt<|QT ?_))
    exact QQ (()) rfl (.tmp rfl .nil) (by rw [← i.e];exact congrArg (fun l=>tx l) (CW (fun g=>by have:=one1.2 (by rw [ed];exact g);rw [this.2] at hc;simp at hc)).symm) (fun F ⟨⟨⟨⟨⟨⟨⟨⟨⟨hx,hy⟩,⟨hN,hD⟩⟩,⟨h21,h21p⟩⟩,h26⟩,h33⟩,h39⟩,_⟩,h54⟩,_⟩=>trivial)
  ·
   have hn1:c33.1.1.n≠1:=by simp at hb44;omega
   refine QO rfl rfl rfl<|QO rfl rfl rfl<|QO rfl rfl rfl<|QO rfl rfl rfl<|QA (Qh rfl rfl rfl)<|JS_nt<|Z8 rfl<|QP<|QC<|J_sr<|JS_mv rfl<|QA (Zc rfl rfl (by simp;omega))<|JS_mv rfl<|QI rfl (fun w F hF ⟨⟨⟨⟨⟨⟨⟨hx,hy⟩,⟨hN,hD⟩⟩,⟨h21,h21p⟩⟩,h26⟩,h33⟩,h39⟩,_⟩=>Zy hF (r:=c33.1.1) (l:=c33.1.2) (neg:=false) h33.1.1 (p33.1) (by first | omega | (simp;omega))) (fun c54=>QI rfl (fun w F hF ⟨⟨⟨⟨⟨⟨⟨⟨hx,hy⟩,⟨hN,hD⟩⟩,⟨h21,h21p⟩⟩,h26⟩,h33⟩,h39⟩,_⟩,h54⟩=>Im hF (zx:=((Rat.divInt i.zn i.zd).den:Int)) (by rw [← ed2];exact h54) (by omega)) (fun _=>QA (Zc rfl rfl (by simp;omega))<|JS_as rfl<|JS_nt<|QT ?_))
   exact QQ (()) rfl (.tmp rfl .nil) (by rw [← i.e];exact congrArg (fun l=>tx l) (CW (fun g=>by have:=one1.2 (by rw [ed];exact g);omega)).symm) (fun F ⟨⟨⟨⟨⟨⟨⟨⟨⟨hx,hy⟩,⟨hN,hD⟩⟩,⟨h21,h21p⟩⟩,h26⟩,h33⟩,h39⟩,_⟩,h54⟩,_⟩=>trivial)
end
section
open Go.RowKit Ig
theorem y6 (x:Rat):(Wg x).num=(x.num.natAbs:Int)∧(Wg x).den=x.den:=by
 unfold Wg;split
 ·exact⟨by rw [Rat.neg_num];omega,by rw [Rat.neg_den]⟩
 ·exact⟨by omega,rfl⟩
theorem zw {z:Int} (h:z<0):Xu z=45::Xu (-z):=by
 rw [YB h,Jx (z:=-z) (by omega)];congr 2;omega
theorem Ah {x:Rat} (h:x.num<0):JQ x=45::JQ (-x):=by
 unfold JQ
 rw [Rat.neg_num,Rat.neg_den,zw h]
 split<;>rfl
theorem NY (x:Rat):Lib.hasPrefix (JQ x) [45]=decide (x.num<0):=by
 by_cases h:x.num<0
 ·rw [Ah h];simp [Lib.hasPrefix,List.isPrefixOf,h]
 ·have e:(decide (x.num<0))=false:=by simpa using h
  rw [e]
  unfold JQ
  rw [Jx (by omega)]
  have hd:=Jh x.num.natAbs
  split
  ·exact K5 hd
  ·have hne:=Ki x.num.natAbs
   cases hl:Lib.decDigits x.num.natAbs with
   |nil=>exact absurd hl hne
   |cons c r =>
    have:=K5 hd
    rw [hl] at this
    simpa [Lib.hasPrefix,List.isPrefixOf] using this
theorem jM (x:Rat):Lib.trimPrefix (JQ x) [45]=JQ (Wg x):=by
 unfold Lib.trimPrefix Wg
 rw [NY]
 by_cases h:x.num<0
 ·rw [if_pos (by simpa using h),if_pos h,Ah h];rfl
 ·rw [if_neg (by simpa using h),if_neg h]
theorem LR {l:List UInt8} (h:XF l=true) (hl:l.length≤9):Q8 l<1000000000:=by
 have h1:=Vm h
 have h2:10^l.length≤10^9:=Nat.pow_le_pow_right (by decide) hl
 omega
theorem Ae {w:World} {F:Gs} {x:Rat} (hF:Fits F w) (hl:JL x≤100000):QS Tryz.prog 194 [tx (JQ x)] w F (fun(c:Int×Int×Bool)=>.tuple #[.int .i64 c.1,.int .i64 c.2.1,.bool c.2.2]) (fun c _=>zo x c):=by
 have hlen:=Gy x
 have hlen2:=Gy (Wg x)
 rw [q9] at hlen2
 obtain ⟨an,ad⟩:=y6 x
 have hah:=Bi XS (JQ (Wg x))
 have anT:Xu (Wg x).num=Lib.decDigits x.num.natAbs:=by rw [an,Jx (by omega)];rfl
 refine QS.intro (G:=fun F=>True) Tryz.func194 rfl (by rfl) rfl rfl hF (fun F' hF'=>trivial)<|J_sr<|JS_as rfl<|JS_as rfl<|JS_as rfl<|JS_nt<|J_sr<|JS_mv rfl<|JS_as rfl<|JS_nt<|QG<|J_sr<|JS_mv rfl<|QA (J9 rfl Xh)<|QA (QV rfl rfl rfl)<|QE<|QC ?_
 refine QR rfl (fun hc=>?_) (fun hc=>?_)
 ·
  refine J_sr<|JS_as rfl<|JS_as rfl<|JS_as rfl<|JS_nt<|QT ?_
  exact JY ((0,0,false):Int×Int×Bool) rfl (.tmp rfl (.tmp rfl (.tmp rfl .nil))) (rfl) (fun F hT=>fun h=>by cases h)
 ·
  refine QP<|QC ?_
  refine KZ [(5,_)] [(6,.bool (decide (x.num<0)))] ⟨rfl,trivial⟩ ?_ ?_
  ·
   refine QB<|JS_mv rfl<|QA (J9 rfl Xh)<|QA (QV rfl rfl rfl)<|JS_mv rfl ?_
   refine Qn (t:=17) rfl (fun hb17=>?_) (fun hb17=>?_)
   ·
    refine QL rfl rfl<|JS_mv rfl<|QL rfl rfl<|QA (Vn (i:=0) rfl rfl Xh (by have:=dec_t hb17;omega))<|QL rfl rfl<|QA (QV rfl rfl rfl)<|QA (Qi rfl rfl rfl)<|JS_as rfl<|QE ?_
    exact X0 ⟨rfl,(congrArg (fun b=>some (Value.bool b)) (by have h0:0<(JQ x).length:=(by have:=dec_t hb17;omega);rw [← NY,Wr h0];exact MD rfl)),trivial⟩ subl_r (fun _ h=>h)
   ·
    refine QO rfl rfl rfl<|QO rfl rfl rfl<|QO rfl rfl rfl<|QA (Qh rfl rfl rfl)<|JS_as rfl<|QE ?_
    exact X0 ⟨rfl,(congrArg (fun b=>some (Value.bool b)) (by have h0:(JQ x).length=0:=(by have:=dec_f hb17;omega);rw [← NY,List.eq_nil_of_length_eq_zero h0];rfl)),trivial⟩ subl_r (fun _ h=>h)
  ·
   simp only [List.cons_append,List.nil_append]
   refine KZ [(6,_)] [(5,tx (JQ (Wg x)))] ⟨rfl,trivial⟩ ?_ ?_
   ·
    refine J_sr<|JS_mv rfl<|QE<|QC ?_
    refine QR rfl (fun hc=>?_) (fun hc=>?_)
    ·
     refine QB<|JS_mv rfl<|QA (Kd (1) rfl rfl Xh rfl (by have:=Mc (s:=JQ x) (by rw [NY];exact hc);omega))<|JS_as rfl<|QE ?_
     exact X0 ⟨rfl,(congrArg (fun l=>some (tx l)) (by rw [← jM];unfold Lib.trimPrefix;rw [if_pos (by rw [NY];exact hc)];rfl)),trivial⟩ subl_r (fun _ h=>h)
    ·
     refine QP ?_
     exact X0 ⟨rfl,(congrArg (fun l=>some (tx l)) (by rw [← jM];unfold Lib.trimPrefix;rw [NY,hc];rfl)),trivial⟩ subl_r (fun _ h=>h)
   ·
    simp only [List.cons_append,List.nil_append]
    refine J_sr<|JS_mv rfl<|QI rfl (fun w F hF hT=>BA hF (by omega)) (fun _=>JS_as rfl<|JS_nt<|QG<|J_sr<|JS_mv rfl<|QA (QV rfl rfl rfl)<|JS_mv rfl ?_)
    refine Qn (t:=29) rfl (fun hb29=>?_) (fun hb29=>?_)
    ·
     refine QO rfl rfl rfl<|QO rfl rfl rfl<|QO rfl rfl rfl<|QO rfl rfl rfl<|QO rfl rfl rfl<|QA (Qi rfl rfl rfl)<|JS_nt<|WT rfl<|J_sr<|JS_as rfl<|JS_as rfl<|JS_as rfl<|JS_nt<|QT ?_
     exact JY ((0,0,false):Int×Int×Bool) rfl (.tmp rfl (.tmp rfl (.tmp rfl .nil))) (rfl) (fun F ⟨hT,_⟩=>fun h=>by cases h)
    ·
     refine QL rfl rfl<|JS_mv rfl<|QL rfl rfl<|QA (J9 rfl Xh)<|QL rfl rfl<|JS_mv rfl<|QL rfl rfl<|QA (J6 rfl rfl (by omega))<|QL rfl rfl<|QA (QV rfl rfl rfl)<|QA (Qh rfl rfl rfl)<|QE<|QC ?_
     refine QR rfl (fun hc=>?_) (fun hc=>?_)
     ·
      refine J_sr<|JS_as rfl<|JS_as rfl<|JS_as rfl<|JS_nt<|QT ?_
      exact JY ((0,0,false):Int×Int×Bool) rfl (.tmp rfl (.tmp rfl (.tmp rfl .nil))) (rfl) (fun F ⟨hT,_⟩=>fun h=>by cases h)
     ·
      have k9:ahead XS (JQ (Wg x))≤9∧(JQ (Wg x)).length - ahead XS (JQ (Wg x))≤10:=by
       have ha:=Bi XS (JQ (Wg x))
       first | (simp at hc hb29;omega) | (simp at hc;omega)
      have kt:(JQ (Wg x)).take (ahead XS (JQ (Wg x)))=Xu (Wg x).num:=by
       by_cases hd:(Wg x).den=1
       ·obtain ⟨e1,e2⟩:=Ni hd
        rw [e2,List.take_length,e1]
       ·exact(G7 hd).2.2.1
      have kr:Q8 ((JQ (Wg x)).take (ahead XS (JQ (Wg x))))=x.num.natAbs:=by rw [kt,anT,X1]
      have hnum:x.num.natAbs<1000000000:=by
       have h1:=LR (l:=Xu (Wg x).num) (by rw [anT];exact Jh _) (by rw [← kt,List.length_take];omega)
       rw [anT,X1] at h1;exact h1
      have hdn:x.den<1000000000:=by
       rw [← ad]
       by_cases hd:(Wg x).den=1
       ·omega
       ·obtain ⟨e1,e2,e3,e4⟩:=G7 hd
        have h1:=LR (l:=Lib.decDigits (Wg x).den) (Jh _) (by rw [← e4,List.length_drop];omega)
        rw [X1] at h1;exact h1
      refine QP<|QC<|J_sr<|JS_mv rfl<|JS_mv rfl<|QA (Gx (ahead XS (JQ (Wg x))) rfl rfl Xh rfl (by omega))<|QI rfl (fun w F hF ⟨hT,_⟩=>MU hF (by rw [kt,anT];exact Jh _) (by rw [List.length_take];omega)) (fun _=>?_)
      rw [kr]
      refine JS_as rfl<|JS_as rfl<|QE<|QC ?_
      refine KZ [(6,_),(8,_)] [(9,.int .i64 (x.den:Int))] ⟨rfl,rfl,trivial⟩ ?_ ?_
      ·
       refine J_sr<|JS_mv rfl<|JS_mv rfl<|QA (J9 rfl Xh)<|QA (QV rfl rfl rfl)<|QE<|QC ?_
       refine QR rfl (fun hc=>?_) (fun hc=>?_)
       ·
        have hlt:=dec_t hc
        have hd:¬ (Wg x).den=1:=fun g=>by have:=(Nj (Wg x)).2 g;have:=dec_t hc;omega
        have kd:=(G7 hd).2.2.2
        have kd2:Q8 ((JQ (Wg x)).drop (ahead XS (JQ (Wg x))+1))=x.den:=by rw [kd,X1,ad]
        refine QB<|JS_mv rfl<|JS_mv rfl<|QA (Qu rfl rfl (by omega))<|QA (Kd ((ahead XS (JQ (Wg x))+1)) rfl rfl Xh (congrArg (fun z:Int=>some (Value.int .i64 z)) (by omega)) (by omega))<|QI rfl (fun w F hF ⟨⟨hT,_⟩,_⟩=>MU hF (by rw [kd];exact Jh _) (by rw [List.length_drop];omega)) (fun _=>?_)
        rw [kd2]
        refine JS_as rfl<|QE ?_
        exact X0 ⟨rfl,rfl,rfl,trivial⟩ subl_r (fun _ h=>h.1)
       ·
        have hd:(Wg x).den=1:=(Nj (Wg x)).1 (by have:=dec_f hc;have:=Bi XS (JQ (Wg x));omega)
        refine QP ?_
        exact X0 ⟨rfl,rfl,(congrArg (fun z:Int=>some (Value.int .i64 z)) (by rw [← ad,hd];rfl)),trivial⟩ subl_r (fun _ h=>h)
      ·
       simp only [List.cons_append,List.nil_append]
       have hden:x.den<1000000000:=hdn
       refine KZ [(9,_)] [(8,.int .i64 (x.num))] ⟨rfl,trivial⟩ ?_ ?_
       ·
        refine J_sr<|JS_mv rfl<|QE<|QC ?_
        refine QR rfl (fun hc=>?_) (fun hc=>?_)
        ·
         refine QB<|JS_mv rfl<|QA (J6 rfl rfl (by omega))<|JS_as rfl<|QE ?_
         exact X0 ⟨rfl,(congrArg (fun z:Int=>some (Value.int .i64 z)) (by have:=dec_t hc;omega)),trivial⟩ subl_r (fun _ h=>h)
        ·
         refine QP ?_
         exact X0 ⟨rfl,(congrArg (fun z:Int=>some (Value.int .i64 z)) (by have:=dec_f hc;omega)),trivial⟩ subl_r (fun _ h=>h)
       ·
        simp only [List.cons_append,List.nil_append]
        refine J_sr<|JS_mv rfl<|JS_mv rfl<|JS_as rfl<|JS_as rfl<|JS_as rfl<|JS_nt<|QT ?_
        exact JY ((x.num,(x.den:Int),true):Int×Int×Bool) rfl (.tmp rfl (.tmp rfl (.tmp rfl .nil))) (rfl) (fun F ⟨⟨hT,_⟩,_⟩=>fun _=>⟨rfl,rfl,hnum,hden⟩)
end
section
open Go.RowKit Ig
section
variable {P:Program} {N:Nat} {m:Sl} {S:World→Prop} {ty:TypeId}
theorem gr {T yT:TypeId} {x y:Operand} {a b:Int} (hx:ev m x=some (.int .i64 a)) (hy:ev m y=some (.int .i64 b)) (h:0<b) (h0 : -9223372036854775807≤a) (h1:a≤9223372036854775807):Qt P N m S (.binOp .quo T x y yT) ty (.int .i64 (a.tdiv b)):=by
 have:=Ih (P:=P) (N:=N) (m:=m) (S:=S) (ty:=ty) (T:=T) (yT:=yT) hx hy (by omega)
 have e:=Int.natAbs_tdiv a b
 have e2:a.natAbs.div b.natAbs≤a.natAbs:=Nat.div_le_self _ _
 rw [IntWalk.i64_in _ (by omega)] at this;exact this
end
theorem vu {w:World} {F:Gs} {x y:Int} (hF:Fits F w) (h0:0≤x) (h1:x≤9223372036854775807) (k0:0≤y) (k1:y≤9223372036854775807):QZ Tryz.prog 181 [.int .i64 x,.int .i64 y] w F (.int .i64 (Nat.gcd x.toNat y.toNat:Nat)):=by
 have:=y4 (a:=x.toNat) (b:=y.toNat) hF (by omega) (by omega)
 rw [Int.toNat_of_nonneg h0,Int.toNat_of_nonneg k0] at this;exact this
theorem kK (z:Int):(if 0 - z>z then 0 - z else z)=((z.natAbs:Nat):Int):=by split<;>omega
theorem jt (n:Nat):NU n 1=Lib.decDigits n:=by
 rcases Nat.eq_zero_or_pos n with h | h
 ·subst h;unfold NU hd;rw [if_pos rfl,Zt];rfl
 ·exact Pr h
theorem kE {n:Int} {d:Nat} (h:0<d):n.tdiv ((Nat.gcd n.natAbs d:Nat):Int)=(Rat.divInt n d).num:=by
 rw [(Kh (x:=n) (y:=(d:Int)) (by omega)).1]
 have e:(Nat.gcd n.natAbs d:Nat)=Int.gcd n (d:Int):=by simp [Int.gcd]
 rw [e]
 exact Int.tdiv_eq_ediv_of_dvd (Int.gcd_dvd_left (a:=n) (b:=(d:Int)))
theorem kF {n:Int} {d:Nat} (h:0<d):(d:Int) / ((Nat.gcd n.natAbs d:Nat):Int)=((Rat.divInt n d).den:Int):=by
 rw [(Kh (x:=n) (y:=(d:Int)) (by omega)).2]
 have e:(Nat.gcd n.natAbs d:Nat)=Int.gcd n (d:Int):=by simp [Int.gcd]
 rw [e]
theorem gA (n:Int) {d:Int} (h:d≠0):Rat.divInt (if d<0 then 0 - n else n) (d.natAbs:Int)=Rat.divInt n d:=by
 split
 ·rename_i g
  rw [show((d.natAbs:Nat):Int) = -d by omega,Int.zero_sub];exact Rat.neg_divInt_neg n d
 ·rw [show((d.natAbs:Nat):Int)=d by omega]
theorem kG {n:Int} {d:Nat} (h:0<d) (hn:n.natAbs≤4000000000000000000) (hd:d≤4000000000000000000):(Rat.divInt n d).num.natAbs≤4000000000000000000∧(Rat.divInt n d).den≤4000000000000000000∧0<(Rat.divInt n d).den:=by
 have e1:=kE (n:=n) h
 have e2:=kF (n:=n) h
 have k1:=Int.natAbs_tdiv n ((Nat.gcd n.natAbs d:Nat):Int)
 have k2:n.natAbs.div ((Nat.gcd n.natAbs d:Nat):Int).natAbs≤n.natAbs:=Nat.div_le_self _ _
 have k3:(d:Int) / ((Nat.gcd n.natAbs d:Nat):Int)≤(d:Int):=Int.ediv_le_self _ (by omega)
 have k4:=(Rat.divInt n d).den_pos
 rw [e1] at k1
 omega
theorem jZ (z:Int):(if z<0 then [45] else [])++Lib.decDigits z.natAbs=Xu z:=by
 split
 ·rename_i h;rw [YB h];rfl
 ·rw [Jx (by omega)];rfl
theorem vb {z:Int} (h : -9223372036854775808≤z∧z≤9223372036854775807):sz z≤64:=by
 rw [Xx];omega
theorem gP {w:World} {F:Gs} {num den:Int} (hF:Fits F w) (hn : -9223372036854775808≤num∧num≤9223372036854775807) (hd : -9223372036854775808≤den∧den≤9223372036854775807) (h0:den≠0):QZ Tryz.prog 74 [.int .i64 num,.int .i64 den] w F (tx (JQ (Rat.divInt num den))):=by
 refine QS.intro (G:=fun F=>True) Tryz.func74 rfl (by rfl) rfl rfl hF (fun F' hF'=>trivial)<|J_sr<|JS_as rfl<|JS_nt<|QG ?_
 refine KZ [(0,_),(1,_)] [(20,.bool (decide (num < -4000000000000000000∨num>4000000000000000000∨den < -4000000000000000000∨den>4000000000000000000)))] ⟨rfl,rfl,trivial⟩ ?_ ?_
 ·
  refine QB<|JS_mv rfl<|QA (QV rfl rfl rfl)<|JS_mv rfl ?_
  refine Qn (t:=9) rfl (fun hb9=>?_) (fun hb9=>?_)
  ·
   refine QO rfl rfl rfl<|QO rfl rfl rfl<|QA (Qi rfl rfl rfl)<|JS_mv rfl<|QO rfl rfl rfl<|QO rfl rfl rfl<|QA (Qi rfl rfl rfl)<|JS_mv rfl<|QO rfl rfl rfl<|QO rfl rfl rfl<|QA (Qi rfl rfl rfl)<|QE ?_
   exact X0 ⟨rfl,rfl,(congrArg (fun b=>some (Value.bool b)) (by rw [Bool.eq_iff_iff];simp_all;try omega)),trivial⟩ subl_r (fun _ h=>h)
  ·
   refine QL rfl rfl<|JS_mv rfl<|QL rfl rfl<|QA (QV rfl rfl rfl)<|QA (Qh rfl rfl rfl)<|JS_mv rfl ?_
   refine Qn (t:=13) rfl (fun hb13=>?_) (fun hb13=>?_)
   ·
    refine QO rfl rfl rfl<|QO rfl rfl rfl<|QA (Qi rfl rfl rfl)<|JS_mv rfl<|QO rfl rfl rfl<|QO rfl rfl rfl<|QA (Qi rfl rfl rfl)<|QE ?_
    exact X0 ⟨rfl,rfl,(congrArg (fun b=>some (Value.bool b)) (by rw [Bool.eq_iff_iff];simp_all;try omega)),trivial⟩ subl_r (fun _ h=>h)
   ·
    refine QL rfl rfl<|JS_mv rfl<|QL rfl rfl<|QA (QV rfl rfl rfl)<|QA (Qh rfl rfl rfl)<|JS_mv rfl ?_
    refine Qn (t:=17) rfl (fun hb17=>?_) (fun hb17=>?_)
    ·
     refine QO rfl rfl rfl<|QO rfl rfl rfl<|QA (Qi rfl rfl rfl)<|QE ?_
     exact X0 ⟨rfl,rfl,(congrArg (fun b=>some (Value.bool b)) (by rw [Bool.eq_iff_iff];simp_all;try omega)),trivial⟩ subl_r (fun _ h=>h)
    ·
     refine QL rfl rfl<|JS_mv rfl<|QL rfl rfl<|QA (QV rfl rfl rfl)<|QA (Qh rfl rfl rfl)<|QE ?_
     exact X0 ⟨rfl,rfl,(congrArg (fun b=>some (Value.bool b)) (by rw [Bool.eq_iff_iff];simp_all;try omega)),trivial⟩ subl_r (fun _ h=>h)
 ·
  simp only [List.cons_append,List.nil_append]
  refine QR rfl (fun hc=>?_) (fun hc=>?_)
  ·
   refine J_sr<|JS_mv rfl<|QI rfl (fun w F hF hT=>E6 hF (by omega)) (fun c22=>JS_mv rfl<|QI rfl (fun w F hF ⟨hT,h22⟩=>E6 hF (by omega)) (fun c24=>QI rfl (fun w F hF ⟨⟨hT,h22⟩,h24⟩=>Hm hF (h22) (h24) (h0) (by have:=vb hn;omega) (by have:=vb hd;omega)) (fun _=>JS_as rfl<|JS_nt<|QT ?_)))
   exact QQ (()) rfl (.tmp rfl .nil) (rfl) (fun F ⟨⟨⟨hT,h22⟩,h24⟩,_⟩=>trivial)
  ·
   have hb:¬ (num < -4000000000000000000∨num>4000000000000000000∨den < -4000000000000000000∨den>4000000000000000000):=dec_f hc
   refine QP<|QC ?_
   refine KZ [] [(0,.int .i64 (if den<0 then 0 - num else num)),(1,.int .i64 ((den.natAbs:Nat):Int))] trivial ?_ ?_
   ·
    refine J_sr<|JS_mv rfl<|QA (QV rfl rfl rfl)<|QE<|QC ?_
    refine QR rfl (fun hc=>?_) (fun hc=>?_)
    ·
     refine QB<|JS_mv rfl<|QA (J6 rfl rfl (by omega))<|JS_mv rfl<|QA (J6 rfl rfl (by omega))<|JS_as rfl<|JS_as rfl<|QE ?_
     exact X0 ⟨(congrArg (fun z:Int=>some (Value.int .i64 z)) (if_pos (dec_t hc)).symm),(congrArg (fun z:Int=>some (Value.int .i64 z)) (by have:=dec_t hc;omega)),trivial⟩ subl_r (fun _ h=>h)
    ·
     refine QP ?_
     exact X0 ⟨(congrArg (fun z:Int=>some (Value.int .i64 z)) (if_neg (dec_f hc)).symm),(congrArg (fun z:Int=>some (Value.int .i64 z)) (by have:=dec_f hc;omega)),trivial⟩ subl_r (fun _ h=>h)
   ·
    simp only [List.cons_append,List.nil_append]
    have hq:=gA num h0
    have b1:(if den<0 then 0 - num else num).natAbs≤4000000000000000000:=by split<;>omega
    generalize (if den<0 then 0 - num else num)=n1 at *
    obtain ⟨c1,c2,c3⟩:=kG (n:=n1) (d:=den.natAbs) (by omega) b1 (by omega)
    have hg:0<Nat.gcd n1.natAbs den.natAbs:=Nat.gcd_pos_of_pos_right _ (by omega)
    have lr1:=DV (Rat.divInt n1 (den.natAbs:Int)).num
    have lr2:=T1 (Rat.divInt n1 (den.natAbs:Int)).den
    have lz1:=vb (z:=(Rat.divInt n1 (den.natAbs:Int)).num) (by omega)
    have lz2:=vb (z:=((Rat.divInt n1 (den.natAbs:Int)).den:Int)) (by omega)
    have e1:=kE (n:=n1) (d:=den.natAbs) (by omega)
    have e2:=kF (n:=n1) (d:=den.natAbs) (by omega)
    refine J_sr<|JS_mv rfl<|JS_mv rfl<|QA (J6 rfl rfl (by omega))<|QA (y9 rfl rfl) ?_
    rw [kK]
    refine JS_mv rfl<|QI rfl (fun w F hF hT=>vu hF (by omega) (by omega) (by omega) (by omega)) (fun _=>JS_as rfl<|JS_nt<|QG<|JN subl_r mixed (by kernel_rfl) ?_)
    simp only [Int.toNat_natCast]
    refine QK (QD rfl)<|QK (QD rfl)<|QK (gr rfl rfl (by omega) (by omega) (by omega)) ?_
    rw [e1]
    refine QK (QD rfl)<|QK (QD rfl)<|QK (Wb rfl rfl (by omega) (by omega) (by omega)) ?_
    rw [e2]
    refine QK (QF rfl)<|QK (QF rfl)<|Q4<|QC<|J_sr<|JS_as rfl<|QE<|QC ?_
    refine KZ [(0,_),(1,_)] [(6,tx (if(Rat.divInt n1 (den.natAbs:Int)).num<0 then [45] else []))] ⟨rfl,rfl,trivial⟩ ?_ ?_
    ·
     refine J_sr<|JS_mv rfl<|QA (QV rfl rfl rfl)<|QE<|QC ?_
     refine QR rfl (fun hc=>?_) (fun hc=>?_)
     ·
      refine QB<|JS_as rfl<|QE ?_
      exact X0 ⟨rfl,rfl,(congrArg (fun l=>some (tx l)) (if_pos (dec_t hc)).symm),trivial⟩ subl_r (fun _ h=>h)
     ·
      refine QP ?_
      exact X0 ⟨rfl,rfl,(congrArg (fun l=>some (tx l)) (if_neg (dec_f hc)).symm),trivial⟩ subl_r (fun _ h=>h)
    ·
     simp only [List.cons_append,List.nil_append]
     refine J_sr<|JS_mv rfl<|JS_mv rfl<|JS_mv rfl<|QA (J6 rfl rfl (by omega))<|QA (y9 rfl rfl) ?_
     rw [kK]
     refine QI rfl (fun w F hF ⟨hT,_⟩=>NX hF (least:=1) (by omega) (by omega) (by omega)) (fun _=>?_)
     simp only [Int.toNat_natCast,jt]
     refine QA (Zc rfl rfl (by have e:=congrArg List.length (jZ (Rat.divInt n1 (den.natAbs:Int)).num);rw [List.length_append] at e;omega))<|JS_as rfl<|JS_nt<|QG<|QG<|QB ?_
     rw [jZ]
     refine JS_mv rfl<|QA (QV rfl rfl rfl)<|QE<|QC ?_
     refine QR rfl (fun hc=>?_) (fun hc=>?_)
     ·
      have hd1:¬ ((Rat.divInt n1 (den.natAbs:Int)).den:Int)=1:=by have:=dec_t hc;omega
      refine QB<|JS_mv rfl<|QA (Zc rfl rfl (by simp only [List.length_append,List.length_cons,List.length_nil];omega))<|JS_mv rfl<|QI rfl (fun w F hF ⟨⟨hT,_⟩,_⟩=>NX hF (least:=1) (by omega) (by omega) (by omega)) (fun _=>?_)
      simp only [Int.toNat_natCast,jt]
      refine QA (Zc rfl rfl (by simp only [List.length_append,List.length_cons,List.length_nil];omega))<|JS_as rfl<|JS_nt<|J_sr<|JS_mv rfl<|JS_as rfl<|JS_nt<|QT ?_
      exact QQ (()) rfl (.tmp rfl .nil) (by rw [← hq];exact congrArg (fun l=>tx l) (by rw [← CW hd1,Ao])) (fun F ⟨⟨⟨hT,_⟩,_⟩,_⟩=>trivial)
     ·
      have hd1:((Rat.divInt n1 (den.natAbs:Int)).den:Int)=1:=by have:=dec_f hc;omega
      refine QP<|QC<|J_sr<|JS_mv rfl<|JS_as rfl<|JS_nt<|QT ?_
      exact QQ (()) rfl (.tmp rfl .nil) (by rw [← hq];exact congrArg (fun l=>tx l) (zV hd1).symm) (fun F ⟨⟨hT,_⟩,_⟩=>trivial)
end
section
open Go.RowKit Ig
theorem ja (x:Rat):x.num<0↔x<0:=by rw [← Rat.not_le,← Rat.num_nonneg];omega
theorem Cq (x:Rat):xX (JQ x)=JQ (-x):=by
 unfold xX NW
 rw [NY]
 by_cases h0:JQ x=[48]
 ·rw [if_pos h0]
  have hx:x=0:=by
   have hv:=Yo x.num
   by_cases hd:x.den=1
   ·rw [(Ni hd).1] at h0
    rw [h0] at hv
    have:x.num=0:=by rw [← hv];rfl
    exact Rat.num_eq_zero.1 this
   ·have:=(G7 hd).2.2.1
    have h1:=(G7 hd).2.1
    rw [h0] at h1
    have h2:=(G7 hd).1
    have h3:0<(Xu x.num).length:=by
     rcases Nat.eq_zero_or_pos (Xu x.num).length with g | g
     ·have e:=List.eq_nil_of_length_eq_zero g
      unfold Xu at e
      rcases Int.lt_or_le x.num 0 with q | q
      ·have:=YB q;unfold Xu at this;rw [this] at e;cases e
      ·have:=Jx q;unfold Xu at this;rw [this] at e;exact absurd e (Ki _)
     ·exact g
    rw [h0] at h2
    simp at h1;omega
  subst hx
  have e:(-0:Rat)=0:=by decide
  rw [e,if_neg (by decide),if_pos rfl]
 ·rw [if_neg h0]
  by_cases hn:x.num<0
  ·rw [if_pos (show(decide (x.num<0))=true by simpa using hn),if_pos (by decide),Ah hn];rfl
  ·rw [if_neg (show ¬ (decide (x.num<0))=true by simpa using hn),if_neg (by decide),if_neg (by decide)]
   have h1:(-x).num<0:=by
    rw [Rat.neg_num]
    have:x.num≠0:=by
     intro e
     have:=Rat.num_eq_zero.1 e
     subst this
     exact h0 PI
    omega
   have:=Ah h1
   rw [Rat.neg_neg] at this
   exact this.symm
theorem LA (x:Rat):NW (JQ x)=EP x.num:=by
 unfold NW
 rw [NY]
 by_cases h0:x=0
 ·subst h0;rw [if_pos PI];rfl
 ·have hn:x.num≠0:=fun e=>h0 (Rat.num_eq_zero.1 e)
  have h1:JQ x≠[48]:=by
   intro e
   have h2:=Cq x
   unfold xX NW at h2
   rw [if_pos e,if_neg (by decide),if_pos rfl,e] at h2
   by_cases hd:x.den=1
   ·have hv:=Yo x.num
    rw [← (Ni hd).1,e] at hv
    exact hn hv.symm
   ·have:=(G7 hd).2.2.1
    have hv:=Yo x.num
    rw [← this,e] at hv
    have h3:=(G7 hd).2.1
    rw [e] at h3
    have h4:ahead XS [48]=1:=by decide
    rw [h4] at h3
    exact absurd h3 (by decide)
  rw [if_neg h1]
  unfold EP
  by_cases g:x.num<0
  ·rw [if_pos (show(decide (x.num<0))=true by simpa using g),if_pos g]
  ·rw [if_neg (show ¬ (decide (x.num<0))=true by simpa using g),if_neg g,if_neg hn]
theorem OV (x:Rat):x.num / (x.den:Int)=x.floor:=(Rat.floor_def x).symm
theorem yM {x:Rat} (h:x.den=1):x.floor=x.num:=by rw [← OV,h];exact Int.ediv_one _
theorem inv_divInt {x:Rat} (_:x.num≠0):Rat.divInt x.den x.num=x⁻¹:=(Rat.inv_def x).symm
theorem vf (x:Rat):EP x.num=if x<0 then -1 else if x=0 then 0 else 1:=by
 unfold EP
 by_cases h:x<0
 ·rw [if_pos h,if_pos ((ja x).2 h)]
 ·rw [if_neg h,if_neg (fun g=>h ((ja x).1 g))]
  by_cases h0:x=0
  ·rw [if_pos h0,if_pos (Rat.num_eq_zero.2 h0)]
  ·rw [if_neg h0,if_neg (fun g=>h0 (Rat.num_eq_zero.1 g))]
theorem gH (x y:Rat):EP (x - y).num=Vg x y:=by
 rw [vf]
 unfold Vg
 have h1:(x - y<0)↔x<y:=by grind
 have h2:(x - y=0)↔x=y:=by grind
 simp only [h1,h2]
theorem qC (n:Int):JQ (n:Rat)=Xu n:=by unfold JQ;rw [if_pos (by simp)];simp
theorem xG {w:World} {F:Gs} {x y:Rat} (hF:Fits F w) (hx:JL x≤100000) (hy:JL y≤100000):QZ Tryz.prog 92 [tx (JQ x),tx (JQ y)] w F (tx (JQ (x+y))):=by
 refine QS.intro (G:=fun F=>True) Tryz.func92 rfl (by rfl) rfl rfl hF (fun F' hF'=>trivial)<|J_sr<|JS_as rfl<|JS_nt<|J_sr<|JS_mv rfl<|QI rfl (fun w F hF hT=>Ae hF (hx)) (fun c17=>JK _ (fun w F hF ⟨hT,h17⟩=>h17) (fun p17=>JS_mv rfl<|QA (QM rfl rfl)<|QA (QM rfl rfl)<|QA (QM rfl rfl)<|JS_as rfl<|JS_as rfl<|JS_as rfl<|JS_nt<|J_sr<|JS_mv rfl<|QI rfl (fun w F hF ⟨hT,h17⟩=>Ae hF (hy)) (fun c23=>JK _ (fun w F hF ⟨⟨hT,h17⟩,h23⟩=>h23) (fun p23=>?_))))
 refine JS_mv rfl<|QA (QM rfl rfl)<|QA (QM rfl rfl)<|QA (QM rfl rfl)<|JS_as rfl<|JS_as rfl<|JS_as rfl<|JS_nt<|QG<|J_sr<|JS_mv rfl<|JS_mv rfl ?_
 refine Qn (t:=28) rfl (fun hb28=>?_) (fun hb28=>?_)
 ·
  refine QL rfl rfl<|JS_mv rfl<|QA (Qi rfl rfl rfl)<|QE<|QC ?_
  refine QR rfl (fun hc=>?_) (fun hc=>?_)
  ·
   refine QG ?_
   obtain ⟨a1,a2,a3,a4⟩:=p17 hb28
   obtain ⟨b1,b2,b3,b4⟩:=p23 hc
   have xd:=x.den_pos
   have yd:=y.den_pos
   have e1:(x.num*y.den).natAbs<1000000000*1000000000:=by rw [Int.natAbs_mul];exact Nat.mul_lt_mul_of_lt_of_lt a3 (by omega)
   have e2:(y.num*x.den).natAbs<1000000000*1000000000:=by rw [Int.natAbs_mul];exact Nat.mul_lt_mul_of_lt_of_lt b3 (by omega)
   have e3:(x.num*y.num).natAbs<1000000000*1000000000:=by rw [Int.natAbs_mul];exact Nat.mul_lt_mul_of_lt_of_lt a3 b3
   have e4:((x.den:Int)*y.den).natAbs<1000000000*1000000000:=by rw [Int.natAbs_mul];exact Nat.mul_lt_mul_of_lt_of_lt (by omega) (by omega)
   have e5:(x.den:Int)*y.den≠0:=by have h1:=Yi x;have h2:=Yi y;exact Int.mul_ne_zero h1 h2
   rw [a1,a2,b1,b2]
   refine QB<|JS_mv rfl<|JS_mv rfl<|QA (Ga rfl rfl (by omega))<|JS_mv rfl<|JS_mv rfl<|QA (Ga rfl rfl (by omega))<|QA (Qu rfl rfl (by omega))<|JS_mv rfl<|JS_mv rfl<|QA (Ga rfl rfl (by omega))<|QI rfl (fun w F hF ⟨⟨hT,h17⟩,h23⟩=>gP hF (by omega) (by omega) (e5)) (fun _=>JS_as rfl<|JS_nt<|QT ?_)
   exact QQ (()) rfl (.tmp rfl .nil) (by rw [W3]) (fun F ⟨⟨⟨hT,h17⟩,h23⟩,_⟩=>trivial)
  ·
   refine QP<|QC<|QG ?_
   have s1:=Jf x
   have s2:=Jb x
   have s3:=Jf y
   have s4:=Jb y
   have m1:=Ve x.num y.den
   have m2:=Ve y.num x.den
   have m3:=Ve (x.den:Int) y.den
   have m4:=Ve x.num y.num
   have m5:=UK (x.num*y.den) (y.num*x.den)
   have e5:(x.den:Int)*y.den≠0:=Int.mul_ne_zero (Yi x) (Yi y)
   refine QB<|JS_mv rfl<|QI rfl (fun w F hF ⟨⟨hT,h17⟩,h23⟩=>Wn hF (hx)) (fun c44=>JS_mv rfl<|QA (QM rfl rfl)<|QA (QM rfl rfl)<|Qb Z6 (fun b11=>Qb Z6 (fun b12=>QN (vs:=[_,_]) rfl rfl rfl JH rfl (.there .here) (.here (.here .nil)) ⟨rfl,rfl,trivial⟩<|QN (vs:=[_,_]) rfl rfl rfl JH rfl .here (.here (.here .nil)) ⟨rfl,rfl,trivial⟩<|JS_nt<|J_sr<|JS_mv rfl<|QI rfl (fun w F hF ⟨⟨⟨hT,h17⟩,h23⟩,h44⟩=>Wn hF (hy)) (fun c49=>JS_mv rfl<|QA (QM rfl rfl)<|QA (QM rfl rfl)<|Qb Z6 (fun b13=>Qb Z6 (fun b14=>QN (vs:=[_,_]) rfl rfl rfl JH rfl (.there .here) (.here (.here .nil)) ⟨rfl,rfl,trivial⟩<|QN (vs:=[_,_]) rfl rfl rfl JH rfl .here (.here (.here .nil)) ⟨rfl,rfl,trivial⟩<|QE<|QC ?_))))))
   refine QG<|JN subl_r mixed (by kernel_rfl)<|QK (QJ (vs:=[_,_]) rfl JH (.there (.there (.there .here))) (.here (.here .nil)) rfl)<|QK (QJ (vs:=[_,_]) rfl JH .here (.here (.here .nil)) rfl)<|QY rfl (fun w F hF ⟨⟨⟨⟨hT,h17⟩,h23⟩,h44⟩,h49⟩=>Gn hF (h44.1) (h49.2) (by omega) (by omega)) (fun c54=>QK (QJ (vs:=[_,_]) rfl JH (.there .here) (.here (.here .nil)) rfl)<|QK (QJ (vs:=[_,_]) rfl JH (.there (.there .here)) (.here (.here .nil)) rfl)<|QY rfl (fun w F hF ⟨⟨⟨⟨⟨hT,h17⟩,h23⟩,h44⟩,h49⟩,h54⟩=>Gn hF (h49.1) (h44.2) (by omega) (by omega)) (fun c57=>QY rfl (fun w F hF ⟨⟨⟨⟨⟨⟨hT,h17⟩,h23⟩,h44⟩,h49⟩,h54⟩,h57⟩=>zS hF (h54) (h57) (by omega) (by omega)) (fun c58=>QK (QJ (vs:=[_,_]) rfl JH (.there (.there .here)) (.here (.here .nil)) rfl)<|QK (QJ (vs:=[_,_]) rfl JH .here (.here (.here .nil)) rfl)<|QY rfl (fun w F hF ⟨⟨⟨⟨⟨⟨⟨hT,h17⟩,h23⟩,h44⟩,h49⟩,h54⟩,h57⟩,h58⟩=>Gn hF (h44.2) (h49.2) (by omega) (by omega)) (fun c61=>QY rfl (fun w F hF ⟨⟨⟨⟨⟨⟨⟨⟨hT,h17⟩,h23⟩,h44⟩,h49⟩,h54⟩,h57⟩,h58⟩,h61⟩=>Hm hF (h58) (h61) (e5) (by omega) (by omega)) (fun _=>QK (QF rfl)<|Q4<|QC<|QT ?_)))))
   exact QQ (()) rfl (.tmp rfl .nil) (by rw [W3]) (fun F ⟨⟨⟨⟨⟨⟨⟨⟨⟨hT,h17⟩,h23⟩,h44⟩,h49⟩,h54⟩,h57⟩,h58⟩,h61⟩,_⟩=>trivial)
 ·
  refine QO rfl rfl rfl<|QA (Qh rfl rfl rfl)<|JS_nt<|Z8 rfl<|QP<|QC<|QG ?_
  have s1:=Jf x
  have s2:=Jb x
  have s3:=Jf y
  have s4:=Jb y
  have m1:=Ve x.num y.den
  have m2:=Ve y.num x.den
  have m3:=Ve (x.den:Int) y.den
  have m4:=Ve x.num y.num
  have m5:=UK (x.num*y.den) (y.num*x.den)
  have e5:(x.den:Int)*y.den≠0:=Int.mul_ne_zero (Yi x) (Yi y)
  refine QB<|JS_mv rfl<|QI rfl (fun w F hF ⟨⟨hT,h17⟩,h23⟩=>Wn hF (hx)) (fun c44=>JS_mv rfl<|QA (QM rfl rfl)<|QA (QM rfl rfl)<|Qb Z6 (fun b11=>Qb Z6 (fun b12=>QN (vs:=[_,_]) rfl rfl rfl JH rfl (.there .here) (.here (.here .nil)) ⟨rfl,rfl,trivial⟩<|QN (vs:=[_,_]) rfl rfl rfl JH rfl .here (.here (.here .nil)) ⟨rfl,rfl,trivial⟩<|JS_nt<|J_sr<|JS_mv rfl<|QI rfl (fun w F hF ⟨⟨⟨hT,h17⟩,h23⟩,h44⟩=>Wn hF (hy)) (fun c49=>JS_mv rfl<|QA (QM rfl rfl)<|QA (QM rfl rfl)<|Qb Z6 (fun b13=>Qb Z6 (fun b14=>QN (vs:=[_,_]) rfl rfl rfl JH rfl (.there .here) (.here (.here .nil)) ⟨rfl,rfl,trivial⟩<|QN (vs:=[_,_]) rfl rfl rfl JH rfl .here (.here (.here .nil)) ⟨rfl,rfl,trivial⟩<|QE<|QC ?_))))))
  refine QG<|JN subl_r mixed (by kernel_rfl)<|QK (QJ (vs:=[_,_]) rfl JH (.there (.there (.there .here))) (.here (.here .nil)) rfl)<|QK (QJ (vs:=[_,_]) rfl JH .here (.here (.here .nil)) rfl)<|QY rfl (fun w F hF ⟨⟨⟨⟨hT,h17⟩,h23⟩,h44⟩,h49⟩=>Gn hF (h44.1) (h49.2) (by omega) (by omega)) (fun c54=>QK (QJ (vs:=[_,_]) rfl JH (.there .here) (.here (.here .nil)) rfl)<|QK (QJ (vs:=[_,_]) rfl JH (.there (.there .here)) (.here (.here .nil)) rfl)<|QY rfl (fun w F hF ⟨⟨⟨⟨⟨hT,h17⟩,h23⟩,h44⟩,h49⟩,h54⟩=>Gn hF (h49.1) (h44.2) (by omega) (by omega)) (fun c57=>QY rfl (fun w F hF ⟨⟨⟨⟨⟨⟨hT,h17⟩,h23⟩,h44⟩,h49⟩,h54⟩,h57⟩=>zS hF (h54) (h57) (by omega) (by omega)) (fun c58=>QK (QJ (vs:=[_,_]) rfl JH (.there (.there .here)) (.here (.here .nil)) rfl)<|QK (QJ (vs:=[_,_]) rfl JH .here (.here (.here .nil)) rfl)<|QY rfl (fun w F hF ⟨⟨⟨⟨⟨⟨⟨hT,h17⟩,h23⟩,h44⟩,h49⟩,h54⟩,h57⟩,h58⟩=>Gn hF (h44.2) (h49.2) (by omega) (by omega)) (fun c61=>QY rfl (fun w F hF ⟨⟨⟨⟨⟨⟨⟨⟨hT,h17⟩,h23⟩,h44⟩,h49⟩,h54⟩,h57⟩,h58⟩,h61⟩=>Hm hF (h58) (h61) (e5) (by omega) (by omega)) (fun _=>QK (QF rfl)<|Q4<|QC<|QT ?_)))))
  exact QQ (()) rfl (.tmp rfl .nil) (by rw [W3]) (fun F ⟨⟨⟨⟨⟨⟨⟨⟨⟨hT,h17⟩,h23⟩,h44⟩,h49⟩,h54⟩,h57⟩,h58⟩,h61⟩,_⟩=>trivial)
theorem RI {w:World} {F:Gs} {x y:Rat} (hF:Fits F w) (hx:JL x≤100000) (hy:JL y≤100000):QZ Tryz.prog 93 [tx (JQ x),tx (JQ y)] w F (tx (JQ (x*y))):=by
 refine QS.intro (G:=fun F=>True) Tryz.func93 rfl (by rfl) rfl rfl hF (fun F' hF'=>trivial)<|J_sr<|JS_as rfl<|JS_nt<|J_sr<|JS_mv rfl<|QI rfl (fun w F hF hT=>Ae hF (hx)) (fun c17=>JK _ (fun w F hF ⟨hT,h17⟩=>h17) (fun p17=>JS_mv rfl<|QA (QM rfl rfl)<|QA (QM rfl rfl)<|QA (QM rfl rfl)<|JS_as rfl<|JS_as rfl<|JS_as rfl<|JS_nt<|J_sr<|JS_mv rfl<|QI rfl (fun w F hF ⟨hT,h17⟩=>Ae hF (hy)) (fun c23=>JK _ (fun w F hF ⟨⟨hT,h17⟩,h23⟩=>h23) (fun p23=>?_))))
 refine JS_mv rfl<|QA (QM rfl rfl)<|QA (QM rfl rfl)<|QA (QM rfl rfl)<|JS_as rfl<|JS_as rfl<|JS_as rfl<|JS_nt<|QG<|J_sr<|JS_mv rfl<|JS_mv rfl ?_
 refine Qn (t:=28) rfl (fun hb28=>?_) (fun hb28=>?_)
 ·
  refine QL rfl rfl<|JS_mv rfl<|QA (Qi rfl rfl rfl)<|QE<|QC ?_
  refine QR rfl (fun hc=>?_) (fun hc=>?_)
  ·
   refine QG ?_
   obtain ⟨a1,a2,a3,a4⟩:=p17 hb28
   obtain ⟨b1,b2,b3,b4⟩:=p23 hc
   have xd:=x.den_pos
   have yd:=y.den_pos
   have e1:(x.num*y.den).natAbs<1000000000*1000000000:=by rw [Int.natAbs_mul];exact Nat.mul_lt_mul_of_lt_of_lt a3 (by omega)
   have e2:(y.num*x.den).natAbs<1000000000*1000000000:=by rw [Int.natAbs_mul];exact Nat.mul_lt_mul_of_lt_of_lt b3 (by omega)
   have e3:(x.num*y.num).natAbs<1000000000*1000000000:=by rw [Int.natAbs_mul];exact Nat.mul_lt_mul_of_lt_of_lt a3 b3
   have e4:((x.den:Int)*y.den).natAbs<1000000000*1000000000:=by rw [Int.natAbs_mul];exact Nat.mul_lt_mul_of_lt_of_lt (by omega) (by omega)
   have e5:(x.den:Int)*y.den≠0:=by have h1:=Yi x;have h2:=Yi y;exact Int.mul_ne_zero h1 h2
   rw [a1,a2,b1,b2]
   refine QB<|JS_mv rfl<|JS_mv rfl<|QA (Ga rfl rfl (by omega))<|JS_mv rfl<|JS_mv rfl<|QA (Ga rfl rfl (by omega))<|QI rfl (fun w F hF ⟨⟨hT,h17⟩,h23⟩=>gP hF (by omega) (by omega) (e5)) (fun _=>JS_as rfl<|JS_nt<|QT ?_)
   exact QQ (()) rfl (.tmp rfl .nil) (by rw [Wv]) (fun F ⟨⟨⟨hT,h17⟩,h23⟩,_⟩=>trivial)
  ·
   refine QP<|QC<|QG ?_
   have s1:=Jf x
   have s2:=Jb x
   have s3:=Jf y
   have s4:=Jb y
   have m1:=Ve x.num y.den
   have m2:=Ve y.num x.den
   have m3:=Ve (x.den:Int) y.den
   have m4:=Ve x.num y.num
   have m5:=UK (x.num*y.den) (y.num*x.den)
   have e5:(x.den:Int)*y.den≠0:=Int.mul_ne_zero (Yi x) (Yi y)
   refine QB<|JS_mv rfl<|QI rfl (fun w F hF ⟨⟨hT,h17⟩,h23⟩=>Wn hF (hx)) (fun c40=>JS_mv rfl<|QA (QM rfl rfl)<|QA (QM rfl rfl)<|Qb Z6 (fun b11=>Qb Z6 (fun b12=>QN (vs:=[_,_]) rfl rfl rfl JH rfl (.there .here) (.here (.here .nil)) ⟨rfl,rfl,trivial⟩<|QN (vs:=[_,_]) rfl rfl rfl JH rfl .here (.here (.here .nil)) ⟨rfl,rfl,trivial⟩<|JS_nt<|J_sr<|JS_mv rfl<|QI rfl (fun w F hF ⟨⟨⟨hT,h17⟩,h23⟩,h40⟩=>Wn hF (hy)) (fun c45=>JS_mv rfl<|QA (QM rfl rfl)<|QA (QM rfl rfl)<|Qb Z6 (fun b13=>Qb Z6 (fun b14=>QN (vs:=[_,_]) rfl rfl rfl JH rfl (.there .here) (.here (.here .nil)) ⟨rfl,rfl,trivial⟩<|QN (vs:=[_,_]) rfl rfl rfl JH rfl .here (.here (.here .nil)) ⟨rfl,rfl,trivial⟩<|QE<|QC ?_))))))
   refine QG<|JN subl_r mixed (by kernel_rfl)<|QK (QJ (vs:=[_,_]) rfl JH (.there (.there (.there .here))) (.here (.here .nil)) rfl)<|QK (QJ (vs:=[_,_]) rfl JH (.there .here) (.here (.here .nil)) rfl)<|QY rfl (fun w F hF ⟨⟨⟨⟨hT,h17⟩,h23⟩,h40⟩,h45⟩=>Gn hF (h40.1) (h45.1) (by omega) (by omega)) (fun c50=>QK (QJ (vs:=[_,_]) rfl JH (.there (.there .here)) (.here (.here .nil)) rfl)<|QK (QJ (vs:=[_,_]) rfl JH .here (.here (.here .nil)) rfl)<|QY rfl (fun w F hF ⟨⟨⟨⟨⟨hT,h17⟩,h23⟩,h40⟩,h45⟩,h50⟩=>Gn hF (h40.2) (h45.2) (by omega) (by omega)) (fun c53=>QY rfl (fun w F hF ⟨⟨⟨⟨⟨⟨hT,h17⟩,h23⟩,h40⟩,h45⟩,h50⟩,h53⟩=>Hm hF (h50) (h53) (e5) (by omega) (by omega)) (fun _=>QK (QF rfl)<|Q4<|QC<|QT ?_)))
   exact QQ (()) rfl (.tmp rfl .nil) (by rw [Wv]) (fun F ⟨⟨⟨⟨⟨⟨⟨hT,h17⟩,h23⟩,h40⟩,h45⟩,h50⟩,h53⟩,_⟩=>trivial)
 ·
  refine QO rfl rfl rfl<|QA (Qh rfl rfl rfl)<|JS_nt<|Z8 rfl<|QP<|QC<|QG ?_
  have s1:=Jf x
  have s2:=Jb x
  have s3:=Jf y
  have s4:=Jb y
  have m1:=Ve x.num y.den
  have m2:=Ve y.num x.den
  have m3:=Ve (x.den:Int) y.den
  have m4:=Ve x.num y.num
  have m5:=UK (x.num*y.den) (y.num*x.den)
  have e5:(x.den:Int)*y.den≠0:=Int.mul_ne_zero (Yi x) (Yi y)
  refine QB<|JS_mv rfl<|QI rfl (fun w F hF ⟨⟨hT,h17⟩,h23⟩=>Wn hF (hx)) (fun c40=>JS_mv rfl<|QA (QM rfl rfl)<|QA (QM rfl rfl)<|Qb Z6 (fun b11=>Qb Z6 (fun b12=>QN (vs:=[_,_]) rfl rfl rfl JH rfl (.there .here) (.here (.here .nil)) ⟨rfl,rfl,trivial⟩<|QN (vs:=[_,_]) rfl rfl rfl JH rfl .here (.here (.here .nil)) ⟨rfl,rfl,trivial⟩<|JS_nt<|J_sr<|JS_mv rfl<|QI rfl (fun w F hF ⟨⟨⟨hT,h17⟩,h23⟩,h40⟩=>Wn hF (hy)) (fun c45=>JS_mv rfl<|QA (QM rfl rfl)<|QA (QM rfl rfl)<|Qb Z6 (fun b13=>Qb Z6 (fun b14=>QN (vs:=[_,_]) rfl rfl rfl JH rfl (.there .here) (.here (.here .nil)) ⟨rfl,rfl,trivial⟩<|QN (vs:=[_,_]) rfl rfl rfl JH rfl .here (.here (.here .nil)) ⟨rfl,rfl,trivial⟩<|QE<|QC ?_))))))
  refine QG<|JN subl_r mixed (by kernel_rfl)<|QK (QJ (vs:=[_,_]) rfl JH (.there (.there (.there .here))) (.here (.here .nil)) rfl)<|QK (QJ (vs:=[_,_]) rfl JH (.there .here) (.here (.here .nil)) rfl)<|QY rfl (fun w F hF ⟨⟨⟨⟨hT,h17⟩,h23⟩,h40⟩,h45⟩=>Gn hF (h40.1) (h45.1) (by omega) (by omega)) (fun c50=>QK (QJ (vs:=[_,_]) rfl JH (.there (.there .here)) (.here (.here .nil)) rfl)<|QK (QJ (vs:=[_,_]) rfl JH .here (.here (.here .nil)) rfl)<|QY rfl (fun w F hF ⟨⟨⟨⟨⟨hT,h17⟩,h23⟩,h40⟩,h45⟩,h50⟩=>Gn hF (h40.2) (h45.2) (by omega) (by omega)) (fun c53=>QY rfl (fun w F hF ⟨⟨⟨⟨⟨⟨hT,h17⟩,h23⟩,h40⟩,h45⟩,h50⟩,h53⟩=>Hm hF (h50) (h53) (e5) (by omega) (by omega)) (fun _=>QK (QF rfl)<|Q4<|QC<|QT ?_)))
  exact QQ (()) rfl (.tmp rfl .nil) (by rw [Wv]) (fun F ⟨⟨⟨⟨⟨⟨⟨hT,h17⟩,h23⟩,h40⟩,h45⟩,h50⟩,h53⟩,_⟩=>trivial)
theorem xE {w:World} {F:Gs} {x y:Rat} (hF:Fits F w) (hx:JL x≤100000) (hy:JL y≤100000):QZ Tryz.prog 32 [tx (JQ x),tx (JQ y)] w F (tx (JQ (x - y))):=by
 have hly:=Gy y
 refine QS.intro (G:=fun F=>True) Tryz.func32 rfl (by rfl) rfl rfl hF (fun F' hF'=>trivial)<|J_sr<|JS_as rfl<|JS_nt<|J_sr<|JS_mv rfl<|JS_mv rfl<|QI rfl (fun w F hF hT=>y2 hF (by omega)) (fun _=>?_)
 rw [Cq]
 refine QI rfl (fun w F hF ⟨hT,_⟩=>xG hF (hx) (by rw [Hv];exact hy)) (fun _=>JS_as rfl<|JS_nt<|QT ?_)
 exact QQ (()) rfl (.tmp rfl .nil) (by rw [Rat.sub_eq_add_neg]) (fun F ⟨⟨hT,_⟩,_⟩=>trivial)
theorem yz {w:World} {F:Gs} {x:Rat} (hF:Fits F w) (h0:x.num≠0) (hx:JL x≤100000):QZ Tryz.prog 127 [tx (JQ x)] w F (tx (JQ x⁻¹)):=by
 have s1:=Jf x
 have s2:=Jb x
 refine QS.intro (G:=fun F=>True) Tryz.func127 rfl (by rfl) rfl rfl hF (fun F' hF'=>trivial)<|J_sr<|JS_as rfl<|JS_nt<|J_sr<|JS_mv rfl<|QI rfl (fun w F hF hT=>Wn hF (hx)) (fun c7=>JS_mv rfl<|QA (QM rfl rfl)<|QA (QM rfl rfl)<|Qb Z6 (fun b3=>Qb Z6 (fun b4=>QN (vs:=[_,_]) rfl rfl rfl JH rfl (.there .here) (.here (.here .nil)) ⟨rfl,rfl,trivial⟩<|QN (vs:=[_,_]) rfl rfl rfl JH rfl .here (.here (.here .nil)) ⟨rfl,rfl,trivial⟩<|JS_nt<|J_sr<|QA (QJ (vs:=[_,_]) rfl JH .here (.here (.here .nil)) rfl)<|QA (QJ (vs:=[_,_]) rfl JH (.there .here) (.here (.here .nil)) rfl)<|QI rfl (fun w F hF ⟨hT,h7⟩=>Hm hF (h7.2) (h7.1) (h0) (by omega) (by omega)) (fun _=>JS_as rfl ?_))))
 refine JS_nt<|QT ?_
 exact QQ (()) rfl (.tmp rfl .nil) (by rw [inv_divInt h0]) (fun F ⟨⟨hT,h7⟩,_⟩=>trivial)
theorem y5 {w:World} {F:Gs} {x y:Rat} (hF:Fits F w) (h0:y.num≠0) (hx:JL x≤100000) (hy:JL y≤100000):QZ Tryz.prog 37 [tx (JQ x),tx (JQ y)] w F (tx (JQ (x / y))):=by
 refine QS.intro (G:=fun F=>True) Tryz.func37 rfl (by rfl) rfl rfl hF (fun F' hF'=>trivial)<|J_sr<|JS_as rfl<|JS_nt<|J_sr<|JS_mv rfl<|JS_mv rfl<|QI rfl (fun w F hF hT=>yz hF (h0) (hy)) (fun _=>QI rfl (fun w F hF ⟨hT,_⟩=>RI hF (hx) (by have:=AU h0;omega)) (fun _=>JS_as rfl<|JS_nt<|QT ?_))
 exact QQ (()) rfl (.tmp rfl .nil) (by rw [Rat.div_def]) (fun F ⟨⟨hT,_⟩,_⟩=>trivial)
theorem LS {w:World} {F:Gs} {x y:Rat} (hF:Fits F w) (hx:JL x≤30000) (hy:JL y≤30000):QZ Tryz.prog 30 [tx (JQ x),tx (JQ y)] w F (.int .i64 (Vg x y)):=by
 refine QS.intro (G:=fun F=>True) Tryz.func30 rfl (by rfl) rfl rfl hF (fun F' hF'=>trivial)<|J_sr<|JS_as rfl<|JS_nt<|J_sr<|JS_mv rfl<|JS_mv rfl<|QI rfl (fun w F hF hT=>xE hF (by omega) (by omega)) (fun _=>QI rfl (fun w F hF ⟨hT,_⟩=>Ad hF ) (fun _=>JS_as rfl<|JS_nt<|QT ?_))
 exact QQ (()) rfl (.tmp rfl .nil) (by rw [LA,gH]) (fun F ⟨⟨hT,_⟩,_⟩=>trivial)
theorem jL {w:World} {F:Gs} {x:Rat} (hF:Fits F w) (hx:JL x≤100000):QZ Tryz.prog 91 [tx (JQ x)] w F (tx (JQ ((x.floor:Int):Rat))):=by
 have hl:=Gy x
 have s1:=Jf x
 have s2:=Jb x
 have s3:=Hy x
 refine QS.intro (G:=fun F=>True) Tryz.func91 rfl (by rfl) rfl rfl hF (fun F' hF'=>trivial)<|J_sr<|JS_as rfl<|JS_nt<|QG<|J_sr<|JS_mv rfl<|QI rfl (fun w F hF hT=>yx hF (by omega)) (fun _=>QE<|QC ?_)
 refine QR rfl (fun hc=>?_) (fun hc=>?_)
 ·
  have hd:x.den=1:=(Nj x).1 (by simpa using hc)
  refine J_sr<|JS_mv rfl<|JS_as rfl<|JS_nt<|QT ?_
  exact QQ (()) rfl (.tmp rfl .nil) (by rw [qC,yM hd,(Ni hd).1]) (fun F ⟨hT,_⟩=>trivial)
 ·
  refine QP<|QC<|J_sr<|JS_mv rfl<|QI rfl (fun w F hF ⟨hT,_⟩=>Wn hF (hx)) (fun c10=>JS_mv rfl<|QA (QM rfl rfl)<|QA (QM rfl rfl)<|Qb Z6 (fun b3=>Qb Z6 (fun b4=>QN (vs:=[_,_]) rfl rfl rfl JH rfl (.there .here) (.here (.here .nil)) ⟨rfl,rfl,trivial⟩<|QN (vs:=[_,_]) rfl rfl rfl JH rfl .here (.here (.here .nil)) ⟨rfl,rfl,trivial⟩<|JS_nt<|J_sr<|QA (QJ (vs:=[_,_]) rfl JH (.there .here) (.here (.here .nil)) rfl)<|QA (QJ (vs:=[_,_]) rfl JH .here (.here (.here .nil)) rfl)<|QI rfl (fun w F hF ⟨⟨hT,_⟩,h10⟩=>Ie hF (h10.1) (h10.2) (by have:=den_pos x;omega) (by omega) (by omega)) (fun c15=>QI rfl (fun w F hF ⟨⟨⟨hT,_⟩,h10⟩,h15⟩=>Im hF (h15) (by rw [OV];omega)) (fun _=>JS_as rfl<|JS_nt<|QT ?_)))))
  exact QQ (()) rfl (.tmp rfl .nil) (by rw [qC,OV]) (fun F ⟨⟨⟨⟨hT,_⟩,h10⟩,h15⟩,_⟩=>trivial)
end
section
open Go.RowKit Ig
theorem zu {w:World} {F:Gs} {s:List UInt8} (hF:Fits F w) (hl:s.length≤1000000) (h1:XF (Lib.trimPrefix (s.take (ahead XS s)) [45])=true) (h2:ahead XS s<s.length→XF (Lib.trimPrefix (s.drop (ahead XS s+1)) [45])=true):QS Tryz.prog 119 [tx s] w F Ri.v2 (fun c F=>VP F c.1 (Zv (s.take (ahead XS s)))∧(ahead XS s<s.length→VP F c.2 (Zv (s.drop (ahead XS s+1))))):=by
 have hah:=Bi XS s
 refine QS.intro (G:=fun F=>True) Tryz.func119 rfl (by rfl) rfl rfl hF (fun F' hF'=>trivial)<|J_sr<|Qb Z6 (fun b2=>Qb Z6 (fun b3=>JS_nt<|J_sr<|JS_mv rfl<|JS_as rfl<|JS_nt<|J_sr<|JS_mv rfl<|QI rfl (fun w F hF hT=>BA hF (by omega)) (fun _=>JS_as rfl<|JS_nt<|QG<|J_sr<|JS_mv rfl<|JS_mv rfl ?_)))
 refine QA (J9 rfl Xh)<|QA (QV rfl rfl rfl)<|QE<|QC ?_
 refine QR rfl (fun hc=>?_) (fun hc=>?_)
 ·
  have hd:ahead XS s=s.length:=by have:(ahead XS s:Int)=(s.length:Int):=(by simpa using hc);omega
  refine J_sr<|JS_mv rfl<|QI rfl (fun w F hF ⟨hT,_⟩=>Gp hF (by rw [hd,List.take_length] at h1;exact h1) (by omega)) (fun c14=>QI rfl (fun w F hF ⟨⟨hT,_⟩,h14⟩=>E6 hF (by decide)) (fun c15=>QN (vs:=[_,_]) rfl rfl rfl JH rfl (.there .here) (.here (.here .nil)) ⟨rfl,rfl,trivial⟩<|QN (vs:=[_,_]) rfl rfl rfl JH rfl .here (.here (.here .nil)) ⟨rfl,rfl,trivial⟩<|JS_nt<|QT ?_))
  exact JY ((c14,c15):Ri×Ri) rfl (.JU (c:=[_,_]) rfl JH (.there .here) (.JU (c:=[_,_]) rfl JH .here .nil)) (rfl) (fun F ⟨⟨⟨hT,_⟩,h14⟩,h15⟩=>⟨by rw [hd,List.take_length];exact h14,fun g=>by omega⟩)
 ·
  have hd:ahead XS s<s.length:=by rcases Nat.lt_or_ge (ahead XS s) s.length with g | g;exact g;exact absurd (show ahead XS s=s.length by omega) (fun e=>by rw [e] at hc;simp at hc)
  refine QP<|QC<|QG<|JN (.cons _ (.cons _ .slnil)) mixed (by kernel_rfl)<|QK (QD rfl)<|QK (QD rfl)<|QK (Gx (ahead XS s) rfl rfl Xh rfl (by omega))<|QY rfl (fun w F hF ⟨hT,_⟩=>Gp hF (h1) (by rw [List.length_take];omega)) (fun c19=>QK (QD rfl)<|QK (QD rfl)<|QK (Qu rfl rfl (by omega))<|QK (Kd ((ahead XS s+1)) rfl rfl Xh (congrArg (fun z:Int=>some (Value.int .i64 z)) (by omega)) (by omega))<|QY rfl (fun w F hF ⟨⟨hT,_⟩,VV⟩=>Gp hF (h2 hd) (by rw [List.length_drop];omega)) (fun c24=>Q7 (vs:=[_,_]) rfl rfl rfl JH rfl (.there .here) (.cons _ .slnil) (fun _ h=>h.1.1) (.here (.here .nil)) ⟨rfl,rfl,trivial⟩<|Q7 (vs:=[_,_]) rfl rfl rfl JH rfl .here (.cons _ .slnil) (fun _ h=>h.1.1) (.here (.here .nil)) ⟨rfl,rfl,trivial⟩<|Q4<|QC<|QT ?_))
  exact JY ((c19,c24):Ri×Ri) rfl (.JU (c:=[_,_]) rfl JH (.there .here) (.JU (c:=[_,_]) rfl JH .here .nil)) (rfl) (fun F ⟨⟨⟨hT,_⟩,VV⟩,h24⟩=>⟨VV,fun _=>h24⟩)
theorem It {l:List UInt8} (h:(!XV l)=false):0<l.length:=by
 rcases Nat.eq_zero_or_pos l.length with g | g
 ·rw [List.eq_nil_of_length_eq_zero g] at h;simp [XV] at h
 ·exact g
theorem vZ {p:UInt8→Bool} {s:List UInt8} (h:∀ c∈s,p c=true):s.takeWhile p=s:=by
 induction s with
 |nil=>rfl
 |cons c r ih=>rw [List.takeWhile_cons_of_pos (h c (by simp)),ih (fun d hd=>h d (by simp [hd]))]
theorem zQ {l:List UInt8} (h:XF l=true):sz (Q8 l:Int)≤4*l.length:=by
 rw [Xx]
 have h1:=Vm h
 have h2:10^l.length≤2^(4*l.length):=by rw [Nat.pow_mul];exact Nat.pow_le_pow_left (by decide) _
 simp;omega
theorem yS (s:List UInt8):(ZM 47 s).1=s.take (ahead XS s)∧(ZM 47 s).2.1=s.drop (ahead XS s+1)∧(ZM 47 s).2.2=decide (ahead XS s<s.length):=by
 have hf:(fun c:UInt8=>!XS c)=fun c=>c != 47:=by funext c;simp [XS,bne]
 have h1:=Kq (fun c:UInt8=>c != 47) s
 have ha:ahead XS s=(s.takeWhile (fun c=>c != 47)).length:=by unfold ahead;rw [hf]
 rw [ha]
 by_cases hc:s.contains 47=true
 ·have e:ZM 47 s=(s.takeWhile (· != 47),(s.dropWhile (· != 47)).drop 1,true):=by unfold ZM;rw [if_pos hc]
  rw [e]
  obtain ⟨r,hr⟩:=DW (show(47:UInt8)∈s by simpa using hc)
  have hd:=h1.2
  rw [hr] at hd
  refine⟨h1.1.symm,?_,?_⟩
  ·show(s.dropWhile (· != 47)).drop 1=_
   rw [hr,← List.drop_drop,hd]
  ·have:(s.takeWhile (fun c=>c != 47)).length<s.length:=by
    have:=congrArg List.length hd
    rw [List.length_drop,List.length_cons] at this;omega
   simp [this]
 ·have e:ZM 47 s=(s,[],false):=by unfold ZM;rw [if_neg hc]
  rw [e]
  have h2:s.takeWhile (fun c=>c != 47)=s:=by
   refine vZ fun c hm=>?_
   have:c≠47:=by rintro rfl;exact hc (by simpa using hm)
   simpa using this
  rw [h2]
  simp
theorem yg (s:List UInt8):Lib.trimPrefix (ZM 47 s).1 [45]=(ZM 47 (Lib.trimPrefix s [45])).1∧Lib.hasPrefix (ZM 47 s).1 [45]=Lib.hasPrefix s [45]∧(ZM 47 s).2=(ZM 47 (Lib.trimPrefix s [45])).2:=by
 cases s with
 |nil=>exact⟨rfl,rfl,rfl⟩
 |cons c r =>
  by_cases hc:c=45
  ·subst hc
   have e:Lib.trimPrefix (45::r) [45]=r:=rfl
   rw [e]
   unfold ZM
   have h0:((45:UInt8)::r).contains 47=r.contains 47:=by simp
   rw [h0]
   split
   ·exact⟨rfl,rfl,rfl⟩
   ·exact⟨rfl,rfl,rfl⟩
  ·have hp:Lib.hasPrefix (c::r) [45]=false:=by
    rw [Wr (by simp)];simpa using hc
   have e:Lib.trimPrefix (c::r) [45]=c::r:=by unfold Lib.trimPrefix;rw [if_neg (by rw [hp];decide)]
   rw [e]
   have e2:∀ l:List UInt8,Lib.hasPrefix l [45]=false→Lib.trimPrefix l [45]=l:=fun l h=>by unfold Lib.trimPrefix;rw [if_neg (by rw [h];decide)]
   have h3:Lib.hasPrefix (ZM 47 (c::r)).1 [45]=false:=by
    unfold ZM
    split
    ·by_cases h47:c=47
     ·subst h47;rfl
     ·rw [List.takeWhile_cons_of_pos (by simpa using h47),Wr (by simp)];simpa using hc
    ·exact hp
   exact⟨e2 _ h3,by rw [h3,hp],rfl⟩
theorem gJ {s:List UInt8} (h1:Ii s=false) (h2:IN s=false) (hk:ahead XS (Lib.trimPrefix s [45])<(Lib.trimPrefix s [45]).length):XF ((Lib.trimPrefix s [45]).take (ahead XS (Lib.trimPrefix s [45])))=true∧XF (Nu s)=true:=by
 have hs:PC s=true:=by simp [PC];exact hk
 simp only [Ii,Bool.or_eq_false_iff,Bool.not_eq_false'] at h1
 simp only [IN,hs,Bool.true_and,Bool.or_eq_false_iff,Bool.not_eq_false'] at h2
 exact⟨Kw h1.1,Kw h2.1⟩
theorem yQ (s:List UInt8):Rz s=Jy s:=by
 obtain ⟨t1,t2,t3⟩:=yg s
 obtain ⟨c1,c2,c3⟩:=yS (Lib.trimPrefix s [45])
 have t4:(ZM 47 s).2.1=Nu s:=by rw [t3,c2];rfl
 have t5:(ZM 47 s).2.2=PC s:=by rw [t3,c3];rfl
 have hlen:(Lib.trimPrefix s [45]).take (ahead XS (Lib.trimPrefix s [45]))=(Lib.trimPrefix s [45]).take (ahead XS (Lib.trimPrefix s [45])):=rfl
 have hk:((Lib.trimPrefix s [45]).take (ahead XS (Lib.trimPrefix s [45]))).length=ahead XS (Lib.trimPrefix s [45]):=by
  rw [List.length_take];have:=Bi XS (Lib.trimPrefix s [45]);omega
 unfold Jy Gg Rz AN Ii IN Oi OS
 rw [t1,t2,t4,t5,c1,hk]
 generalize (Lib.trimPrefix s [45]).take (ahead XS (Lib.trimPrefix s [45]))=a
 generalize Nu s=d
 generalize PC s=f
 generalize Lib.hasPrefix s [45]=n
 have e:(!XV a||(n&&a==[48])||(f&&(!XV d||d==[48]||d==[49])))=((!XV a||(n&&a==[48]))||(f&&(!XV d||(d==[48]||d==[49])))):=by rw [Bool.or_assoc (!XV d)]
 rw [e]
 cases (!XV a||(n&&a==[48]))<;>cases (f&&(!XV d||(d==[48]||d==[49])))<;>rfl
theorem LU {w:World} {F:Gs} {s:List UInt8} (hF:Fits F w) (hl:s.length≤1000000):QZ Tryz.prog 20 [tx s] w F (.int .i64 (Jy s)):=by
 rw [← yQ]
 have hln:(Lib.trimPrefix s [45]).length≤s.length:=DZ _ _
 have hah:=Bi XS (Lib.trimPrefix s [45])
 refine QS.intro (G:=fun F=>True) Tryz.func20 rfl (by rfl) rfl rfl hF (fun F' hF'=>trivial)<|J_sr<|JS_as rfl<|JS_nt<|J_sr<|JS_mv rfl<|JS_as rfl<|QE<|QC ?_
 refine KZ [(0,_)] [(3,tx (Lib.trimPrefix s [45]))] ⟨rfl,trivial⟩ ?_ ?_
 ·
  refine KZ [(0,_),(3,_)] [(16,.bool (Lib.hasPrefix s [45]))] ⟨rfl,rfl,trivial⟩ ?_ ?_
  ·
   refine QB<|JS_mv rfl<|QA (J9 rfl Xh)<|QA (QV rfl rfl rfl)<|JS_mv rfl ?_
   refine Qn (t:=12) rfl (fun hb12=>?_) (fun hb12=>?_)
   ·
    refine QL rfl rfl<|JS_mv rfl<|QL rfl rfl<|QA (Vn (i:=0) rfl rfl Xh (by have:=dec_t hb12;omega))<|QL rfl rfl<|QA (QV rfl rfl rfl)<|QA (Qi rfl rfl rfl)<|QE ?_
    exact X0 ⟨rfl,rfl,(congrArg (fun b=>some (Value.bool b)) (by have h0:0<s.length:=(by have:=dec_t hb12;omega);rw [Wr h0];exact MD rfl)),trivial⟩ subl_r (fun _ h=>h)
   ·
    refine QO rfl rfl rfl<|QO rfl rfl rfl<|QO rfl rfl rfl<|QA (Qh rfl rfl rfl)<|QE ?_
    exact X0 ⟨rfl,rfl,(congrArg (fun b=>some (Value.bool b)) (by have h0:s.length=0:=(by have:=dec_f hb12;omega);rw [List.eq_nil_of_length_eq_zero h0];rfl)),trivial⟩ subl_r (fun _ h=>h)
  ·
   simp only [List.cons_append,List.nil_append]
   refine QR rfl (fun hc=>?_) (fun hc=>?_)
   ·
    refine QB<|JS_mv rfl<|QA (Kd (1) rfl rfl Xh rfl (Mc hc))<|JS_as rfl<|QE ?_
    exact X0 ⟨rfl,(congrArg (fun l=>some (tx l)) (by unfold Lib.trimPrefix;rw [if_pos hc];rfl)),trivial⟩ subl_r (fun _ h=>h)
   ·
    refine QP ?_
    exact X0 ⟨rfl,(congrArg (fun l=>some (tx l)) (by unfold Lib.trimPrefix;rw [hc];rfl)),trivial⟩ subl_r (fun _ h=>h)
 ·
  simp only [List.cons_append,List.nil_append]
  refine J_sr<|JS_mv rfl<|QI rfl (fun w F hF hT=>BA hF (by omega)) (fun _=>JS_as rfl<|JS_nt<|QG ?_)
  refine KZ [(3,_),(4,_)] [(36,.bool (Ii s))] ⟨rfl,rfl,trivial⟩ ?_ ?_
  ·
   refine QB<|JS_mv rfl<|JS_mv rfl<|QA (Gx ((ahead XS (Lib.trimPrefix s [45]))) rfl rfl Xh rfl (by omega))<|QI rfl (fun w F hF ⟨hT,_⟩=>zU hF (by rw [List.length_take];omega)) (fun _=>QA (Yt rfl)<|JS_mv rfl ?_)
   refine Qn (t:=26) rfl (fun hb26=>?_) (fun hb26=>?_)
   ·
    refine QO rfl rfl rfl<|QO rfl rfl rfl<|QO rfl rfl rfl<|QO rfl rfl rfl<|JV rfl rfl<|JV rfl rfl<|JV rfl rfl<|JV rfl rfl<|QO rfl rfl rfl<|QA (Qi rfl rfl rfl)<|QE ?_
    exact X0 ⟨rfl,rfl,(congrArg (fun b=>some (Value.bool b)) (by simp [Ii] at hb26 ⊢;simp [hb26])),trivial⟩ subl_r (fun _ h=>h.1)
   ·
    refine QL rfl rfl<|JS_mv rfl<|QL rfl rfl<|QA (Vn (i:=0) rfl rfl MQ (by have h1:=It hb26;rw [List.length_take] at h1;omega))<|QL rfl rfl<|QA (QV rfl rfl rfl)<|QL rfl rfl<|JS_mv rfl ?_
    refine Qn (t:=30) rfl (fun hb30=>?_) (fun hb30=>?_)
    ·
     refine QL rfl rfl<|JS_mv rfl<|QL rfl rfl<|JS_mv rfl<|QL rfl rfl<|QA (Gx ((ahead XS (Lib.trimPrefix s [45]))) rfl rfl Xh rfl (by omega))<|QL rfl rfl<|QA (K3 rfl rfl)<|QL rfl rfl<|QA (Qi rfl rfl rfl)<|QA (Qh rfl rfl rfl)<|QE ?_
     exact X0 ⟨rfl,rfl,(congrArg (fun b=>some (Value.bool b)) (by have h0:0<s.length:=(by have h1:=It hb26;rw [List.length_take] at h1;omega);have hp:Lib.hasPrefix s [45]=true:=(by rw [Wr h0,← MD (z:=45) rfl];exact hb30);simp [Ii] at hb26 ⊢;simp [hb26,hp])),trivial⟩ subl_r (fun _ h=>h.1)
    ·
     refine QO rfl rfl rfl<|QO rfl rfl rfl<|QO rfl rfl rfl<|QO rfl rfl rfl<|QL rfl rfl<|QA (Qh rfl rfl rfl)<|QA (Qh rfl rfl rfl)<|QE ?_
     exact X0 ⟨rfl,rfl,(congrArg (fun b=>some (Value.bool b)) (by have h0:0<s.length:=(by have h1:=It hb26;rw [List.length_take] at h1;omega);have hp:Lib.hasPrefix s [45]=false:=(by rw [Wr h0,← MD (z:=45) rfl];exact hb30);simp [Ii] at hb26 ⊢;simp [hb26,hp])),trivial⟩ subl_r (fun _ h=>h.1)
  ·
   simp only [List.cons_append,List.nil_append]
   refine QR rfl (fun hc=>?_) (fun hc=>?_)
   ·
    have hb1:Ii s=true:=hc
    refine J_sr<|JS_as rfl<|JS_nt<|QT ?_
    exact QQ (()) rfl (.tmp rfl .nil) (congrArg (Value.int .i64) (by simp [Rz,hb1])) (fun F ⟨hT,_⟩=>trivial)
   ·
    have hb1:Ii s=false:=hc
    refine QP<|QC<|QG ?_
    refine KZ [(3,_),(4,_)] [(62,.bool (IN s))] ⟨rfl,rfl,trivial⟩ ?_ ?_
    ·
     refine QB<|JS_mv rfl<|JS_mv rfl<|QA (J9 rfl Xh)<|QA (QV rfl rfl rfl)<|JS_mv rfl ?_
     refine Qn (t:=41) rfl (fun hb41=>?_) (fun hb41=>?_)
     ·
      refine QL rfl rfl<|JS_mv rfl<|QL rfl rfl<|JS_mv rfl<|QL rfl rfl<|QA (Qu rfl rfl (by omega))<|QL rfl rfl<|QA (Kd (((ahead XS (Lib.trimPrefix s [45]))+1)) rfl rfl Xh (congrArg (fun z:Int=>some (Value.int .i64 z)) (by omega)) (by have:=dec_t hb41;omega))<|QL rfl rfl<|QI rfl (fun w F hF ⟨hT,_⟩=>zU hF (by rw [List.length_drop];omega)) (fun _=>QL rfl rfl<|QA (Yt rfl)<|QL rfl rfl<|JS_mv rfl ?_)
      refine Qn (t:=48) rfl (fun hb48=>?_) (fun hb48=>?_)
      ·
       refine QO rfl rfl rfl<|QO rfl rfl rfl<|QO rfl rfl rfl<|QO rfl rfl rfl<|QO rfl rfl rfl<|QL rfl rfl<|QA (Qi rfl rfl rfl)<|QL rfl rfl<|JS_mv rfl<|QO rfl rfl rfl<|QO rfl rfl rfl<|QO rfl rfl rfl<|QO rfl rfl rfl<|QO rfl rfl rfl<|QL rfl rfl<|QA (Qi rfl rfl rfl)<|QA (Qi rfl rfl rfl)<|QE ?_
       exact X0 ⟨rfl,rfl,(congrArg (fun b=>some (Value.bool b)) (by have h1:PC s=true:=(by simp [PC];simpa using hb41);simp [IN,h1];simp at hb48;exact .inl hb48)),trivial⟩ subl_r (fun _ h=>h.1)
      ·
       refine QL rfl rfl<|JS_mv rfl<|QL rfl rfl<|JS_mv rfl<|QL rfl rfl<|QA (Qu rfl rfl (by omega))<|QL rfl rfl<|QA (Kd (((ahead XS (Lib.trimPrefix s [45]))+1)) rfl rfl Xh (congrArg (fun z:Int=>some (Value.int .i64 z)) (by omega)) (by have:=dec_t hb41;omega))<|QL rfl rfl<|QA (K3 rfl rfl)<|QL rfl rfl<|QA (Qh rfl rfl rfl)<|QL rfl rfl<|JS_mv rfl ?_
       refine Qn (t:=55) rfl (fun hb55=>?_) (fun hb55=>?_)
       ·
        refine QO rfl rfl rfl<|QO rfl rfl rfl<|QO rfl rfl rfl<|QO rfl rfl rfl<|QO rfl rfl rfl<|QL rfl rfl<|QA (Qi rfl rfl rfl)<|QA (Qi rfl rfl rfl)<|QE ?_
        exact X0 ⟨rfl,rfl,(congrArg (fun b=>some (Value.bool b)) (by have h1:PC s=true:=(by simp [PC];simpa using hb41);simp [IN,h1];exact .inr (.inl (by simpa [Nu] using hb55)))),trivial⟩ subl_r (fun _ h=>h.1)
       ·
        refine QL rfl rfl<|JS_mv rfl<|QL rfl rfl<|JS_mv rfl<|QL rfl rfl<|QA (Qu rfl rfl (by omega))<|QL rfl rfl<|QA (Kd (((ahead XS (Lib.trimPrefix s [45]))+1)) rfl rfl Xh (congrArg (fun z:Int=>some (Value.int .i64 z)) (by omega)) (by have:=dec_t hb41;omega))<|QL rfl rfl<|QA (K3 rfl rfl)<|QL rfl rfl<|QA (Qh rfl rfl rfl)<|QA (Qi rfl rfl rfl)<|QE ?_
        exact X0 ⟨rfl,rfl,(congrArg (fun b=>some (Value.bool b)) (by have h1:PC s=true:=(by simp [PC];simpa using hb41);simp at hb48 hb55;simp [IN,h1,Nu,hb48,hb55])),trivial⟩ subl_r (fun _ h=>h.1)
     ·
      refine QO rfl rfl rfl<|QO rfl rfl rfl<|QO rfl rfl rfl<|QO rfl rfl rfl<|QO rfl rfl rfl<|QO rfl rfl rfl<|QO rfl rfl rfl<|JV rfl rfl<|JV rfl rfl<|JV rfl rfl<|JV rfl rfl<|JV rfl rfl<|QO rfl rfl rfl<|QO rfl rfl rfl<|JV rfl rfl<|JV rfl rfl<|JV rfl rfl<|JV rfl rfl<|JV rfl rfl<|QO rfl rfl rfl<|QA (Qh rfl rfl rfl)<|QE ?_
      exact X0 ⟨rfl,rfl,(congrArg (fun b=>some (Value.bool b)) (by have h1:PC s=false:=(by simp [PC];simpa using hb41);simp [IN,h1])),trivial⟩ subl_r (fun _ h=>h)
    ·
     simp only [List.cons_append,List.nil_append]
     refine QR rfl (fun hc=>?_) (fun hc=>?_)
     ·
      have hb2:IN s=true:=hc
      refine J_sr<|JS_as rfl<|JS_nt<|QT ?_
      exact QQ (()) rfl (.tmp rfl .nil) (congrArg (Value.int .i64) (by simp [Rz,hb1,hb2])) (fun F ⟨hT,_⟩=>trivial)
     ·
      have hb2:IN s=false:=hc
      refine QP<|QC<|QG ?_
      refine KZ [(3,_),(4,_)] [(72,.bool (Oi s))] ⟨rfl,rfl,trivial⟩ ?_ ?_
      ·
       refine QB<|JS_mv rfl<|QA (QV rfl rfl rfl)<|JS_mv rfl ?_
       refine Qn (t:=65) rfl (fun hb65=>?_) (fun hb65=>?_)
       ·
        refine QO rfl rfl rfl<|QO rfl rfl rfl<|QO rfl rfl rfl<|QO rfl rfl rfl<|QO rfl rfl rfl<|QO rfl rfl rfl<|QA (Qi rfl rfl rfl)<|QE ?_
        exact X0 ⟨rfl,rfl,(congrArg (fun b=>some (Value.bool b)) (by have:=dec_t hb65;simp [Oi];left;omega)),trivial⟩ subl_r (fun _ h=>h)
       ·
        refine QL rfl rfl<|JS_mv rfl<|QL rfl rfl<|QA (J9 rfl Xh)<|QL rfl rfl<|JS_mv rfl<|QL rfl rfl<|QA (J6 rfl rfl (by omega))<|QL rfl rfl<|QA (J6 rfl rfl (by omega))<|QL rfl rfl<|QA (QV rfl rfl rfl)<|QA (Qh rfl rfl rfl)<|QE ?_
        exact X0 ⟨rfl,rfl,(congrArg (fun b=>some (Value.bool b)) (by rw [Bool.eq_iff_iff];have:=dec_f hb65;simp [Oi,Nu];omega)),trivial⟩ subl_r (fun _ h=>h)
      ·
       simp only [List.cons_append,List.nil_append]
       refine QR rfl (fun hc=>?_) (fun hc=>?_)
       ·
        have hb3:Oi s=true:=hc
        refine J_sr<|JS_as rfl<|JS_nt<|QT ?_
        exact QQ (()) rfl (.tmp rfl .nil) (congrArg (Value.int .i64) (by simp [Rz,hb1,hb2,hb3])) (fun F ⟨hT,_⟩=>trivial)
       ·
        have hb3:Oi s=false:=hc
        have hk6:ahead XS (Lib.trimPrefix s [45])≤600:=by simp [Oi] at hb3;exact hb3.1
        refine QP<|QC<|QG<|J_sr<|JS_mv rfl<|JS_mv rfl<|QA (J9 rfl Xh)<|QA (QV rfl rfl rfl)<|QE<|QC ?_
        refine QR rfl (fun hc=>?_) (fun hc=>?_)
        ·
         have hk:ahead XS (Lib.trimPrefix s [45])<(Lib.trimPrefix s [45]).length:=by have:=dec_t hc;omega
         obtain ⟨da,dd⟩:=gJ hb1 hb2 hk
         refine J_sr<|JS_mv rfl<|QI rfl (fun w F hF ⟨hT,_⟩=>zu hF (s:=(Lib.trimPrefix s [45])) (by omega) (by rw [ZQ da];exact da) (fun _=>by rw [show(List.drop (ahead XS (Lib.trimPrefix s [45])+1) (Lib.trimPrefix s [45]))=Nu s from rfl,ZQ dd];exact dd)) (fun c79=>JS_mv rfl<|QA (QM rfl rfl)<|QA (QM rfl rfl)<|Qb Z6 (fun b5=>Qb Z6 (fun b6=>QN (vs:=[_,_]) rfl rfl rfl JH rfl (.there .here) (.here (.here .nil)) ⟨rfl,rfl,trivial⟩<|QN (vs:=[_,_]) rfl rfl rfl JH rfl .here (.here (.here .nil)) ⟨rfl,rfl,trivial⟩<|JS_nt<|QG<|Xz _ (fun w F hF h=>And.intro h.2.1.p (And.intro (h.2.2 hk).p (And.intro h.2.1.1.2.1 (h.2.2 hk).1.2.1))) (fun pp=>?_))))
         obtain ⟨pa,pd,na,nd⟩:=pp
         rw [XI da] at pa
         have pd2:=pd
         rw [show Zv ((Lib.trimPrefix s [45]).drop (ahead XS (Lib.trimPrefix s [45])+1))=Q8 (Nu s) from XI dd] at pd2
         have la:=pa.len
         have ld:=pd2.len
         have sa:=zQ da
         have sd:=zQ dd
         have h600:(Nu s).length≤600:=by simp [Oi] at hb3;exact hb3.2
         rw [List.length_take] at sa
         refine QB<|QA (QH rfl Z1 Qz)<|QA (Qj rfl Qz (.there .here) (.skip (.here .nil)))<|QA (QH rfl Z1 Qz)<|QA (Qj rfl Qz .here (.skip (.here .nil))) ?_
         refine QI rfl (fun w F hF ⟨⟨hT,_⟩,h79⟩=>O9 hF (a:=c79.1.l) (b:=c79.2.l) (ra:=c79.1.r) (rb:=c79.2.r) h79.1.1 ((h79.2 hk).1) (pa.dg) (pd.dg) (pa.nz) (pd.nz) (by omega) (by omega)) (fun c86=>?_);rcases c86 with ⟨v86,l86⟩;dsimp only
         refine JK _ (fun w F hF ⟨⟨⟨hT,_⟩,h79⟩,⟨h86,h86p⟩⟩=>And.intro h86.2 h86p) (fun p86=>JS_as rfl<|QE<|QC ?_)
         refine KZ [] [(95,.bool (OS s))] trivial ?_ ?_
         ·
          have hgc:dv B9 l86=(Nat.gcd (Q8 ((Lib.trimPrefix s [45]).take (ahead XS (Lib.trimPrefix s [45])))) (Q8 (Nu s)):Nat):=by
           rw [p86.2.2.2,jm pa pd2];rfl
          have hone:=L2 p86.2.1 p86.2.2.1
          have hsl:PC s=true:=by simp [PC];exact hk
          refine QB<|JS_mv rfl<|QA (Ql rfl Qf)<|QA (QV rfl rfl rfl)<|JS_mv rfl ?_
          refine Qn (t:=90) rfl (fun hb90=>?_) (fun hb90=>?_)
          ·
           refine QO rfl rfl rfl<|QO rfl rfl rfl<|QO rfl rfl rfl<|QO rfl rfl rfl<|QA (Qi rfl rfl rfl)<|QE ?_
           exact X0 ⟨(congrArg (fun b=>some (Value.bool b)) (by have h1:¬ l86.length=1:=(by simp at hb90;omega);rw [Bool.eq_iff_iff];simp [OS,hsl];intro g;exact h1 (hone.2 (by rw [hgc,g];rfl)).1)),trivial⟩ subl_r (fun _ h=>h)
          ·
           have hn1:v86.n=1:=by simp at hb90;omega
           refine QL rfl rfl<|JS_mv rfl<|QL rfl rfl<|QA (Ja (n:=v86.n) (0) (fun F ⟨⟨⟨hT,_⟩,h79⟩,⟨h86,h86p⟩⟩=>(h86).1) rfl (congrArg (fun z:Int=>some (Value.int .i64 z)) (by omega)) Qf Qp (by omega))<|QL rfl rfl<|QA (Jk (n:=v86.n) ((0)*1) (fun F ⟨⟨⟨hT,_⟩,h79⟩,⟨h86,h86p⟩⟩=>(h86).1) (by omega) rfl Qp (JO (o:=l86) (by omega)))<|QL rfl rfl<|QA (QV rfl rfl rfl)<|QA (Qh rfl rfl rfl)<|QE ?_
           exact X0 ⟨(congrArg (fun b=>some (Value.bool b)) (by have h1:l86.length=1:=(by omega);rw [Bool.eq_iff_iff];simp [OS,hsl];exact not_congr ⟨fun e=>by have h2:=hone.1 ⟨h1,e⟩;rw [hgc] at h2;omega,fun e=>(hone.2 (by rw [hgc,e];rfl)).2⟩)),trivial⟩ subl_r (fun _ h=>h)
         ·
          simp only [List.cons_append,List.nil_append]
          refine QR rfl (fun hc=>?_) (fun hc=>?_)
          ·
           have hg4:OS s=true:=hc
           refine J_sr<|JS_as rfl<|JS_nt<|QT ?_
           exact QQ (()) rfl (.tmp rfl .nil) (congrArg (Value.int .i64) (by simp [Rz,hb1,hb2,hb3,hg4])) (fun F ⟨⟨⟨hT,_⟩,h79⟩,⟨h86,h86p⟩⟩=>trivial)
          ·
           have hg4:OS s=false:=hc
           refine QP<|QC<|J_sr<|JS_as rfl<|JS_nt<|QT ?_
           exact QQ (()) rfl (.tmp rfl .nil) (congrArg (Value.int .i64) (by simp [Rz,hb1,hb2,hb3,hg4])) (fun F ⟨⟨⟨hT,_⟩,h79⟩,⟨h86,h86p⟩⟩=>trivial)
        ·
         have hg4:OS s=false:=by have:=dec_f hc;simp [OS,PC];intro g;omega
         refine QP<|QC<|J_sr<|JS_as rfl<|JS_nt<|QT ?_
         exact QQ (()) rfl (.tmp rfl .nil) (congrArg (Value.int .i64) (by simp [Rz,hb1,hb2,hb3,hg4])) (fun F ⟨hT,_⟩=>trivial)
end
section
open Go.RowKit Ig
theorem vv {w:World} {F:Gs} {a b:List UInt8} (hF:Fits F w) (ha:Jy a=0) (hb:Jy b=0):QZ Tryz.prog 30 [tx a,tx b] w F (.int .i64 (Vg (Ju a) (Ju b))):=by
 have h1:=XH ha
 have h2:=XH hb
 have:=LS (x:=Ju a) (y:=Ju b) hF (by omega) (by omega)
 rw [← (Zj ha).1,← (Zj hb).1] at this;exact this
theorem gR {w:World} {F:Gs} {q:Option Addr} {n c:Nat} {l:List (List UInt8)} (hF:Fits F w) (hR:Q9 F q n 1 (l.map tx)) (hl:l.length=n∧∀ s∈l,s.length≤1000000) (hn:n≤1000000):QZ Tryz.prog 29 [.slice q n c] w F (.int .i64 (Qm (l.map Jy))):=by
 have hln:=hl.1
 refine QS.intro (G:=fun F=>Q9 F q n 1 (l.map tx)) Tryz.func29 rfl (by rfl) rfl rfl hF (fun F' hF'=>hR.le hF')<|J_sr<|JS_as rfl<|JS_nt<|QG<|J_sr<|JS_as rfl<|JS_nt<|Qa<|Z3 (ι:=Yj l Jy) [(0,_)] (fun i=>[(3,.int .i64 ((i.i:Nat):Int))]) (fun i=>l.length - i.i) (Yj.start _ _) ⟨rfl,trivial⟩ ⟨rfl,trivial⟩ (fun i=>?_)
 simp only [List.cons_append,List.nil_append]
 refine QG<|J_sr<|JS_mv rfl<|JS_mv rfl<|QA (Ql rfl SD)<|QA (QV rfl rfl rfl)<|QE<|QC ?_
 refine QR rfl (fun hc=>?_) (fun hc=>?_)
 ·
  have hi:i.i<l.length:=by have:=dec_t hc;omega
  refine QP<|QC<|QG<|Qa<|J_sr<|JS_mv rfl<|JS_mv rfl<|QA (Ja (n:=n) (i.i) (fun F hR=>hR) rfl rfl SD JR (by omega))<|QA (Jk (n:=n) ((i.i)*1) (fun F hR=>hR) (by omega) rfl JR (Mr (f:=tx) (l:=l) (by omega)))<|QI rfl (fun w F hF hR=>LU hF (hl.2 _ (Jc hi))) (fun _=>JS_as rfl<|JS_nt<|J_sr<|JS_mv rfl<|QA (QV rfl rfl rfl)<|QE<|QC ?_)
  refine QR rfl (fun hc=>?_) (fun hc=>?_)
  ·
   refine J_sr<|JS_mv rfl<|JS_as rfl<|JS_nt<|QT ?_
   repeat (first | refine JJ ?_ | refine JA ?_)
   exact QQ (()) rfl (.tmp rfl .nil) (congrArg (Value.int .i64) (i.hit hi (by simpa using hc))) (fun F ⟨hR,_⟩=>trivial)
  ·
   refine QP<|Qk<|QC<|QB<|JS_mv rfl<|QA (Qu rfl rfl (by omega))<|JS_as rfl<|QE ?_
   exact Qo (i.next hi (by simpa using hc)) (by show l.length - (i.i+1)<l.length - i.i;omega) ⟨rfl,rfl,trivial⟩ subl_r (fun F h=>h.1)
 ·
  have hi:l.length≤i.i:=by have:=dec_f hc;omega
  refine Q5 ?_
  repeat (first | refine Qd ?_ | refine QW (by rfl) ?_)
  refine Qe<|QC<|J_sr<|JS_as rfl<|JS_nt<|QT ?_
  exact QQ (()) rfl (.tmp rfl .nil) (congrArg (Value.int .i64) (i.stop hi)) (fun F hR=>trivial)
theorem Af {w:World} {F:Gs} {lo hi:List UInt8} (hF:Fits F w) (hl:lo.length≤1000000∧hi.length≤1000000):QZ Tryz.prog 21 [.agg #[tx lo,tx hi]] w F (.int .i64 (JM lo hi)):=by
 refine QS.intro (G:=fun F=>True) Tryz.func21 rfl (by rfl) rfl rfl hF (fun F' hF'=>trivial)<|J_sr<|Qw rfl (vs:=[_,_]) rfl (fun b1=>JS_as rfl<|JS_nt<|J_sr<|QA (QH rfl Yr JR)<|QA (Qj rfl JR .here (.here .nil))<|QI rfl (fun w F hF hT=>LU hF (hl.1)) (fun _=>JS_as rfl<|QE<|QC ?_))
 refine KZ [(1,_)] [(3,.int .i64 (Qm [Jy lo,Jy hi]))] ⟨rfl,trivial⟩ ?_ ?_
 ·
  refine J_sr<|JS_mv rfl<|QA (QV rfl rfl rfl)<|QE<|QC ?_
  refine QR rfl (fun hc=>?_) (fun hc=>?_)
  ·
   refine QB<|QA (QH rfl Yz JR)<|QA (Qj rfl JR .here (.skip (.here .nil)))<|QI rfl (fun w F hF ⟨hT,_⟩=>LU hF (hl.2)) (fun _=>JS_as rfl<|QE ?_)
   exact X0 ⟨rfl,(congrArg (fun z:Int=>some (Value.int .i64 z)) (by simp [Qm];simp at hc;simp [hc])),trivial⟩ subl_r (fun _ h=>h.1)
  ·
   refine QP ?_
   exact X0 ⟨rfl,(congrArg (fun z:Int=>some (Value.int .i64 z)) (by simp [Qm];simp at hc;simp [hc])),trivial⟩ subl_r (fun _ h=>h)
 ·
  simp only [List.cons_append,List.nil_append]
  refine QG<|J_sr<|JS_mv rfl<|QA (QV rfl rfl rfl)<|JS_mv rfl ?_
  refine Qn (t:=14) rfl (fun hb14=>?_) (fun hb14=>?_)
  ·
   refine QL rfl rfl ?_
   obtain ⟨k1,k2⟩:=Zf (by simpa using hb14)
   refine QA (QH rfl Yr JR)<|QL rfl rfl<|QA (Qj rfl JR .here (.here .nil))<|QL rfl rfl<|QA (QH rfl Yz JR)<|QL rfl rfl<|QA (Qj rfl JR .here (.skip (.here .nil)))<|QL rfl rfl<|QI rfl (fun w F hF ⟨hT,_⟩=>vv hF (k1) (k2)) (fun _=>QL rfl rfl<|QA (QV rfl rfl rfl)<|QA (Qi rfl rfl rfl)<|QE<|QC ?_)
   refine QR rfl (fun hc=>?_) (fun hc=>?_)
   ·
    refine J_sr<|JS_as rfl<|JS_nt<|QT ?_
    exact QQ (()) rfl (.tmp rfl .nil) (congrArg (Value.int .i64) (by unfold JM;rw [if_pos (by simpa using hb14),if_pos (dec_t hc)])) (fun F ⟨⟨hT,_⟩,_⟩=>trivial)
   ·
    refine QP<|QC<|J_sr<|JS_mv rfl<|JS_as rfl<|JS_nt<|QT ?_
    exact QQ (()) rfl (.tmp rfl .nil) (congrArg (Value.int .i64) (by unfold JM;rw [if_pos (by simpa using hb14),if_neg (dec_f hc)];symm;simpa using hb14)) (fun F ⟨⟨hT,_⟩,_⟩=>trivial)
  ·
   refine QO rfl rfl rfl<|QO rfl rfl rfl<|QO rfl rfl rfl<|QO rfl rfl rfl<|QO rfl rfl rfl<|QO rfl rfl rfl<|QA (Qh rfl rfl rfl)<|JS_nt<|Z8 rfl<|QP<|QC<|J_sr<|JS_mv rfl<|JS_as rfl<|JS_nt<|QT ?_
   exact QQ (()) rfl (.tmp rfl .nil) (congrArg (Value.int .i64) (by unfold JM;rw [if_neg (by simpa using hb14)])) (fun F ⟨hT,_⟩=>trivial)
theorem jK {w:World} {F:Gs} {q:Option Addr} {n c:Nat} {l:List (List UInt8)} (hF:Fits F w) (hR:Q9 F q n 1 (l.map tx)) (hl:l.length=n∧∀ s∈l,s.length≤1000000) (hn:n≤1000000):QZ Tryz.prog 206 [.slice q n c] w F (.int .i64 (Qm (l.map BJ))):=by
 have hln:=hl.1
 refine QS.intro (G:=fun F=>Q9 F q n 1 (l.map tx)) Tryz.func206 rfl (by rfl) rfl rfl hF (fun F' hF'=>hR.le hF')<|J_sr<|JS_as rfl<|JS_nt<|QG<|J_sr<|JS_as rfl<|JS_nt<|Qa<|Z3 (ι:=Yj l BJ) [(0,_)] (fun i=>[(3,.int .i64 ((i.i:Nat):Int))]) (fun i=>l.length - i.i) (Yj.start _ _) ⟨rfl,trivial⟩ ⟨rfl,trivial⟩ (fun i=>?_)
 simp only [List.cons_append,List.nil_append]
 refine QG<|J_sr<|JS_mv rfl<|JS_mv rfl<|QA (Ql rfl SD)<|QA (QV rfl rfl rfl)<|QE<|QC ?_
 refine QR rfl (fun hc=>?_) (fun hc=>?_)
 ·
  have hi:i.i<l.length:=by have:=dec_t hc;omega
  have hel:=hl.2 _ (Jc hi)
  refine QP<|QC<|QG<|Qa<|J_sr<|JS_mv rfl<|JS_mv rfl<|QA (Ja (n:=n) (i.i) (fun F hR=>hR) rfl rfl SD JR (by omega))<|QA (Jk (n:=n) ((i.i)*1) (fun F hR=>hR) (by omega) rfl JR (Mr (f:=tx) (l:=l) (by omega)))<|QI rfl (fun w F hF hR=>y3 hF (by omega)) (fun _=>QA (QV rfl rfl rfl)<|QE<|QC ?_)
  refine QR rfl (fun hc=>?_) (fun hc=>?_)
  ·
   refine J_sr<|JS_as rfl<|JS_nt<|QT ?_
   repeat (first | refine JJ ?_ | refine JA ?_)
   exact QQ (()) rfl (.tmp rfl .nil) (congrArg (Value.int .i64) (by have h:=i.hit hi (by simpa using hc);rw [h];have h2:BJ (el l i.i)≠0:=(by simpa using hc);unfold BJ at h2 ⊢;split at h2<;>simp_all)) (fun F ⟨hR,_⟩=>trivial)
  ·
   refine QP<|Qk<|QC<|QB<|JS_mv rfl<|QA (Qu rfl rfl (by omega))<|JS_as rfl<|QE ?_
   exact Qo (i.next hi (by simpa using hc)) (by show l.length - (i.i+1)<l.length - i.i;omega) ⟨rfl,rfl,trivial⟩ subl_r (fun F h=>h.1)
 ·
  have hi:l.length≤i.i:=by have:=dec_f hc;omega
  refine Q5 ?_
  repeat (first | refine Qd ?_ | refine QW (by rfl) ?_)
  refine Qe<|QC<|J_sr<|JS_as rfl<|JS_nt<|QT ?_
  exact QQ (()) rfl (.tmp rfl .nil) (congrArg (Value.int .i64) (i.stop hi)) (fun F hR=>trivial)
end
section
open Go.RowKit Ig
theorem zf:([49]:List UInt8)=JQ 1:=by
 have h:(1:Rat).num=1:=rfl
 unfold JQ
 rw [if_pos (by rfl),h,Jx (by decide)]
 exact(WZ (l:=[49]) (by decide)).symm
theorem kX:([49,47,50]:List UInt8)=JQ (Rat.divInt 1 2):=by
 have e1:Lib.decDigits 1=[49]:=WZ (l:=[49]) (by decide)
 have e2:Lib.decDigits 2=[50]:=WZ (l:=[50]) (by decide)
 have hp:=Hd
 have hd:(Rat.divInt 1 2).den=2:=by have:=hp.2;omega
 unfold JQ
 rw [hd,if_neg (by decide),hp.1,e2,Jx (by decide)]
 show _=Lib.decDigits 1++_
 rw [e1];rfl
theorem vp {w:World} {F:Gs} {x:Rat} (hF:Fits F w) (hx:JL x≤100000):QZ Tryz.prog 93 [tx (JQ x),tx [49,47,50]] w F (tx (JQ (x*Rat.divInt 1 2))):=by
 have:=RI (x:=x) (y:=Rat.divInt 1 2) hF hx (by have:=ML;omega)
 rw [← kX] at this;exact this
theorem jA {x y:Rat} {k:Nat} (hx:JL x≤k) (hy:JL y≤k):JL (PZ x y)≤k:=by unfold PZ;split<;>assumption
theorem jB {x y:Rat} {k:Nat} (hx:JL x≤k) (hy:JL y≤k):JL (Np x y)≤k:=by unfold Np;split<;>assumption
def Hn (i:Nat):Rat:=Rat.divInt 1 2^i
theorem FO (i:Nat):JL (Hn i)≤2*i+1:=by
 have h:=Vj (Rat.divInt 1 2) i
 have h2:=ML
 have:i*JL (Rat.divInt 1 2)≤i*2:=Nat.mul_le_mul_left _ h2
 unfold Hn;omega
theorem CC (i:Nat):(Hn i).num≠0:=by
 intro e
 have h0:=Rat.num_eq_zero.1 e
 unfold Hn at h0
 have h1:Rat.divInt 1 2≠0:=by
  intro h
  have:=Hd.1
  rw [h] at this;exact absurd this (by decide)
 induction i with
 |zero=>rw [Rat.pow_zero] at h0;exact absurd h0 (by decide)
 |succ n ih =>
  rw [Rat.pow_succ] at h0
  rcases Rat.mul_eq_zero.1 h0 with h | h
  ·exact ih (Rat.num_eq_zero.2 h) h
  ·exact h1 h
theorem vr {w:World} {F:Gs} {x:Rat} (hF:Fits F w) (hx:JL x≤100000):QZ Tryz.prog 34 [tx (JQ x)] w F (tx (JQ (x*Rat.divInt 1 2))):=by
 refine QS.intro (G:=fun F=>True) Tryz.func34 rfl (by rfl) rfl rfl hF (fun F' hF'=>trivial)<|J_sr<|JS_as rfl<|JS_nt<|J_sr<|JS_mv rfl<|QI rfl (fun w F hF hT=>vp hF (hx)) (fun _=>JS_as rfl<|JS_nt<|QT ?_)
 exact QQ (()) rfl (.tmp rfl .nil) (rfl) (fun F ⟨hT,_⟩=>trivial)
theorem vt {w:World} {F:Gs} {b:Int} (hF:Fits F w) (h0:0≤b) (h1:b≤1000):QZ Tryz.prog 31 [.int .i64 b] w F (tx (JQ (Hn b.toNat))):=by
 refine QS.intro (G:=fun F=>True) Tryz.func31 rfl (by rfl) rfl rfl hF (fun F' hF'=>trivial)<|J_sr<|JS_as rfl<|JS_nt<|J_sr<|JS_as rfl<|JS_nt<|QG<|J_sr<|JS_as rfl<|JS_nt<|Qa<|Z3 (ι:={i:Nat // i≤b.toNat}) [(0,_)] (fun i=>[(3,tx (JQ (Hn i.1))),(4,.int .i64 ((i.1:Nat):Int))]) (fun i=>b.toNat - i.1) (⟨0,Nat.zero_le _⟩) ⟨rfl,trivial⟩ ⟨(congrArg (fun l=>some (tx l)) (show [49]=JQ (Hn 0) by rw [zf];rfl)),rfl,trivial⟩ (fun i=>?_)
 simp only [List.cons_append,List.nil_append]
 have hi:=i.2
 have hg:=FO i.1
 refine QG<|J_sr<|JS_mv rfl<|JS_mv rfl<|QA (QV rfl rfl rfl)<|QE<|QC ?_
 refine QR rfl (fun hc=>?_) (fun hc=>?_)
 ·
  have hlt:i.1+1≤b.toNat:=by have:=dec_t hc;omega
  refine QP<|QC<|QG<|Qa<|QB<|JS_mv rfl<|QI rfl (fun w F hF hT=>vr hF (by omega)) (fun _=>JS_as rfl<|QE<|Qk<|QC<|QB<|JS_mv rfl<|QA (Qu rfl rfl (by omega))<|JS_as rfl<|QE ?_)
  exact Qo (⟨i.1+1,hlt⟩) (by show b.toNat - (i.1+1)<b.toNat - i.1;omega) ⟨rfl,(congrArg (fun l=>some (tx l)) (show JQ (Hn i.1*Rat.divInt 1 2)=JQ (Hn (i.1+1)) by unfold Hn;rw [Rat.pow_succ])),rfl,trivial⟩ subl_r (fun F h=>h.1)
 ·
  have hge:i.1=b.toNat:=by have:=dec_f hc;omega
  refine Q5 ?_
  repeat (first | refine Qd ?_ | refine QW (by rfl) ?_)
  refine Qe<|QC<|J_sr<|JS_mv rfl<|JS_as rfl<|JS_nt<|QT ?_
  exact QQ (()) rfl (.tmp rfl .nil) (by rw [hge]) (fun F hT=>trivial)
theorem CT {w:World} {F:Gs} {x y:Rat} (hF:Fits F w) (hx:JL x≤30000) (hy:JL y≤30000):QZ Tryz.prog 99 [tx (JQ x),tx (JQ y)] w F (tx (JQ (PZ x y))):=by
 refine QS.intro (G:=fun F=>True) Tryz.func99 rfl (by rfl) rfl rfl hF (fun F' hF'=>trivial)<|J_sr<|JS_as rfl<|JS_nt<|QG<|J_sr<|JS_mv rfl<|JS_mv rfl<|QI rfl (fun w F hF hT=>LS hF (hx) (hy)) (fun _=>QA (QV rfl rfl rfl)<|QE<|QC ?_)
 refine QR rfl (fun hc=>?_) (fun hc=>?_)
 ·
  refine J_sr<|JS_mv rfl<|JS_as rfl<|JS_nt<|QT ?_
  exact QQ (()) rfl (.tmp rfl .nil) (by unfold PZ;rw [if_pos (dec_t hc)]) (fun F ⟨hT,_⟩=>trivial)
 ·
  refine QP<|QC<|J_sr<|JS_mv rfl<|JS_as rfl<|JS_nt<|QT ?_
  exact QQ (()) rfl (.tmp rfl .nil) (by unfold PZ;rw [if_neg (dec_f hc)]) (fun F ⟨hT,_⟩=>trivial)
theorem CU {w:World} {F:Gs} {x y:Rat} (hF:Fits F w) (hx:JL x≤30000) (hy:JL y≤30000):QZ Tryz.prog 100 [tx (JQ x),tx (JQ y)] w F (tx (JQ (Np x y))):=by
 refine QS.intro (G:=fun F=>True) Tryz.func100 rfl (by rfl) rfl rfl hF (fun F' hF'=>trivial)<|J_sr<|JS_as rfl<|JS_nt<|QG<|J_sr<|JS_mv rfl<|JS_mv rfl<|QI rfl (fun w F hF hT=>LS hF (hx) (hy)) (fun _=>QA (QV rfl rfl rfl)<|QE<|QC ?_)
 refine QR rfl (fun hc=>?_) (fun hc=>?_)
 ·
  refine J_sr<|JS_mv rfl<|JS_as rfl<|JS_nt<|QT ?_
  exact QQ (()) rfl (.tmp rfl .nil) (by unfold Np;rw [if_pos (dec_t hc)]) (fun F ⟨hT,_⟩=>trivial)
 ·
  refine QP<|QC<|J_sr<|JS_mv rfl<|JS_as rfl<|JS_nt<|QT ?_
  exact QQ (()) rfl (.tmp rfl .nil) (by unfold Np;rw [if_neg (dec_f hc)]) (fun F ⟨hT,_⟩=>trivial)
theorem jN {w:World} {F:Gs} {a b:Rat×Rat} (hF:Fits F w) (ha:CM 30000 a) (hb:CM 30000 b):QZ Tryz.prog 52 [I8 a,I8 b] w F (I8 (a.1+b.1,a.2+b.2)):=by
 obtain ⟨ha1,ha2⟩:=ha
 obtain ⟨hb1,hb2⟩:=hb
 refine QS.intro (G:=fun F=>True) Tryz.func52 rfl (by rfl) rfl rfl hF (fun F' hF'=>trivial)<|J_sr<|Qw rfl (vs:=[_,_]) rfl (fun b2=>Qw rfl (vs:=[_,_]) rfl (fun b3=>Qb ZN (fun b4=>JS_nt<|QG<|JN (.cons _ (.cons_cons _ (.cons_cons _ .slnil))) mixed (by kernel_rfl)<|QK (QH rfl Yr JR)<|QK (Qj rfl JR (.there .here) (.here .nil))<|QK (QH rfl Yr JR)<|QK (Qj rfl JR .here (.here .nil))<|QY rfl (fun w F hF hT=>xG hF (by omega) (by omega)) (fun _=>QK (QH rfl Yz JR)<|QK (Qj rfl JR (.there .here) (.skip (.here .nil)))<|QK (QH rfl Yz JR)<|QK (Qj rfl JR .here (.skip (.here .nil)))<|QY rfl (fun w F hF ⟨hT,_⟩=>xG hF (by omega) (by omega)) (fun _=>QK (Qy rfl Z7 ZN (.cons (vs:=[_]) rfl rfl rfl (.here .nil) (.cons (vs:=[_]) rfl rfl rfl (.skip (.here .nil)) .nil)))<|Q7 (vs:=[_,_]) rfl rfl rfl JC rfl .here (.cons_cons _ (.cons_cons _ .slnil)) (fun _ h=>h.1.1) (.here (.here .nil)) ⟨rfl,rfl,trivial⟩<|Q4<|QC<|QT ?_)))))
 exact QQ (()) rfl (.JU (c:=[_,_]) rfl JC .here .nil) (rfl) (fun F ⟨⟨hT,_⟩,_⟩=>trivial)
theorem jF {w:World} {F:Gs} {a b:Rat×Rat} (hF:Fits F w) (ha:CM 30000 a) (hb:CM 30000 b):QZ Tryz.prog 53 [I8 a,I8 b] w F (I8 (a.1 - b.2,a.2 - b.1)):=by
 obtain ⟨ha1,ha2⟩:=ha
 obtain ⟨hb1,hb2⟩:=hb
 refine QS.intro (G:=fun F=>True) Tryz.func53 rfl (by rfl) rfl rfl hF (fun F' hF'=>trivial)<|J_sr<|Qw rfl (vs:=[_,_]) rfl (fun b2=>Qw rfl (vs:=[_,_]) rfl (fun b3=>Qb ZN (fun b4=>JS_nt<|QG<|JN (.cons _ (.cons_cons _ (.cons_cons _ .slnil))) mixed (by kernel_rfl)<|QK (QH rfl Yr JR)<|QK (Qj rfl JR (.there .here) (.here .nil))<|QK (QH rfl Yz JR)<|QK (Qj rfl JR .here (.skip (.here .nil)))<|QY rfl (fun w F hF hT=>xE hF (by omega) (by omega)) (fun _=>QK (QH rfl Yz JR)<|QK (Qj rfl JR (.there .here) (.skip (.here .nil)))<|QK (QH rfl Yr JR)<|QK (Qj rfl JR .here (.here .nil))<|QY rfl (fun w F hF ⟨hT,_⟩=>xE hF (by omega) (by omega)) (fun _=>QK (Qy rfl Z7 ZN (.cons (vs:=[_]) rfl rfl rfl (.here .nil) (.cons (vs:=[_]) rfl rfl rfl (.skip (.here .nil)) .nil)))<|Q7 (vs:=[_,_]) rfl rfl rfl JC rfl .here (.cons_cons _ (.cons_cons _ .slnil)) (fun _ h=>h.1.1) (.here (.here .nil)) ⟨rfl,rfl,trivial⟩<|Q4<|QC<|QT ?_)))))
 exact QQ (()) rfl (.JU (c:=[_,_]) rfl JC .here .nil) (rfl) (fun F ⟨⟨hT,_⟩,_⟩=>trivial)
def dD (a b:Rat×Rat):Rat×Rat:=(PZ (PZ (a.1*b.1) (a.1*b.2)) (PZ (a.2*b.1) (a.2*b.2)),Np (Np (a.1*b.1) (a.1*b.2)) (Np (a.2*b.1) (a.2*b.2)))
theorem jI {w:World} {F:Gs} {a b:Rat×Rat} (hF:Fits F w) (ha:CM 15000 a) (hb:CM 15000 b):QZ Tryz.prog 54 [I8 a,I8 b] w F (I8 (dD a b)):=by
 obtain ⟨ha1,ha2⟩:=ha
 obtain ⟨hb1,hb2⟩:=hb
 refine QS.intro (G:=fun F=>True) Tryz.func54 rfl (by rfl) rfl rfl hF (fun F' hF'=>trivial)<|J_sr<|Qw rfl (vs:=[_,_]) rfl (fun b2=>Qw rfl (vs:=[_,_]) rfl (fun b3=>Qb ZN (fun b4=>JS_nt<|QG ?_)))
 have m1:=XA a.1 b.1
 have m2:=XA a.1 b.2
 have m3:=XA a.2 b.1
 have m4:=XA a.2 b.2
 refine JN subl_r mixed (by kernel_rfl)<|QK (QH rfl Yr JR)<|QK (Qj rfl JR (.there (.there .here)) (.here .nil))<|QK (QH rfl Yr JR)<|QK (Qj rfl JR (.there .here) (.here .nil))<|QY rfl (fun w F hF hT=>RI hF (by omega) (by omega)) (fun _=>QK (QH rfl Yr JR)<|QK (Qj rfl JR (.there (.there .here)) (.here .nil))<|QK (QH rfl Yz JR)<|QK (Qj rfl JR (.there .here) (.skip (.here .nil)))<|QY rfl (fun w F hF ⟨hT,_⟩=>RI hF (by omega) (by omega)) (fun _=>QK (QH rfl Yz JR)<|QK (Qj rfl JR (.there (.there .here)) (.skip (.here .nil)))<|QK (QH rfl Yr JR)<|QK (Qj rfl JR (.there .here) (.here .nil))<|QY rfl (fun w F hF ⟨⟨hT,_⟩,_⟩=>RI hF (by omega) (by omega)) (fun _=>QK (QH rfl Yz JR)<|QK (Qj rfl JR (.there (.there .here)) (.skip (.here .nil)))<|QK (QH rfl Yz JR)<|QK (Qj rfl JR (.there .here) (.skip (.here .nil)))<|QY rfl (fun w F hF ⟨⟨⟨hT,_⟩,_⟩,_⟩=>RI hF (by omega) (by omega)) (fun _=>QK (QF rfl)<|QK (QF rfl)<|QK (QF rfl)<|QK (QF rfl) ?_))))
 refine Q4<|QC<|J_sr<|JS_mv rfl<|JS_mv rfl<|QI rfl (fun w F hF ⟨⟨⟨⟨hT,_⟩,_⟩,_⟩,_⟩=>CT hF (by omega) (by omega)) (fun _=>JS_mv rfl<|JS_mv rfl<|QI rfl (fun w F hF ⟨⟨⟨⟨⟨hT,_⟩,_⟩,_⟩,_⟩,_⟩=>CT hF (by omega) (by omega)) (fun _=>QI rfl (fun w F hF ⟨⟨⟨⟨⟨⟨hT,_⟩,_⟩,_⟩,_⟩,_⟩,_⟩=>CT hF (jA (k:=30000) (by omega) (by omega)) (jA (k:=30000) (by omega) (by omega))) (fun _=>JS_mv rfl<|JS_mv rfl<|QI rfl (fun w F hF ⟨⟨⟨⟨⟨⟨⟨hT,_⟩,_⟩,_⟩,_⟩,_⟩,_⟩,_⟩=>CU hF (by omega) (by omega)) (fun _=>JS_mv rfl<|JS_mv rfl<|QI rfl (fun w F hF ⟨⟨⟨⟨⟨⟨⟨⟨hT,_⟩,_⟩,_⟩,_⟩,_⟩,_⟩,_⟩,_⟩=>CU hF (by omega) (by omega)) (fun _=>QI rfl (fun w F hF ⟨⟨⟨⟨⟨⟨⟨⟨⟨hT,_⟩,_⟩,_⟩,_⟩,_⟩,_⟩,_⟩,_⟩,_⟩=>CU hF (jB (k:=30000) (by omega) (by omega)) (jB (k:=30000) (by omega) (by omega))) (fun _=>QA (Qy rfl Z7 ZN (.cons (vs:=[_]) rfl rfl rfl (.here .nil) (.cons (vs:=[_]) rfl rfl rfl (.skip (.here .nil)) .nil)))<|QN (vs:=[_,_]) rfl rfl rfl JC rfl .here (.here (.here .nil)) ⟨rfl,rfl,trivial⟩<|JS_nt<|QT ?_))))))
 exact QQ (()) rfl (.JU (c:=[_,_]) rfl JC .here .nil) (rfl) (fun F ⟨⟨⟨⟨⟨⟨⟨⟨⟨⟨hT,_⟩,_⟩,_⟩,_⟩,_⟩,_⟩,_⟩,_⟩,_⟩,_⟩=>trivial)
theorem jH {w:World} {F:Gs} {x:Rat} {n:Int} (hF:Fits F w) (hx:JL x≤5000) (hn:0≤n∧n≤12):QZ Tryz.prog 150 [tx (JQ x),.int .i64 n] w F (tx (JQ (x^n.toNat))):=by
 refine QS.intro (G:=fun F=>True) Tryz.func150 rfl (by rfl) rfl rfl hF (fun F' hF'=>trivial)<|J_sr<|JS_as rfl<|JS_nt<|J_sr<|JS_as rfl<|JS_nt<|QG<|J_sr<|JS_as rfl<|JS_nt<|Qa<|Z3 (ι:={i:Nat // i≤n.toNat}) [(0,_),(1,_)] (fun i=>[(5,tx (JQ (x^i.1))),(6,.int .i64 ((i.1:Nat):Int))]) (fun i=>n.toNat - i.1) (⟨0,Nat.zero_le _⟩) ⟨rfl,rfl,trivial⟩ ⟨(congrArg (fun l=>some (tx l)) (show [49]=JQ (x^0) by rw [zf,Rat.pow_zero])),rfl,trivial⟩ (fun i=>?_)
 simp only [List.cons_append,List.nil_append]
 have hi:=i.2
 have hp:=Vj x i.1
 have hm:i.1*JL x≤12*5000:=Nat.mul_le_mul (by omega) hx
 refine QG<|J_sr<|JS_mv rfl<|JS_mv rfl<|QA (QV rfl rfl rfl)<|QE<|QC ?_
 refine QR rfl (fun hc=>?_) (fun hc=>?_)
 ·
  have hlt:i.1+1≤n.toNat:=by have:=dec_t hc;omega
  refine QP<|QC<|QG<|Qa<|QB<|JS_mv rfl<|JS_mv rfl<|QI rfl (fun w F hF hT=>RI hF (by omega) (by omega)) (fun _=>JS_as rfl<|QE<|Qk<|QC<|QB<|JS_mv rfl<|QA (Qu rfl rfl (by omega))<|JS_as rfl<|QE ?_)
  exact Qo (⟨i.1+1,hlt⟩) (by show n.toNat - (i.1+1)<n.toNat - i.1;omega) ⟨rfl,rfl,(congrArg (fun l=>some (tx l)) (show JQ (x^i.1*x)=JQ (x^(i.1+1)) by rw [Rat.pow_succ])),rfl,trivial⟩ subl_r (fun F h=>h.1)
 ·
  have hge:i.1=n.toNat:=by have:=dec_f hc;omega
  refine Q5 ?_
  repeat (first | refine Qd ?_ | refine QW (by rfl) ?_)
  refine Qe<|QC<|J_sr<|JS_mv rfl<|JS_as rfl<|JS_nt<|QT ?_
  exact QQ (()) rfl (.tmp rfl .nil) (by rw [hge]) (fun F hT=>trivial)
theorem gQ {w:World} {F:Gs} {x:Rat} {b:Rat×Rat} (hF:Fits F w) (hx:JL x≤30000) (hb:CM 30000 b):QZ Tryz.prog 102 [tx (JQ x),I8 b] w F (.bool (decide (Vg b.1 x≤0)&&decide (Vg x b.2≤0))):=by
 refine QS.intro (G:=fun F=>True) Tryz.func102 rfl (by rfl) rfl rfl hF (fun F' hF'=>trivial)<|J_sr<|Qw rfl (vs:=[_,_]) rfl (fun b3=>JS_as rfl<|JS_nt<|J_sr<|QA (QH rfl Yr JR)<|QA (Qj rfl JR .here (.here .nil))<|JS_mv rfl<|QI rfl (fun w F hF hT=>LS hF (hb.1) (hx)) (fun _=>QA (QV rfl rfl rfl)<|JS_mv rfl ?_))
 refine Qn (t:=10) rfl (fun hb10=>?_) (fun hb10=>?_)
 ·
  refine QL rfl rfl<|JS_mv rfl<|QL rfl rfl<|QA (QH rfl Yz JR)<|QL rfl rfl<|QA (Qj rfl JR .here (.skip (.here .nil)))<|QL rfl rfl<|QI rfl (fun w F hF ⟨hT,_⟩=>LS hF (hx) (hb.2)) (fun _=>QL rfl rfl<|QA (QV rfl rfl rfl)<|QA (Qi rfl rfl rfl)<|JS_as rfl<|JS_nt<|QT ?_)
  exact QQ (()) rfl (.tmp rfl .nil) (congrArg Value.bool (by rw [hb10];simp)) (fun F ⟨⟨hT,_⟩,_⟩=>trivial)
 ·
  refine QO rfl rfl rfl<|QO rfl rfl rfl<|QO rfl rfl rfl<|QO rfl rfl rfl<|QO rfl rfl rfl<|QA (Qh rfl rfl rfl)<|JS_as rfl<|JS_nt<|QT ?_
  exact QQ (()) rfl (.tmp rfl .nil) (congrArg Value.bool (by rw [hb10];simp)) (fun F ⟨hT,_⟩=>trivial)
def dG (x:Rat) (b:Rat×Rat):Bool:=decide (Vg b.1 x≤0)&&decide (Vg x b.2≤0)
theorem zt {w:World} {F:Gs} {a b:Rat×Rat} (hF:Fits F w) (ha:CM 30000 a) (hb:CM 30000 b):QZ Tryz.prog 51 [I8 a,I8 b] w F (.bool (dG a.1 b&&dG a.2 b)):=by
 obtain ⟨ha1,ha2⟩:=ha
 obtain ⟨hb1,hb2⟩:=hb
 refine QS.intro (G:=fun F=>True) Tryz.func51 rfl (by rfl) rfl rfl hF (fun F' hF'=>trivial)<|J_sr<|Qw rfl (vs:=[_,_]) rfl (fun b2=>Qw rfl (vs:=[_,_]) rfl (fun b3=>JS_as rfl<|JS_nt<|J_sr<|QA (QH rfl Yr JR)<|QA (Qj rfl JR (.there .here) (.here .nil))<|QA (QJ (vs:=[_,_]) rfl JC .here (.here (.here .nil)) rfl)<|QI rfl (fun w F hF hT=>gQ hF (ha1) (⟨hb1,hb2⟩)) (fun _=>JS_mv rfl ?_)))
 refine Qn (t:=9) rfl (fun hb9=>?_) (fun hb9=>?_)
 ·
  refine QL rfl rfl<|QA (QH rfl Yz JR)<|QL rfl rfl<|QA (Qj rfl JR (.there .here) (.skip (.here .nil)))<|QL rfl rfl<|QA (QJ (vs:=[_,_]) rfl JC .here (.here (.here .nil)) rfl)<|QL rfl rfl<|QI rfl (fun w F hF ⟨hT,_⟩=>gQ hF (ha2) (⟨hb1,hb2⟩)) (fun _=>QA (Qi rfl rfl rfl)<|JS_as rfl<|JS_nt<|QT ?_)
  exact QQ (()) rfl (.tmp rfl .nil) (congrArg Value.bool (by unfold dG;rw [hb9];simp)) (fun F ⟨⟨hT,_⟩,_⟩=>trivial)
 ·
  refine QO rfl rfl rfl<|QO rfl rfl rfl<|QO rfl rfl rfl<|QO rfl rfl rfl<|QA (Qh rfl rfl rfl)<|JS_as rfl<|JS_nt<|QT ?_
  exact QQ (()) rfl (.tmp rfl .nil) (congrArg Value.bool (by unfold dG;rw [hb9];simp)) (fun F ⟨hT,_⟩=>trivial)
end
section
open Go.RowKit Ig
theorem zT {w:World} {F:Gs} {x:Rat} (hF:Fits F w) (hx:JL x≤100000):QZ Tryz.prog 35 [tx (JQ x)] w F (tx (JQ (-x))):=by
 have:=y2 (s:=JQ x) hF (by have:=Gy x;omega)
 rw [Cq] at this;exact this
theorem jG {w:World} {F:Gs} {x:Rat} (hF:Fits F w):QZ Tryz.prog 38 [tx (JQ x)] w F (.int .i64 (EP x.num)):=by
 have:=Ad (s:=JQ x) hF
 rw [LA] at this;exact this
def F3 (x:Rat) (i:Nat):Rat:=((x / Hn i).floor:Rat)*Hn i
theorem CD {x:Rat} {i:Nat} (hx:JL x≤20000) (hi:i≤64):JL (x / Hn i)≤20200∧sz (x / Hn i).floor≤20200∧JL (((x / Hn i).floor:Int):Rat)≤20200∧JL (F3 x i)≤20400:=by
 have hg:=FO i
 have hgn:=CC i
 have h1:=AU hgn
 have hd:=XA x (Hn i)⁻¹
 rw [← Rat.div_def] at hd
 have hf:=Hy (x / Hn i)
 have hfi:=DU (x / Hn i).floor
 have hm:=XA (((x / Hn i).floor:Int):Rat) (Hn i)
 unfold F3
 omega
theorem gm {w:World} {F:Gs} {a:Rat×Rat} {b:Int} (hF:Fits F w) (ha:CM 20000 a) (h0:0≤b) (h1:b≤64):QZ Tryz.prog 27 [I8 a,.int .i64 b] w F (I8 (F3 a.1 b.toNat,-F3 (-a.2) b.toNat)):=by
 obtain ⟨ha1,ha2⟩:=ha
 have hg:=FO b.toNat
 have hgn:=CC b.toNat
 obtain ⟨f1,f2,f3,f4⟩:=CD (x:=a.1) (i:=b.toNat) ha1 (by omega)
 have hn2:JL (-a.2)≤20000:=by rw [Hv];exact ha2
 obtain ⟨g1,g2,g3,g4⟩:=CD (x:=-a.2) (i:=b.toNat) hn2 (by omega)
 have l2:=Gy a.2
 have l3:=Gy (F3 (-a.2) b.toNat)
 refine QS.intro (G:=fun F=>True) Tryz.func27 rfl (by rfl) rfl rfl hF (fun F' hF'=>trivial)<|J_sr<|Qw rfl (vs:=[_,_]) rfl (fun b2=>Qb ZN (fun b4=>JS_nt<|J_sr<|JS_mv rfl<|QI rfl (fun w F hF hT=>vt hF (h0) (by omega)) (fun _=>JS_as rfl<|JS_nt<|QG<|JN (.cons _ (.cons_cons _ .slnil)) mixed (by kernel_rfl)<|QK (QH rfl Yr JR)<|QK (Qj rfl JR .here (.here .nil))<|QK (QD rfl)<|QY rfl (fun w F hF ⟨hT,_⟩=>y5 hF (hgn) (by omega) (by omega)) (fun _=>QY rfl (fun w F hF ⟨⟨hT,_⟩,_⟩=>jL hF (by omega)) (fun _=>QK (QD rfl)<|QY rfl (fun w F hF ⟨⟨⟨hT,_⟩,_⟩,_⟩=>RI hF (by omega) (by omega)) (fun _=>QK (QH rfl Yz JR)<|QK (Qj rfl JR .here (.skip (.here .nil))) ?_))))))
 refine QY rfl (fun w F hF ⟨⟨⟨⟨hT,_⟩,_⟩,_⟩,_⟩=>zT hF (by omega)) (fun _=>QK (QD rfl)<|QY rfl (fun w F hF ⟨⟨⟨⟨⟨hT,_⟩,_⟩,_⟩,_⟩,_⟩=>y5 hF (hgn) (by omega) (by omega)) (fun _=>QY rfl (fun w F hF ⟨⟨⟨⟨⟨⟨hT,_⟩,_⟩,_⟩,_⟩,_⟩,_⟩=>jL hF (by omega)) (fun _=>QK (QD rfl)<|QY rfl (fun w F hF ⟨⟨⟨⟨⟨⟨⟨hT,_⟩,_⟩,_⟩,_⟩,_⟩,_⟩,_⟩=>RI hF (by omega) (by omega)) (fun _=>QY rfl (fun w F hF ⟨⟨⟨⟨⟨⟨⟨⟨hT,_⟩,_⟩,_⟩,_⟩,_⟩,_⟩,_⟩,_⟩=>zT hF (by show JL (F3 (-a.2) b.toNat)≤100000;omega)) (fun _=>QK (Qy rfl Z7 ZN (.cons (vs:=[_]) rfl rfl rfl (.here .nil) (.cons (vs:=[_]) rfl rfl rfl (.skip (.here .nil)) .nil)))<|Q7 (vs:=[_,_]) rfl rfl rfl JC rfl .here (.cons_cons _ .slnil) (fun _ h=>h.1.1.1.1.1.1.1.1) (.here (.here .nil)) ⟨rfl,rfl,trivial⟩<|Q4<|QC<|QT ?_)))))
 exact QQ (()) rfl (.JU (c:=[_,_]) rfl JC .here .nil) (rfl) (fun F ⟨⟨⟨⟨⟨⟨⟨⟨⟨hT,_⟩,_⟩,_⟩,_⟩,_⟩,_⟩,_⟩,_⟩,_⟩=>trivial)
def kB (a:Rat×Rat) (n:Int):Rat×Rat:=(if(decide (n>0)&&(decide (n%2=0)&&(decide (EP a.1.num<0)&&decide (EP a.2.num>0))))=true then 0 else PZ (a.1^n.toNat) (a.2^n.toNat),Np (a.1^n.toNat) (a.2^n.toNat))
theorem CR {w:World} {F:Gs} {a:Rat×Rat} {n:Int} (hF:Fits F w) (ha:CM 2000 a) (hn:0≤n∧n≤12):QZ Tryz.prog 50 [I8 a,.int .i64 n] w F (I8 (kB a n)):=by
 obtain ⟨ha1,ha2⟩:=ha
 have p1:=Vj a.1 n.toNat
 have p2:=Vj a.2 n.toNat
 have m1:n.toNat*JL a.1≤12*2000:=Nat.mul_le_mul (by omega) ha1
 have m2:n.toNat*JL a.2≤12*2000:=Nat.mul_le_mul (by omega) ha2
 refine QS.intro (G:=fun F=>True) Tryz.func50 rfl (by rfl) rfl rfl hF (fun F' hF'=>trivial)<|J_sr<|Qw rfl (vs:=[_,_]) rfl (fun b2=>Qb ZN (fun b4=>JS_nt<|QG<|JN subl_r mixed (by kernel_rfl)<|QK (QH rfl Yr JR)<|QK (Qj rfl JR (.there .here) (.here .nil))<|QK (QD rfl)<|QY rfl (fun w F hF hT=>jH hF (by omega) (hn)) (fun _=>QK (QH rfl Yz JR)<|QK (Qj rfl JR (.there .here) (.skip (.here .nil)))<|QK (QD rfl)<|QY rfl (fun w F hF ⟨hT,_⟩=>jH hF (by omega) (hn)) (fun _=>QK (QF rfl)<|QK (QF rfl)<|Q4<|QC<|J_sr<|JS_mv rfl<|JS_mv rfl ?_))))
 refine QI rfl (fun w F hF ⟨⟨hT,_⟩,_⟩=>CT hF (by omega) (by omega)) (fun _=>JS_mv rfl<|JS_mv rfl<|QI rfl (fun w F hF ⟨⟨⟨hT,_⟩,_⟩,_⟩=>CU hF (by omega) (by omega)) (fun _=>QA (Qy rfl Z7 ZN (.cons (vs:=[_]) rfl rfl rfl (.here .nil) (.cons (vs:=[_]) rfl rfl rfl (.skip (.here .nil)) .nil)))<|Qb ZN (fun b7=>QN (vs:=[_,_]) rfl rfl rfl JC rfl .here (.here (.here .nil)) ⟨rfl,rfl,trivial⟩<|JS_nt<|QG ?_)))
 refine KZ [(4,_),(7,_)] [(41,.bool ((decide (n>0)&&(decide (n%2=0)&&(decide (EP a.1.num<0)&&decide (EP a.2.num>0))))))] ⟨rfl,rfl,trivial⟩ ?_ ?_
 ·
  refine QB<|JS_mv rfl<|QA (QV rfl rfl rfl)<|JS_mv rfl ?_
  refine Qn (t:=25) rfl (fun hb25=>?_) (fun hb25=>?_)
  ·
   refine QL rfl rfl<|JS_mv rfl<|QL rfl rfl<|QA (Kc rfl rfl (by omega) (by omega))<|QL rfl rfl<|QA (QV rfl rfl rfl)<|QA (Qi rfl rfl rfl)<|JS_mv rfl ?_
   refine Qn (t:=30) rfl (fun hb30=>?_) (fun hb30=>?_)
   ·
    refine QL rfl rfl<|QA (QH rfl Yr JR)<|QL rfl rfl<|QA (Qj rfl JR (.there (.there .here)) (.here .nil))<|QL rfl rfl<|QI rfl (fun w F hF ⟨⟨⟨⟨hT,_⟩,_⟩,_⟩,_⟩=>jG hF ) (fun _=>QL rfl rfl<|QA (QV rfl rfl rfl)<|QA (Qi rfl rfl rfl)<|JS_mv rfl ?_)
    refine Qn (t:=36) rfl (fun hb36=>?_) (fun hb36=>?_)
    ·
     refine QL rfl rfl<|QA (QH rfl Yz JR)<|QL rfl rfl<|QA (Qj rfl JR (.there (.there .here)) (.skip (.here .nil)))<|QL rfl rfl<|QI rfl (fun w F hF ⟨⟨⟨⟨⟨hT,_⟩,_⟩,_⟩,_⟩,_⟩=>jG hF ) (fun _=>QL rfl rfl<|QA (QV rfl rfl rfl)<|QA (Qi rfl rfl rfl)<|QE ?_)
     exact X0 ⟨rfl,rfl,(congrArg (fun b=>some (Value.bool b)) (by rw [Bool.eq_iff_iff];simp_all<;>(intros;omega))),trivial⟩ subl_r (fun _ h=>h.1.1)
    ·
     refine QO rfl rfl rfl<|QO rfl rfl rfl<|QO rfl rfl rfl<|QO rfl rfl rfl<|QA (Qh rfl rfl rfl)<|QE ?_
     exact X0 ⟨rfl,rfl,(congrArg (fun b=>some (Value.bool b)) (by rw [Bool.eq_iff_iff];simp_all<;>(intros;omega))),trivial⟩ subl_r (fun _ h=>h.1)
   ·
    refine QO rfl rfl rfl<|QO rfl rfl rfl<|QO rfl rfl rfl<|QO rfl rfl rfl<|QA (Qh rfl rfl rfl)<|JS_mv rfl<|QO rfl rfl rfl<|QO rfl rfl rfl<|QO rfl rfl rfl<|QO rfl rfl rfl<|QA (Qh rfl rfl rfl)<|QE ?_
    exact X0 ⟨rfl,rfl,(congrArg (fun b=>some (Value.bool b)) (by rw [Bool.eq_iff_iff];simp_all<;>(intros;omega))),trivial⟩ subl_r (fun _ h=>h)
  ·
   refine QO rfl rfl rfl<|QO rfl rfl rfl<|QO rfl rfl rfl<|QA (Qh rfl rfl rfl)<|JS_mv rfl<|QO rfl rfl rfl<|QO rfl rfl rfl<|QO rfl rfl rfl<|QO rfl rfl rfl<|QA (Qh rfl rfl rfl)<|JS_mv rfl<|QO rfl rfl rfl<|QO rfl rfl rfl<|QO rfl rfl rfl<|QO rfl rfl rfl<|QA (Qh rfl rfl rfl)<|QE ?_
   exact X0 ⟨rfl,rfl,(congrArg (fun b=>some (Value.bool b)) (by rw [Bool.eq_iff_iff];simp_all<;>(intros;omega))),trivial⟩ subl_r (fun _ h=>h)
 ·
  simp only [List.cons_append,List.nil_append]
  refine QR rfl (fun hc=>?_) (fun hc=>?_)
  ·
   refine QB<|QA (QH rfl Yr JR)<|QN (vs:=[_]) rfl rfl rfl JR rfl .here (.here .nil) ⟨rfl,trivial⟩<|JS_nt<|J_sr<|QA (QJ (vs:=[_,_]) rfl JC .here (.here (.here .nil)) rfl)<|QN (vs:=[_,_]) rfl rfl rfl JC rfl (.there .here) (.here (.here .nil)) ⟨rfl,rfl,trivial⟩<|JS_nt<|QT ?_
   exact QQ (()) rfl (.JU (c:=[_,_]) rfl JC (.there .here) .nil) (by unfold kB;rw [if_pos hc];show Value.agg #[tx (JQ 0),tx (JQ (Np (a.1^n.toNat) (a.2^n.toNat)))]=_;rw [PI]) (fun F ⟨⟨⟨⟨hT,_⟩,_⟩,_⟩,_⟩=>trivial)
  ·
   refine QP<|QC<|J_sr<|QA (QJ (vs:=[_,_]) rfl JC .here (.here (.here .nil)) rfl)<|QN (vs:=[_,_]) rfl rfl rfl JC rfl (.there .here) (.here (.here .nil)) ⟨rfl,rfl,trivial⟩<|JS_nt<|QT ?_
   exact QQ (()) rfl (.JU (c:=[_,_]) rfl JC (.there .here) .nil) (by unfold kB;rw [if_neg (by rw [hc];decide)]) (fun F ⟨⟨⟨⟨hT,_⟩,_⟩,_⟩,_⟩=>trivial)
theorem CV {w:World} {F:Gs} {lo hi:List UInt8} (hF:Fits F w) (hl:lo.length≤1000000∧hi.length≤1000000):QZ Tryz.prog 125 [.agg #[tx lo,tx hi]] w F (.int .i64 (Qm [BJ lo,BJ hi])):=by
 refine QS.intro (G:=fun F=>True) Tryz.func125 rfl (by rfl) rfl rfl hF (fun F' hF'=>trivial)<|J_sr<|Qw rfl (vs:=[_,_]) rfl (fun b1=>JS_as rfl<|JS_nt<|J_sr<|QA (QH rfl Yr JR)<|QA (Qj rfl JR .here (.here .nil))<|QA (QH rfl Yz JR)<|QA (Qj rfl JR .here (.skip (.here .nil)))<|QU rfl (Q6 SD) JR vX rfl rfl (fun b7=>QI rfl (fun w F hF ⟨hT,hs7⟩=>jK hF (n:=2) (l:=[lo,hi]) (Q9.of (n:=2) (sz:=1) hs7 rfl) (⟨rfl,fun s hs=>by simp at hs;rcases hs with rfl | rfl;exact hl.1;exact hl.2⟩) (by omega)) (fun _=>JS_as rfl<|JS_nt<|QT ?_)))
 exact QQ (()) rfl (.tmp rfl .nil) (rfl) (fun F ⟨⟨hT,hs7⟩,_⟩=>trivial)
end
section
open Go Go.RowKit
section
variable [Dr] [df:Df]
section
variable {P:Program} {Q:Exit→Act→World→Prop} {N:Nat} {m:Sl} {E E0:Env} {l:List Oper} {r r':List Nat} {w0:World} {F0:Gs} {bs:List (Nat×Obj)} {G:Gs→Prop}
theorem gS (i j k:Nat) {o u x:Oper} {r2 r3:List Nat} (hp:Nb l r=none) (hl:r.filter (Wa l r)=[i,j,k]) (ho:l[i]?=some o) (hu:l[j]?=some u) (hx:l[k]?=some x) (hq:Jo o.op=false) (hq2:Jo u.op=false) (hq3:Jo x.op=false) (he:r.erase i=r') (he2:r.erase j=r2) (he3:r.erase k=r3)
  (h:JD P l.toArray (Xd (GZ P l Q E0 r')) E0 [o] N m E) (h2:JD P l.toArray (Xd (GZ P l Q E0 r2)) E0 [u] N m E) (h3:JD P l.toArray (Xd (GZ P l Q E0 r3)) E0 [x] N m E) (hr:r≠[]:=by decide):JT P l Q E0 r N m E :=
 yV hp (fun y hk=>by
  rw [hl] at hk
  simp only [List.mem_cons,List.not_mem_nil,or_false] at hk
  rcases hk with rfl | rfl | rfl
  ·exact⟨o,ho,hq,he ▸ h⟩
  ·exact⟨u,hu,hq2,he2 ▸ h2⟩
  ·exact⟨x,hx,hq3,he3 ▸ h3⟩) hr
end
end
end
section
open Go.RowKit Ig
theorem CA {w:World} {F:Gs} {b:Bool} {e:Int} (hF:Fits F w):QZ Tryz.prog 19 [.bool b,.int .i64 e] w F (.int .i64 (if b=true then e else 0)):=by
 refine QS.intro (G:=fun F=>True) Tryz.func19 rfl (by rfl) rfl rfl hF (fun F' hF'=>trivial)<|J_sr<|JS_as rfl<|JS_nt<|QG<|J_sr<|JS_mv rfl<|QE<|QC ?_
 refine QR rfl (fun hc=>?_) (fun hc=>?_)
 ·
  have hb:b=true:=hc
  refine J_sr<|JS_mv rfl<|JS_as rfl<|JS_nt<|QT ?_
  exact QQ (()) rfl (.tmp rfl .nil) (congrArg (Value.int .i64) (if_pos hb)) (fun F _=>trivial)
 ·
  have hb:b=false:=hc
  refine QP<|QC<|J_sr<|JS_as rfl<|JS_nt<|QT ?_
  exact QQ (()) rfl (.tmp rfl .nil) (congrArg (Value.int .i64) (if_neg (by rw [hb];decide))) (fun F _=>trivial)
theorem OI {w:World} {F:Gs} {q:Option Addr} {n c:Nat} {l:List Int} (hF:Fits F w) (hR:Q9 F q n 1 (l.map Qx)) (hn:n≤1000000000):QZ Tryz.prog 23 [.slice q n c] w F (.int .i64 (Qm l)):=by
 have hln:l.length=n:=by have:=hR.1;simpa using this
 refine QS.intro (G:=fun F=>Q9 F q n 1 (l.map Qx)) Tryz.func23 rfl (by rfl) rfl rfl hF (fun F' hF'=>hR.le hF')<|J_sr<|JS_as rfl<|JS_nt<|QG<|J_sr<|JS_as rfl<|JS_nt<|Qa<|Z3 (ι:=Yj l (fun x=>x)) [(0,_)] (fun i=>[(3,.int .i64 ((i.i:Nat):Int))]) (fun i=>l.length - i.i) (Yj.start _ _) ⟨rfl,trivial⟩ ⟨rfl,trivial⟩ (fun i=>?_)
 simp only [List.cons_append,List.nil_append]
 have hi:=i.le
 refine QG<|J_sr<|JS_mv rfl<|JS_mv rfl<|QA (Ql rfl Qf)<|QA (QV rfl rfl rfl)<|QE<|QC ?_
 refine QR rfl (fun hc=>?_) (fun hc=>?_)
 ·
  have hlt:i.i<l.length:=by have:=dec_t hc;omega
  refine QP<|QC<|QG<|Qa<|J_sr<|JS_mv rfl<|JS_mv rfl<|QA (Ja (n:=n) (i.i) (fun F hR=>hR) rfl rfl Qf Qp (by omega))<|QA (Jk (n:=n) ((i.i)*1) (fun F hR=>hR) (by omega) rfl Qp (JO (o:=l) (by omega)))<|QA (QV rfl rfl rfl)<|QE<|QC ?_
  refine QR rfl (fun hc=>?_) (fun hc=>?_)
  ·
   refine J_sr<|JS_mv rfl<|JS_mv rfl<|QA (Ja (n:=n) (i.i) (fun F hR=>hR) rfl rfl Qf Qp (by omega))<|QA (Jk (n:=n) ((i.i)*1) (fun F hR=>hR) (by omega) rfl Qp (JO (o:=l) (by omega)))<|JS_as rfl<|JS_nt<|QT ?_
   repeat (first | refine JJ ?_ | refine JA ?_)
   exact QQ (()) rfl (.tmp rfl .nil) (congrArg (Value.int .i64) (by rw [Xp hlt,H9 l];exact i.hit hlt (by rw [← Xp hlt];exact bne_iff_ne.1 hc))) (fun F hR=>trivial)
  ·
   refine QP<|Qk<|QC<|QB<|JS_mv rfl<|QA (Qu rfl rfl (by omega))<|JS_as rfl<|QE ?_
   exact Qo (i.next hlt (by rw [← Xp hlt];exact bne_eq_false_iff_eq.1 hc)) (by show l.length - (i.i+1)<l.length - i.i;omega) ⟨rfl,rfl,trivial⟩ subl_r (fun F h=>h)
 ·
  have hge:l.length≤i.i:=by have:=dec_f hc;omega
  refine Q5 ?_
  repeat (first | refine Qd ?_ | refine QW (by rfl) ?_)
  refine Qe<|QC<|J_sr<|JS_as rfl<|JS_nt<|QT ?_
  exact QQ (()) rfl (.tmp rfl .nil) (congrArg (Value.int .i64) (by rw [H9 l];exact i.stop hge)) (fun F hR=>trivial)
end
section
open Go.RowKit Ig
section
variable [Dr] [df:Df] {N:Nat} {m:Sl} {S:World→Prop} {ty:TypeId}
theorem jR {yT:TypeId} {x y:Operand} {a b c d:List UInt8} (hx:ev m x=some (.agg #[tx a,tx b])) (hy:ev m y=some (.agg #[tx c,tx d])):Qt Tryz.prog N m S (.binOp .eql 24 x y yT) ty (.bool (decide (a=c)&&decide (b=d))):=fun ac w _ _ _ _ ha _=>by
 have h1:=equal_span w a b c d
 simp only [execOp,ha.ev hx,ha.ev hy,Sem.run_bind]
 have h2:(eqGuard .eql 24 x y (.agg #[tx a,tx b]) (.agg #[tx c,tx d])).run Tryz.prog w = .ok () w:=by
  simp [eqGuard,P9]
 rw [h2]
 simp [binOp,h1]
end
end
section
open Go.RowKit Ig
def GO (w:List UInt8×List UInt8):Int:=Qm [BJ w.1,BJ w.2]
def UN (have_:List UInt8×List UInt8) (e bad:Int) (want:List UInt8×List UInt8):Bool :=
 if bad=0 then(if GO want=0 then(e==0)&&(decide (have_.1=want.1)&&decide (have_.2=want.2)) else(have_.1==[])&&((have_.2==[])&&(e==GO want))) else(have_.1==[])&&((have_.2==[])&&(e==bad))
theorem zi {w:World} {F:Gs} {a b:List UInt8×List UInt8} {e d:Int} (hF:Fits F w) (hl:b.1.length≤1000000∧b.2.length≤1000000):QZ Tryz.prog 26 [.agg #[tx a.1,tx a.2],.int .i64 e,.int .i64 d,.agg #[tx b.1,tx b.2]] w F (.bool (UN a e d b)):=by
 refine QS.intro (G:=fun F=>True) Tryz.func26 rfl (by rfl) rfl rfl hF (fun F' hF'=>trivial)<|J_sr<|Qw rfl (vs:=[_,_]) rfl (fun b4=>Qw rfl (vs:=[_,_]) rfl (fun b7=>JS_as rfl<|JS_nt<|QG<|J_sr<|JS_mv rfl<|QA (QV rfl rfl rfl)<|QE<|QC ?_))
 refine QR rfl (fun hc=>?_) (fun hc=>?_)
 ·
  have h10:=eq_of_beq hc
  refine QB<|QA (QJ (vs:=[_,_]) rfl JC .here (.here (.here .nil)) rfl)<|QI rfl (fun w F hF _=>CV hF (hl)) (fun _=>JS_as rfl<|JS_nt<|QG<|J_sr<|JS_mv rfl<|QA (QV rfl rfl rfl)<|QE<|QC ?_)
  refine QR rfl (fun hc=>?_) (fun hc=>?_)
  ·
   have h14:=bne_iff_ne.1 hc
   refine J_sr<|QA (QH rfl Yr JR)<|QA (Qj rfl JR (.there .here) (.here .nil))<|QA (K3 rfl rfl)<|JS_mv rfl ?_
   refine Qn (t:=18) rfl (fun hb18=>?_) (fun hb18=>?_)
   ·
    refine QL rfl rfl<|QA (QH rfl Yz JR)<|QL rfl rfl<|QA (Qj rfl JR (.there .here) (.skip (.here .nil)))<|QL rfl rfl<|QA (K3 rfl rfl)<|QA (Qi rfl rfl rfl)<|JS_mv rfl ?_
    refine Qn (t:=23) rfl (fun hb23=>?_) (fun hb23=>?_)
    ·
     refine QL rfl rfl<|JS_mv rfl<|QL rfl rfl<|JS_mv rfl<|QL rfl rfl<|QA (QV rfl rfl rfl)<|QA (Qi rfl rfl rfl)<|JS_as rfl<|JS_nt<|QT ?_
     exact QQ (()) rfl (.tmp rfl .nil) (congrArg Value.bool (by unfold UN GO;simp_all)) (fun F ⟨_,_⟩=>trivial)
    ·
     refine QO rfl rfl rfl<|QO rfl rfl rfl<|QO rfl rfl rfl<|QA (Qh rfl rfl rfl)<|JS_as rfl<|JS_nt<|QT ?_
     exact QQ (()) rfl (.tmp rfl .nil) (congrArg Value.bool (by unfold UN GO;simp_all)) (fun F ⟨_,_⟩=>trivial)
   ·
    refine QO rfl rfl rfl<|QO rfl rfl rfl<|QO rfl rfl rfl<|QA (Qh rfl rfl rfl)<|JS_mv rfl<|QO rfl rfl rfl<|QO rfl rfl rfl<|QO rfl rfl rfl<|QA (Qh rfl rfl rfl)<|JS_as rfl<|JS_nt<|QT ?_
    exact QQ (()) rfl (.tmp rfl .nil) (congrArg Value.bool (by unfold UN GO;simp_all)) (fun F ⟨_,_⟩=>trivial)
  ·
   have h14:=bne_eq_false_iff_eq.1 hc
   refine QP<|QC<|J_sr<|JS_mv rfl<|QA (QV rfl rfl rfl)<|JS_mv rfl ?_
   refine Qn (t:=30) rfl (fun hb30=>?_) (fun hb30=>?_)
   ·
    refine QL rfl rfl<|QA (QJ (vs:=[_,_]) rfl JC (.there .here) (.here (.here .nil)) rfl)<|QL rfl rfl<|QA (QJ (vs:=[_,_]) rfl JC .here (.here (.here .nil)) rfl)<|QL rfl rfl<|QA (jR rfl rfl)<|QA (Qi rfl rfl rfl)<|JS_as rfl<|JS_nt<|QT ?_
    exact QQ (()) rfl (.tmp rfl .nil) (congrArg Value.bool (by unfold UN GO;simp_all)) (fun F ⟨_,_⟩=>trivial)
   ·
    refine QO rfl rfl rfl<|QO rfl rfl rfl<|QO rfl rfl rfl<|QA (Qh rfl rfl rfl)<|JS_as rfl<|JS_nt<|QT ?_
    exact QQ (()) rfl (.tmp rfl .nil) (congrArg Value.bool (by unfold UN GO;simp_all)) (fun F ⟨_,_⟩=>trivial)
 ·
  have h10:¬ d=0:=fun e=>by rw [e] at hc;cases hc
  refine QP<|QC<|QG<|J_sr<|JS_mv rfl<|QA (QV rfl rfl rfl)<|QE<|QC ?_
  refine QR rfl (fun hc=>?_) (fun hc=>?_)
  ·
   have h14:=bne_iff_ne.1 hc
   refine J_sr<|QA (QH rfl Yr JR)<|QA (Qj rfl JR (.there .here) (.here .nil))<|QA (K3 rfl rfl)<|JS_mv rfl ?_
   refine Qn (t:=18) rfl (fun hb18=>?_) (fun hb18=>?_)
   ·
    refine QL rfl rfl<|QA (QH rfl Yz JR)<|QL rfl rfl<|QA (Qj rfl JR (.there .here) (.skip (.here .nil)))<|QL rfl rfl<|QA (K3 rfl rfl)<|QA (Qi rfl rfl rfl)<|JS_mv rfl ?_
    refine Qn (t:=23) rfl (fun hb23=>?_) (fun hb23=>?_)
    ·
     refine QL rfl rfl<|JS_mv rfl<|QL rfl rfl<|JS_mv rfl<|QL rfl rfl<|QA (QV rfl rfl rfl)<|QA (Qi rfl rfl rfl)<|JS_as rfl<|JS_nt<|QT ?_
     exact QQ (()) rfl (.tmp rfl .nil) (congrArg Value.bool (by unfold UN GO;simp_all)) (fun F _=>trivial)
    ·
     refine QO rfl rfl rfl<|QO rfl rfl rfl<|QO rfl rfl rfl<|QA (Qh rfl rfl rfl)<|JS_as rfl<|JS_nt<|QT ?_
     exact QQ (()) rfl (.tmp rfl .nil) (congrArg Value.bool (by unfold UN GO;simp_all)) (fun F _=>trivial)
   ·
    refine QO rfl rfl rfl<|QO rfl rfl rfl<|QO rfl rfl rfl<|QA (Qh rfl rfl rfl)<|JS_mv rfl<|QO rfl rfl rfl<|QO rfl rfl rfl<|QO rfl rfl rfl<|QA (Qh rfl rfl rfl)<|JS_as rfl<|JS_nt<|QT ?_
    exact QQ (()) rfl (.tmp rfl .nil) (congrArg Value.bool (by unfold UN GO;simp_all)) (fun F _=>trivial)
  ·
   have h14:=bne_eq_false_iff_eq.1 hc
   refine QP<|QC<|J_sr<|JS_mv rfl<|QA (QV rfl rfl rfl)<|JS_mv rfl ?_
   refine Qn (t:=30) rfl (fun hb30=>?_) (fun hb30=>?_)
   ·
    refine QL rfl rfl<|QA (QJ (vs:=[_,_]) rfl JC (.there .here) (.here (.here .nil)) rfl)<|QL rfl rfl<|QA (QJ (vs:=[_,_]) rfl JC .here (.here (.here .nil)) rfl)<|QL rfl rfl<|QA (jR rfl rfl)<|QA (Qi rfl rfl rfl)<|JS_as rfl<|JS_nt<|QT ?_
    exact QQ (()) rfl (.tmp rfl .nil) (congrArg Value.bool (by unfold UN GO;simp_all)) (fun F _=>trivial)
   ·
    refine QO rfl rfl rfl<|QO rfl rfl rfl<|QO rfl rfl rfl<|QA (Qh rfl rfl rfl)<|JS_as rfl<|JS_nt<|QT ?_
    exact QQ (()) rfl (.tmp rfl .nil) (congrArg Value.bool (by unfold UN GO;simp_all)) (fun F _=>trivial)
end
section
open Go.RowKit Ig
theorem ku (z:Int):O4 (Xu z)=Lib.decDigits z.natAbs:=by
 have h:=LA ((z:Int):Rat)
 rw [qC,show((z:Int):Rat).num=z from by simp] at h
 unfold O4
 rw [h]
 unfold EP
 by_cases h0:z<0
 ·rw [if_pos h0,if_pos (by decide),YB h0];rfl
 ·rw [if_neg h0,Jx (by omega),if_neg (by split<;>decide)]
theorem CB (x:Rat):BJ (JQ x)=if Xi x=true then 4 else 0:=by
 have hn:decide (600<(O4 (numOf (JQ x))).length)=Dk x.num:=by
  have e:numOf (JQ x)=Xu x.num:=by
   unfold numOf
   by_cases h:x.den=1
   ·obtain ⟨h1,h2⟩:=Ni h
    rw [h2,List.take_length,h1]
   ·exact(G7 h).2.2.1
  rw [e,ku]
  unfold Dk
  exact decide_eq_decide.2 (As _)
 have hd:decide (600<(T8 (JQ x)).length)=Dk x.den:=by
  unfold T8 Dk
  by_cases h:x.den=1
  ·rw [if_pos ((Nj x).2 h),h]
   have h1:¬ lim≤(((1:Nat):Int)).natAbs:=by
    exact Nat.not_le.2 (Nat.lt_of_le_of_lt Nat.one_le_two_pow Io)
   rw [decide_eq_false h1]
   simp
  ·rw [if_neg fun e=>h ((Nj x).1 e),(G7 h).2.2.2]
   exact decide_eq_decide.2 (As _)
 unfold BJ Xi
 rw [hn,hd]
theorem yr (x:Rat×Rat):UN (Vi x).1 (Vi x).2 0 (JQ x.1,JQ x.2)=true:=by
 unfold UN Vi GO
 dsimp only
 rw [if_pos rfl,CB,CB]
 cases Xi x.1<;>cases Xi x.2<;>simp [Qm]
theorem vd {d:Int} (h:d≠0) (w:List UInt8×List UInt8):UN ([],[]) d d w=true:=by
 unfold UN;rw [if_neg h];simp
end
section
open Go.RowKit Ig
section
variable {w:World} {F:Gs}
theorem AX {p:(List UInt8×List UInt8)×Int} {d:Int} {u:List UInt8×List UInt8} (hF:Fits F w) (hd:d≠0) (hp:p=(([],[]),d)) (hu:u.1.length≤1000000∧u.2.length≤1000000):QZ Tryz.prog 26 [.agg #[tx p.1.1,tx p.1.2],.int .i64 p.2,.int .i64 d,.agg #[tx u.1,tx u.2]] w F (.bool true):=by
 rw [hp]
 have h:=zi (a:=([],[])) (b:=u) (e:=d) (d:=d) hF hu
 rw [vd hd] at h
 exact h
theorem O7 {p:(List UInt8×List UInt8)×Int} {r:Rat×Rat} (hF:Fits F w) (hp:p=Vi r) (hr:JL r.1≤400000∧JL r.2≤400000):QZ Tryz.prog 26 [.agg #[tx p.1.1,tx p.1.2],.int .i64 p.2,.int .i64 0,.agg #[tx (JQ r.1),tx (JQ r.2)]] w F (.bool true):=by
 rw [hp]
 have h:=zi (a:=(Vi r).1) (b:=(JQ r.1,JQ r.2)) (e:=(Vi r).2) (d:=0) hF ⟨by have:=Gy r.1;show(JQ r.1).length≤_;omega,by have:=Gy r.2;show(JQ r.2).length≤_;omega⟩
 rw [yr] at h
 exact h
variable {a b:List UInt8}
end
theorem Lx {op:Rat×Rat→Rat×Rat→Rat×Rat} {a b:List UInt8×List UInt8} (h:¬ Qm [JM a.1 a.2,JM b.1 b.2]=0):Yf op a b=(([],[]),Qm [JM a.1 a.2,JM b.1 b.2]):=if_neg h
theorem Ff {op:Rat×Rat→Rat×Rat→Rat×Rat} {a b:List UInt8×List UInt8} (h:Qm [JM a.1 a.2,JM b.1 b.2]=0):Yf op a b=Vi (op (Ju a.1,Ju a.2) (Ju b.1,Ju b.2)):=if_pos h
end
section
open Go.RowKit Ig
def AQ (a b:List UInt8×List UInt8):Bool×Int:=if Qm [JM a.1 a.2,JM b.1 b.2]=0 then(decide (0≤Vg (Ju a.1) (Ju b.1))&&decide (Vg (Ju a.2) (Ju b.2)≤0),0) else(false,Qm [JM a.1 a.2,JM b.1 b.2])
theorem ya {w:World} {F:Gs} {a b:List UInt8×List UInt8} (hF:Fits F w) (hGl:JB F) (ha:short a) (hb:short b):QZ Tryz.prog 49 [.agg #[tx a.1,tx a.2],.agg #[tx b.1,tx b.2]] w F (.tuple #[.bool (AQ a b).1,.int .i64 (AQ a b).2]):=by
 refine QS.intro (G:=fun F=>JB F) Tryz.func49 rfl (by rfl) rfl rfl hF (fun F' hF'=>hGl.le hF')<|J_sr<|Qw rfl (vs:=[_,_]) rfl (fun b2=>Qw rfl (vs:=[_,_]) rfl (fun b3=>JS_as rfl<|JS_as rfl<|JS_nt<|QG<|QG<|JN subl_r mixed (by kernel_rfl)<|QK (QJ (vs:=[_,_]) rfl JC (.there .here) (.here (.here .nil)) rfl)<|QY rfl (fun w F hF hGl=>YX hF hGl (ha)) (fun _=>QK (QJ (vs:=[_,_]) rfl JC .here (.here (.here .nil)) rfl)<|QY rfl (fun w F hF ⟨hGl,_⟩=>YX hF hGl (hb)) (fun _=>?_))))
 refine Jp rfl (Q6 ZX) Yp Ho rfl rfl (fun b13=>?_) (fun w h=>h.imp (.cons_cons _ (.cons_cons _ .slnil)) (fun F h=>h.1.1))
 refine QY rfl (fun w F hF ⟨⟨⟨hGl,_⟩,_⟩,hs13⟩=>Zm hF (Q9.of (n:=2) (sz:=1) (cs:=List.map Qx [JM a.1 a.2,JM b.1 b.2]) hs13 rfl) (by decide)) (fun _=>QK (QF rfl)<|Q4<|QC<|J_sr<|JS_mv rfl<|QA (QV rfl rfl rfl)<|QE<|QC ?_)
 refine QR rfl (fun hc=>?_) (fun hc=>?_)
 ·
  have hbad:¬ Qm [JM a.1 a.2,JM b.1 b.2]=0:=by simpa using hc
  refine J_sr<|JS_mv rfl<|JS_as rfl<|JS_as rfl<|JS_nt<|QT ?_
  exact JY (()) rfl (.tmp rfl (.tmp rfl .nil)) (by unfold AQ;rw [if_neg hbad]) (fun F ⟨⟨⟨⟨hGl,_⟩,_⟩,hs13⟩,_⟩=>trivial)
 ·
  have h0:Qm [JM a.1 a.2,JM b.1 b.2]=0:=by simpa using hc
  have h1:=Zf h0
  have hoka:=Z2 h1.1
  have hokb:=Z2 h1.2
  refine QP<|QC ?_
  refine T3 (ι:=(Nat×Nat)×Sp×Sp) [] (fun i=>[(7,.pointer (some ⟨i.1.1,0,none⟩)),(8,.pointer (some ⟨i.1.2,0,none⟩))]) (fun i=>[(i.1.2,.cells [.int .i64 i.2.2.lo.n.s,.slice i.2.2.lo.n.q i.2.2.lo.n.n i.2.2.lo.n.cap,.int .i64 i.2.2.lo.d.s,.slice i.2.2.lo.d.q i.2.2.lo.d.n i.2.2.lo.d.cap,.int .i64 i.2.2.hi.n.s,.slice i.2.2.hi.n.q i.2.2.hi.n.n i.2.2.hi.n.cap,.int .i64 i.2.2.hi.d.s,.slice i.2.2.hi.d.q i.2.2.hi.d.n i.2.2.hi.d.cap].toArray 138 (0,0)),(i.1.1,.cells [.int .i64 i.2.1.lo.n.s,.slice i.2.1.lo.n.q i.2.1.lo.n.n i.2.1.lo.n.cap,.int .i64 i.2.1.lo.d.s,.slice i.2.1.lo.d.q i.2.1.lo.d.n i.2.1.lo.d.cap,.int .i64 i.2.1.hi.n.s,.slice i.2.1.hi.n.q i.2.1.hi.n.n i.2.1.hi.n.cap,.int .i64 i.2.1.hi.d.s,.slice i.2.1.hi.d.q i.2.1.hi.d.n i.2.1.hi.d.cap].toArray 138 (0,0)),(b3,.cells [tx b.1,tx b.2].toArray 24 (0,0)),(b2,.cells [tx a.1,tx a.2].toArray 24 (0,0))]) (fun i F=>Xy F i.2.1 (Ju a.1,Ju a.2)∧Xy F i.2.2 (Ju b.1,Ju b.2)) trivial ?_ ?_
  ·
   refine qk (r:=[0,1,2,3,4,5,6,7]) (.cons_cons _ (.cons_cons _ .slnil)) mixed (by kernel_rfl) rfl<|AH 0 (by kernel_rfl) rfl rfl<|QK (QJ (vs:=[_,_]) rfl JC (.there .here) (.here (.here .nil)) rfl)<|XE<|AH 2 (by kernel_rfl) rfl rfl<|QK (QJ (vs:=[_,_]) rfl JC .here (.here (.here .nil)) rfl)<|XE ?_
   refine gS 1 4 5 (by kernel_rfl) (by kernel_rfl) rfl rfl rfl rfl rfl rfl rfl rfl rfl ?_ ?_ ?_
   ·
    refine QY rfl (fun w F hF ⟨⟨⟨⟨hGl,_⟩,_⟩,hs13⟩,_⟩=>Yx hF hGl (hoka.1) (hoka.2.1) (ha)) (fun x19=>XE ?_)
    refine gS 3 4 5 (by kernel_rfl) (by kernel_rfl) rfl rfl rfl rfl rfl rfl rfl rfl rfl ?_ ?_ ?_
    ·
     refine QY rfl (fun w F hF ⟨⟨⟨⟨⟨hGl,_⟩,_⟩,hs13⟩,_⟩,⟨⟨VV,h19_⟩,⟨h19a,h19b⟩⟩⟩=>Yx hF hGl (hokb.1) (hokb.2.1) (hb)) (fun x21=>XE ?_)
     refine ER 4 5 (by kernel_rfl) (by kernel_rfl) rfl rfl rfl rfl rfl rfl ?_ ?_
     ·
      refine X8 ZA (fun b7=>XE<|XY 5 (by kernel_rfl) (by kernel_rfl) rfl rfl rfl<|X8 ZA (fun b8=>XE<|XY 6 (by kernel_rfl) (by kernel_rfl) rfl rfl rfl<|Q7 (vs:=[_,_,_,_,_,_,_,_]) rfl rfl rfl Jj rfl (.there .here) (.cons _ (.cons_cons _ (.cons_cons _ .slnil))) (fun _ h=>h.1.1) (.here (.here (.here (.here (.here (.here (.here (.here .nil)))))))) ⟨rfl,rfl,rfl,rfl,rfl,rfl,rfl,rfl,trivial⟩<|XE<|XY 7 (by kernel_rfl) (by kernel_rfl) rfl rfl rfl<|Q7 (vs:=[_,_,_,_,_,_,_,_]) rfl rfl rfl Jj rfl .here (.cons _ (.cons_cons _ (.cons_cons _ .slnil))) (fun _ h=>h.1.1) (.here (.here (.here (.here (.here (.here (.here (.here .nil)))))))) ⟨rfl,rfl,rfl,rfl,rfl,rfl,rfl,rfl,trivial⟩<|XE<|Ym ?_))
      exact Jt (((b7,b8),x19,x21)) ⟨rfl,rfl,trivial⟩ subl_r (fun F ⟨⟨⟨⟨⟨⟨hGl,_⟩,_⟩,hs13⟩,_⟩,⟨⟨VV,h19_⟩,⟨h19a,h19b⟩⟩⟩,⟨⟨h21,h21_⟩,⟨h21a,h21b⟩⟩⟩=>⟨⟨⟨⟨⟨hGl,trivial⟩,trivial⟩,hs13⟩,trivial⟩,⟨⟨⟨VV,h19_⟩,⟨h19a,h19b⟩⟩,⟨⟨h21,h21_⟩,⟨h21a,h21b⟩⟩⟩⟩)
     ·
      refine X8 ZA (fun b8=>XE<|XY 4 (by kernel_rfl) (by kernel_rfl) rfl rfl rfl<|X8 ZA (fun b7=>XE<|XY 6 (by kernel_rfl) (by kernel_rfl) rfl rfl rfl<|Q7 (vs:=[_,_,_,_,_,_,_,_]) rfl rfl rfl Jj rfl .here (.cons _ (.cons_cons _ (.cons_cons _ .slnil))) (fun _ h=>h.1.1) (.here (.here (.here (.here (.here (.here (.here (.here .nil)))))))) ⟨rfl,rfl,rfl,rfl,rfl,rfl,rfl,rfl,trivial⟩<|XE<|XY 7 (by kernel_rfl) (by kernel_rfl) rfl rfl rfl<|Q7 (vs:=[_,_,_,_,_,_,_,_]) rfl rfl rfl Jj rfl (.there .here) (.cons _ (.cons_cons _ (.cons_cons _ .slnil))) (fun _ h=>h.1.1) (.here (.here (.here (.here (.here (.here (.here (.here .nil)))))))) ⟨rfl,rfl,rfl,rfl,rfl,rfl,rfl,rfl,trivial⟩<|XE<|Ym<|AL (List.Perm.swap _ _ _) ?_))
      exact Jt (((b7,b8),x19,x21)) ⟨rfl,rfl,trivial⟩ subl_r (fun F ⟨⟨⟨⟨⟨⟨hGl,_⟩,_⟩,hs13⟩,_⟩,⟨⟨VV,h19_⟩,⟨h19a,h19b⟩⟩⟩,⟨⟨h21,h21_⟩,⟨h21a,h21b⟩⟩⟩=>⟨⟨⟨⟨⟨hGl,trivial⟩,trivial⟩,hs13⟩,trivial⟩,⟨⟨⟨VV,h19_⟩,⟨h19a,h19b⟩⟩,⟨⟨h21,h21_⟩,⟨h21a,h21b⟩⟩⟩⟩)
    ·
     refine X8 ZA (fun b7=>XE ?_)
     refine ER 3 5 (by kernel_rfl) (by kernel_rfl) rfl rfl rfl rfl rfl rfl ?_ ?_
     ·
      refine QY rfl (fun w F hF ⟨⟨⟨⟨⟨hGl,_⟩,_⟩,hs13⟩,_⟩,⟨⟨VV,h19_⟩,⟨h19a,h19b⟩⟩⟩=>Yx hF hGl (hokb.1) (hokb.2.1) (hb)) (fun x21=>XE<|XY 5 (by kernel_rfl) (by kernel_rfl) rfl rfl rfl<|X8 ZA (fun b8=>XE<|XY 6 (by kernel_rfl) (by kernel_rfl) rfl rfl rfl<|Q7 (vs:=[_,_,_,_,_,_,_,_]) rfl rfl rfl Jj rfl (.there .here) (.cons _ (.cons_cons _ (.cons_cons _ .slnil))) (fun _ h=>h.1.1) (.here (.here (.here (.here (.here (.here (.here (.here .nil)))))))) ⟨rfl,rfl,rfl,rfl,rfl,rfl,rfl,rfl,trivial⟩<|XE<|XY 7 (by kernel_rfl) (by kernel_rfl) rfl rfl rfl<|Q7 (vs:=[_,_,_,_,_,_,_,_]) rfl rfl rfl Jj rfl .here (.cons _ (.cons_cons _ (.cons_cons _ .slnil))) (fun _ h=>h.1.1) (.here (.here (.here (.here (.here (.here (.here (.here .nil)))))))) ⟨rfl,rfl,rfl,rfl,rfl,rfl,rfl,rfl,trivial⟩<|XE<|Ym ?_))
      exact Jt (((b7,b8),x19,x21)) ⟨rfl,rfl,trivial⟩ subl_r (fun F ⟨⟨⟨⟨⟨⟨hGl,_⟩,_⟩,hs13⟩,_⟩,⟨⟨VV,h19_⟩,⟨h19a,h19b⟩⟩⟩,⟨⟨h21,h21_⟩,⟨h21a,h21b⟩⟩⟩=>⟨⟨⟨⟨⟨hGl,trivial⟩,trivial⟩,hs13⟩,trivial⟩,⟨⟨⟨VV,h19_⟩,⟨h19a,h19b⟩⟩,⟨⟨h21,h21_⟩,⟨h21a,h21b⟩⟩⟩⟩)
     ·
      refine X8 ZA (fun b8=>XE<|XY 3 (by kernel_rfl) (by kernel_rfl) rfl rfl rfl<|QY rfl (fun w F hF ⟨⟨⟨⟨⟨hGl,_⟩,_⟩,hs13⟩,_⟩,⟨⟨VV,h19_⟩,⟨h19a,h19b⟩⟩⟩=>Yx hF hGl (hokb.1) (hokb.2.1) (hb)) (fun x21=>XE<|XY 6 (by kernel_rfl) (by kernel_rfl) rfl rfl rfl<|Q7 (vs:=[_,_,_,_,_,_,_,_]) rfl rfl rfl Jj rfl (.there .here) (.cons _ (.cons_cons _ (.cons_cons _ .slnil))) (fun _ h=>h.1.1) (.here (.here (.here (.here (.here (.here (.here (.here .nil)))))))) ⟨rfl,rfl,rfl,rfl,rfl,rfl,rfl,rfl,trivial⟩<|XE<|XY 7 (by kernel_rfl) (by kernel_rfl) rfl rfl rfl<|Q7 (vs:=[_,_,_,_,_,_,_,_]) rfl rfl rfl Jj rfl .here (.cons _ (.cons_cons _ (.cons_cons _ .slnil))) (fun _ h=>h.1.1) (.here (.here (.here (.here (.here (.here (.here (.here .nil)))))))) ⟨rfl,rfl,rfl,rfl,rfl,rfl,rfl,rfl,trivial⟩<|XE<|Ym ?_))
      exact Jt (((b7,b8),x19,x21)) ⟨rfl,rfl,trivial⟩ subl_r (fun F ⟨⟨⟨⟨⟨⟨hGl,_⟩,_⟩,hs13⟩,_⟩,⟨⟨VV,h19_⟩,⟨h19a,h19b⟩⟩⟩,⟨⟨h21,h21_⟩,⟨h21a,h21b⟩⟩⟩=>⟨⟨⟨⟨⟨hGl,trivial⟩,trivial⟩,hs13⟩,trivial⟩,⟨⟨⟨VV,h19_⟩,⟨h19a,h19b⟩⟩,⟨⟨h21,h21_⟩,⟨h21a,h21b⟩⟩⟩⟩)
    ·
     refine X8 ZA (fun b8=>XE ?_)
     refine ER 3 4 (by kernel_rfl) (by kernel_rfl) rfl rfl rfl rfl rfl rfl ?_ ?_
     ·
      refine QY rfl (fun w F hF ⟨⟨⟨⟨⟨hGl,_⟩,_⟩,hs13⟩,_⟩,⟨⟨VV,h19_⟩,⟨h19a,h19b⟩⟩⟩=>Yx hF hGl (hokb.1) (hokb.2.1) (hb)) (fun x21=>XE<|XY 4 (by kernel_rfl) (by kernel_rfl) rfl rfl rfl<|X8 ZA (fun b7=>XE<|XY 6 (by kernel_rfl) (by kernel_rfl) rfl rfl rfl<|Q7 (vs:=[_,_,_,_,_,_,_,_]) rfl rfl rfl Jj rfl .here (.cons _ (.cons_cons _ (.cons_cons _ .slnil))) (fun _ h=>h.1.1) (.here (.here (.here (.here (.here (.here (.here (.here .nil)))))))) ⟨rfl,rfl,rfl,rfl,rfl,rfl,rfl,rfl,trivial⟩<|XE<|XY 7 (by kernel_rfl) (by kernel_rfl) rfl rfl rfl<|Q7 (vs:=[_,_,_,_,_,_,_,_]) rfl rfl rfl Jj rfl (.there .here) (.cons _ (.cons_cons _ (.cons_cons _ .slnil))) (fun _ h=>h.1.1) (.here (.here (.here (.here (.here (.here (.here (.here .nil)))))))) ⟨rfl,rfl,rfl,rfl,rfl,rfl,rfl,rfl,trivial⟩<|XE<|Ym<|AL (List.Perm.swap _ _ _) ?_))
      exact Jt (((b7,b8),x19,x21)) ⟨rfl,rfl,trivial⟩ subl_r (fun F ⟨⟨⟨⟨⟨⟨hGl,_⟩,_⟩,hs13⟩,_⟩,⟨⟨VV,h19_⟩,⟨h19a,h19b⟩⟩⟩,⟨⟨h21,h21_⟩,⟨h21a,h21b⟩⟩⟩=>⟨⟨⟨⟨⟨hGl,trivial⟩,trivial⟩,hs13⟩,trivial⟩,⟨⟨⟨VV,h19_⟩,⟨h19a,h19b⟩⟩,⟨⟨h21,h21_⟩,⟨h21a,h21b⟩⟩⟩⟩)
     ·
      refine X8 ZA (fun b7=>XE<|XY 3 (by kernel_rfl) (by kernel_rfl) rfl rfl rfl<|QY rfl (fun w F hF ⟨⟨⟨⟨⟨hGl,_⟩,_⟩,hs13⟩,_⟩,⟨⟨VV,h19_⟩,⟨h19a,h19b⟩⟩⟩=>Yx hF hGl (hokb.1) (hokb.2.1) (hb)) (fun x21=>XE<|XY 6 (by kernel_rfl) (by kernel_rfl) rfl rfl rfl<|Q7 (vs:=[_,_,_,_,_,_,_,_]) rfl rfl rfl Jj rfl .here (.cons _ (.cons_cons _ (.cons_cons _ .slnil))) (fun _ h=>h.1.1) (.here (.here (.here (.here (.here (.here (.here (.here .nil)))))))) ⟨rfl,rfl,rfl,rfl,rfl,rfl,rfl,rfl,trivial⟩<|XE<|XY 7 (by kernel_rfl) (by kernel_rfl) rfl rfl rfl<|Q7 (vs:=[_,_,_,_,_,_,_,_]) rfl rfl rfl Jj rfl (.there .here) (.cons _ (.cons_cons _ (.cons_cons _ .slnil))) (fun _ h=>h.1.1) (.here (.here (.here (.here (.here (.here (.here (.here .nil)))))))) ⟨rfl,rfl,rfl,rfl,rfl,rfl,rfl,rfl,trivial⟩<|XE<|Ym<|AL (List.Perm.swap _ _ _) ?_))
      exact Jt (((b7,b8),x19,x21)) ⟨rfl,rfl,trivial⟩ subl_r (fun F ⟨⟨⟨⟨⟨⟨hGl,_⟩,_⟩,hs13⟩,_⟩,⟨⟨VV,h19_⟩,⟨h19a,h19b⟩⟩⟩,⟨⟨h21,h21_⟩,⟨h21a,h21b⟩⟩⟩=>⟨⟨⟨⟨⟨hGl,trivial⟩,trivial⟩,hs13⟩,trivial⟩,⟨⟨⟨VV,h19_⟩,⟨h19a,h19b⟩⟩,⟨⟨h21,h21_⟩,⟨h21a,h21b⟩⟩⟩⟩)
   ·
    refine X8 ZA (fun b7=>XE ?_)
    refine ER 1 5 (by kernel_rfl) (by kernel_rfl) rfl rfl rfl rfl rfl rfl ?_ ?_
    ·
     refine QY rfl (fun w F hF ⟨⟨⟨⟨hGl,_⟩,_⟩,hs13⟩,_⟩=>Yx hF hGl (hoka.1) (hoka.2.1) (ha)) (fun x19=>XE ?_)
     refine ER 3 5 (by kernel_rfl) (by kernel_rfl) rfl rfl rfl rfl rfl rfl ?_ ?_
     ·
      refine QY rfl (fun w F hF ⟨⟨⟨⟨⟨hGl,_⟩,_⟩,hs13⟩,_⟩,⟨⟨VV,h19_⟩,⟨h19a,h19b⟩⟩⟩=>Yx hF hGl (hokb.1) (hokb.2.1) (hb)) (fun x21=>XE<|XY 5 (by kernel_rfl) (by kernel_rfl) rfl rfl rfl<|X8 ZA (fun b8=>XE<|XY 6 (by kernel_rfl) (by kernel_rfl) rfl rfl rfl<|Q7 (vs:=[_,_,_,_,_,_,_,_]) rfl rfl rfl Jj rfl (.there .here) (.cons _ (.cons_cons _ (.cons_cons _ .slnil))) (fun _ h=>h.1.1) (.here (.here (.here (.here (.here (.here (.here (.here .nil)))))))) ⟨rfl,rfl,rfl,rfl,rfl,rfl,rfl,rfl,trivial⟩<|XE<|XY 7 (by kernel_rfl) (by kernel_rfl) rfl rfl rfl<|Q7 (vs:=[_,_,_,_,_,_,_,_]) rfl rfl rfl Jj rfl .here (.cons _ (.cons_cons _ (.cons_cons _ .slnil))) (fun _ h=>h.1.1) (.here (.here (.here (.here (.here (.here (.here (.here .nil)))))))) ⟨rfl,rfl,rfl,rfl,rfl,rfl,rfl,rfl,trivial⟩<|XE<|Ym ?_))
      exact Jt (((b7,b8),x19,x21)) ⟨rfl,rfl,trivial⟩ subl_r (fun F ⟨⟨⟨⟨⟨⟨hGl,_⟩,_⟩,hs13⟩,_⟩,⟨⟨VV,h19_⟩,⟨h19a,h19b⟩⟩⟩,⟨⟨h21,h21_⟩,⟨h21a,h21b⟩⟩⟩=>⟨⟨⟨⟨⟨hGl,trivial⟩,trivial⟩,hs13⟩,trivial⟩,⟨⟨⟨VV,h19_⟩,⟨h19a,h19b⟩⟩,⟨⟨h21,h21_⟩,⟨h21a,h21b⟩⟩⟩⟩)
     ·
      refine X8 ZA (fun b8=>XE<|XY 3 (by kernel_rfl) (by kernel_rfl) rfl rfl rfl<|QY rfl (fun w F hF ⟨⟨⟨⟨⟨hGl,_⟩,_⟩,hs13⟩,_⟩,⟨⟨VV,h19_⟩,⟨h19a,h19b⟩⟩⟩=>Yx hF hGl (hokb.1) (hokb.2.1) (hb)) (fun x21=>XE<|XY 6 (by kernel_rfl) (by kernel_rfl) rfl rfl rfl<|Q7 (vs:=[_,_,_,_,_,_,_,_]) rfl rfl rfl Jj rfl (.there .here) (.cons _ (.cons_cons _ (.cons_cons _ .slnil))) (fun _ h=>h.1.1) (.here (.here (.here (.here (.here (.here (.here (.here .nil)))))))) ⟨rfl,rfl,rfl,rfl,rfl,rfl,rfl,rfl,trivial⟩<|XE<|XY 7 (by kernel_rfl) (by kernel_rfl) rfl rfl rfl<|Q7 (vs:=[_,_,_,_,_,_,_,_]) rfl rfl rfl Jj rfl .here (.cons _ (.cons_cons _ (.cons_cons _ .slnil))) (fun _ h=>h.1.1) (.here (.here (.here (.here (.here (.here (.here (.here .nil)))))))) ⟨rfl,rfl,rfl,rfl,rfl,rfl,rfl,rfl,trivial⟩<|XE<|Ym ?_))
      exact Jt (((b7,b8),x19,x21)) ⟨rfl,rfl,trivial⟩ subl_r (fun F ⟨⟨⟨⟨⟨⟨hGl,_⟩,_⟩,hs13⟩,_⟩,⟨⟨VV,h19_⟩,⟨h19a,h19b⟩⟩⟩,⟨⟨h21,h21_⟩,⟨h21a,h21b⟩⟩⟩=>⟨⟨⟨⟨⟨hGl,trivial⟩,trivial⟩,hs13⟩,trivial⟩,⟨⟨⟨VV,h19_⟩,⟨h19a,h19b⟩⟩,⟨⟨h21,h21_⟩,⟨h21a,h21b⟩⟩⟩⟩)
    ·
     refine X8 ZA (fun b8=>XE<|XY 1 (by kernel_rfl) (by kernel_rfl) rfl rfl rfl<|QY rfl (fun w F hF ⟨⟨⟨⟨hGl,_⟩,_⟩,hs13⟩,_⟩=>Yx hF hGl (hoka.1) (hoka.2.1) (ha)) (fun x19=>XE<|XY 3 (by kernel_rfl) (by kernel_rfl) rfl rfl rfl<|QY rfl (fun w F hF ⟨⟨⟨⟨⟨hGl,_⟩,_⟩,hs13⟩,_⟩,⟨⟨VV,h19_⟩,⟨h19a,h19b⟩⟩⟩=>Yx hF hGl (hokb.1) (hokb.2.1) (hb)) (fun x21=>XE<|XY 6 (by kernel_rfl) (by kernel_rfl) rfl rfl rfl<|Q7 (vs:=[_,_,_,_,_,_,_,_]) rfl rfl rfl Jj rfl (.there .here) (.cons _ (.cons_cons _ (.cons_cons _ .slnil))) (fun _ h=>h.1.1) (.here (.here (.here (.here (.here (.here (.here (.here .nil)))))))) ⟨rfl,rfl,rfl,rfl,rfl,rfl,rfl,rfl,trivial⟩<|XE<|XY 7 (by kernel_rfl) (by kernel_rfl) rfl rfl rfl<|Q7 (vs:=[_,_,_,_,_,_,_,_]) rfl rfl rfl Jj rfl .here (.cons _ (.cons_cons _ (.cons_cons _ .slnil))) (fun _ h=>h.1.1) (.here (.here (.here (.here (.here (.here (.here (.here .nil)))))))) ⟨rfl,rfl,rfl,rfl,rfl,rfl,rfl,rfl,trivial⟩<|XE<|Ym ?_)))
     exact Jt (((b7,b8),x19,x21)) ⟨rfl,rfl,trivial⟩ subl_r (fun F ⟨⟨⟨⟨⟨⟨hGl,_⟩,_⟩,hs13⟩,_⟩,⟨⟨VV,h19_⟩,⟨h19a,h19b⟩⟩⟩,⟨⟨h21,h21_⟩,⟨h21a,h21b⟩⟩⟩=>⟨⟨⟨⟨⟨hGl,trivial⟩,trivial⟩,hs13⟩,trivial⟩,⟨⟨⟨VV,h19_⟩,⟨h19a,h19b⟩⟩,⟨⟨h21,h21_⟩,⟨h21a,h21b⟩⟩⟩⟩)
   ·
    refine X8 ZA (fun b8=>XE ?_)
    refine ER 1 4 (by kernel_rfl) (by kernel_rfl) rfl rfl rfl rfl rfl rfl ?_ ?_
    ·
     refine QY rfl (fun w F hF ⟨⟨⟨⟨hGl,_⟩,_⟩,hs13⟩,_⟩=>Yx hF hGl (hoka.1) (hoka.2.1) (ha)) (fun x19=>XE ?_)
     refine ER 3 4 (by kernel_rfl) (by kernel_rfl) rfl rfl rfl rfl rfl rfl ?_ ?_
     ·
      refine QY rfl (fun w F hF ⟨⟨⟨⟨⟨hGl,_⟩,_⟩,hs13⟩,_⟩,⟨⟨VV,h19_⟩,⟨h19a,h19b⟩⟩⟩=>Yx hF hGl (hokb.1) (hokb.2.1) (hb)) (fun x21=>XE<|XY 4 (by kernel_rfl) (by kernel_rfl) rfl rfl rfl<|X8 ZA (fun b7=>XE<|XY 6 (by kernel_rfl) (by kernel_rfl) rfl rfl rfl<|Q7 (vs:=[_,_,_,_,_,_,_,_]) rfl rfl rfl Jj rfl .here (.cons _ (.cons_cons _ (.cons_cons _ .slnil))) (fun _ h=>h.1.1) (.here (.here (.here (.here (.here (.here (.here (.here .nil)))))))) ⟨rfl,rfl,rfl,rfl,rfl,rfl,rfl,rfl,trivial⟩<|XE<|XY 7 (by kernel_rfl) (by kernel_rfl) rfl rfl rfl<|Q7 (vs:=[_,_,_,_,_,_,_,_]) rfl rfl rfl Jj rfl (.there .here) (.cons _ (.cons_cons _ (.cons_cons _ .slnil))) (fun _ h=>h.1.1) (.here (.here (.here (.here (.here (.here (.here (.here .nil)))))))) ⟨rfl,rfl,rfl,rfl,rfl,rfl,rfl,rfl,trivial⟩<|XE<|Ym<|AL (List.Perm.swap _ _ _) ?_))
      exact Jt (((b7,b8),x19,x21)) ⟨rfl,rfl,trivial⟩ subl_r (fun F ⟨⟨⟨⟨⟨⟨hGl,_⟩,_⟩,hs13⟩,_⟩,⟨⟨VV,h19_⟩,⟨h19a,h19b⟩⟩⟩,⟨⟨h21,h21_⟩,⟨h21a,h21b⟩⟩⟩=>⟨⟨⟨⟨⟨hGl,trivial⟩,trivial⟩,hs13⟩,trivial⟩,⟨⟨⟨VV,h19_⟩,⟨h19a,h19b⟩⟩,⟨⟨h21,h21_⟩,⟨h21a,h21b⟩⟩⟩⟩)
     ·
      refine X8 ZA (fun b7=>XE<|XY 3 (by kernel_rfl) (by kernel_rfl) rfl rfl rfl<|QY rfl (fun w F hF ⟨⟨⟨⟨⟨hGl,_⟩,_⟩,hs13⟩,_⟩,⟨⟨VV,h19_⟩,⟨h19a,h19b⟩⟩⟩=>Yx hF hGl (hokb.1) (hokb.2.1) (hb)) (fun x21=>XE<|XY 6 (by kernel_rfl) (by kernel_rfl) rfl rfl rfl<|Q7 (vs:=[_,_,_,_,_,_,_,_]) rfl rfl rfl Jj rfl .here (.cons _ (.cons_cons _ (.cons_cons _ .slnil))) (fun _ h=>h.1.1) (.here (.here (.here (.here (.here (.here (.here (.here .nil)))))))) ⟨rfl,rfl,rfl,rfl,rfl,rfl,rfl,rfl,trivial⟩<|XE<|XY 7 (by kernel_rfl) (by kernel_rfl) rfl rfl rfl<|Q7 (vs:=[_,_,_,_,_,_,_,_]) rfl rfl rfl Jj rfl (.there .here) (.cons _ (.cons_cons _ (.cons_cons _ .slnil))) (fun _ h=>h.1.1) (.here (.here (.here (.here (.here (.here (.here (.here .nil)))))))) ⟨rfl,rfl,rfl,rfl,rfl,rfl,rfl,rfl,trivial⟩<|XE<|Ym<|AL (List.Perm.swap _ _ _) ?_))
      exact Jt (((b7,b8),x19,x21)) ⟨rfl,rfl,trivial⟩ subl_r (fun F ⟨⟨⟨⟨⟨⟨hGl,_⟩,_⟩,hs13⟩,_⟩,⟨⟨VV,h19_⟩,⟨h19a,h19b⟩⟩⟩,⟨⟨h21,h21_⟩,⟨h21a,h21b⟩⟩⟩=>⟨⟨⟨⟨⟨hGl,trivial⟩,trivial⟩,hs13⟩,trivial⟩,⟨⟨⟨VV,h19_⟩,⟨h19a,h19b⟩⟩,⟨⟨h21,h21_⟩,⟨h21a,h21b⟩⟩⟩⟩)
    ·
     refine X8 ZA (fun b7=>XE<|XY 1 (by kernel_rfl) (by kernel_rfl) rfl rfl rfl<|QY rfl (fun w F hF ⟨⟨⟨⟨hGl,_⟩,_⟩,hs13⟩,_⟩=>Yx hF hGl (hoka.1) (hoka.2.1) (ha)) (fun x19=>XE<|XY 3 (by kernel_rfl) (by kernel_rfl) rfl rfl rfl<|QY rfl (fun w F hF ⟨⟨⟨⟨⟨hGl,_⟩,_⟩,hs13⟩,_⟩,⟨⟨VV,h19_⟩,⟨h19a,h19b⟩⟩⟩=>Yx hF hGl (hokb.1) (hokb.2.1) (hb)) (fun x21=>XE<|XY 6 (by kernel_rfl) (by kernel_rfl) rfl rfl rfl<|Q7 (vs:=[_,_,_,_,_,_,_,_]) rfl rfl rfl Jj rfl .here (.cons _ (.cons_cons _ (.cons_cons _ .slnil))) (fun _ h=>h.1.1) (.here (.here (.here (.here (.here (.here (.here (.here .nil)))))))) ⟨rfl,rfl,rfl,rfl,rfl,rfl,rfl,rfl,trivial⟩<|XE<|XY 7 (by kernel_rfl) (by kernel_rfl) rfl rfl rfl<|Q7 (vs:=[_,_,_,_,_,_,_,_]) rfl rfl rfl Jj rfl (.there .here) (.cons _ (.cons_cons _ (.cons_cons _ .slnil))) (fun _ h=>h.1.1) (.here (.here (.here (.here (.here (.here (.here (.here .nil)))))))) ⟨rfl,rfl,rfl,rfl,rfl,rfl,rfl,rfl,trivial⟩<|XE<|Ym<|AL (List.Perm.swap _ _ _) ?_)))
     exact Jt (((b7,b8),x19,x21)) ⟨rfl,rfl,trivial⟩ subl_r (fun F ⟨⟨⟨⟨⟨⟨hGl,_⟩,_⟩,hs13⟩,_⟩,⟨⟨VV,h19_⟩,⟨h19a,h19b⟩⟩⟩,⟨⟨h21,h21_⟩,⟨h21a,h21b⟩⟩⟩=>⟨⟨⟨⟨⟨hGl,trivial⟩,trivial⟩,hs13⟩,trivial⟩,⟨⟨⟨VV,h19_⟩,⟨h19a,h19b⟩⟩,⟨⟨h21,h21_⟩,⟨h21a,h21b⟩⟩⟩⟩)
  ·intro i
   simp only [List.cons_append,List.nil_append]
   refine J_sr<|QA (QH rfl ZE Qc)<|QA (QJ (vs:=[_,_,_,_]) rfl Qc (.there .here) (.here (.here (.here (.here .nil)))) rfl)<|QA (QH rfl ZE Qc)<|QA (QJ (vs:=[_,_,_,_]) rfl Qc .here (.here (.here (.here (.here .nil)))) rfl)<|QI rfl (fun w F hF ⟨⟨⟨⟨⟨hGl,_⟩,_⟩,hs13⟩,_⟩,⟨⟨⟨k1,k2⟩,⟨k3,k4⟩⟩,⟨⟨k5,k6⟩,⟨k7,k8⟩⟩⟩⟩=>Ro (r:=Ju a.1) (s:=Ju b.1) hF ⟨k1,k2⟩ ⟨k5,k6⟩ (by have:=XH hoka.1;omega) (by have:=XH hokb.1;omega)) (fun _=>QA (QV rfl rfl rfl)<|JS_mv rfl ?_)
   refine Qn (t:=28) rfl (fun hb28=>?_) (fun hb28=>?_)
   ·
    refine QL rfl rfl<|QA (QH rfl ZV Qc)<|QL rfl rfl<|QA (QJ (vs:=[_,_,_,_]) rfl Qc (.there .here) (.skip (.skip (.skip (.skip (.here (.here (.here (.here .nil)))))))) rfl)<|QL rfl rfl<|QA (QH rfl ZV Qc)<|QL rfl rfl<|QA (QJ (vs:=[_,_,_,_]) rfl Qc .here (.skip (.skip (.skip (.skip (.here (.here (.here (.here .nil)))))))) rfl)<|QL rfl rfl<|QI rfl (fun w F hF ⟨⟨⟨⟨⟨⟨hGl,_⟩,_⟩,hs13⟩,_⟩,⟨⟨⟨k1,k2⟩,⟨k3,k4⟩⟩,⟨⟨k5,k6⟩,⟨k7,k8⟩⟩⟩⟩,_⟩=>Ro (r:=Ju a.2) (s:=Ju b.2) hF ⟨k3,k4⟩ ⟨k7,k8⟩ (by have:=XH hoka.2.1;omega) (by have:=XH hokb.2.1;omega)) (fun _=>QL rfl rfl<|QA (QV rfl rfl rfl)<|QA (Qi rfl rfl rfl)<|JS_as rfl<|JS_as rfl<|JS_nt<|QT ?_)
    exact JY (()) rfl (.tmp rfl (.tmp rfl .nil)) (by unfold AQ;rw [if_pos h0];simp_all) (fun F ⟨⟨⟨⟨⟨⟨⟨hGl,_⟩,_⟩,hs13⟩,_⟩,⟨⟨⟨k1,k2⟩,⟨k3,k4⟩⟩,⟨⟨k5,k6⟩,⟨k7,k8⟩⟩⟩⟩,_⟩,_⟩=>trivial)
   ·
    refine QO rfl rfl rfl<|QO rfl rfl rfl<|QO rfl rfl rfl<|QO rfl rfl rfl<|QO rfl rfl rfl<|QO rfl rfl rfl<|QA (Qh rfl rfl rfl)<|JS_as rfl<|JS_as rfl<|JS_nt<|QT ?_
    exact JY (()) rfl (.tmp rfl (.tmp rfl .nil)) (by unfold AQ;rw [if_pos h0];simp_all;intros;omega) (fun F ⟨⟨⟨⟨⟨⟨hGl,_⟩,_⟩,hs13⟩,_⟩,⟨⟨⟨k1,k2⟩,⟨k3,k4⟩⟩,⟨⟨k5,k6⟩,⟨k7,k8⟩⟩⟩⟩,_⟩=>trivial)
end
section
open Go.RowKit Ig
theorem A4 (x y:Rat):Vg x y≤0↔x≤y:=by
 unfold Vg
 by_cases h:x<y
 ·rw [if_pos h];exact⟨fun _=>Rat.le_of_lt h,fun _=>by decide⟩
 ·rw [if_neg h]
  by_cases e:x=y
  ·rw [if_pos e,e];exact⟨fun _=>Rat.le_refl,fun _=>by decide⟩
  ·rw [if_neg e];refine⟨fun k=>absurd k (by decide),fun k=>absurd (Rat.lt_of_le_of_ne k e) h⟩
theorem Ip (x y:Rat):Vg x y≥0↔y≤x:=by
 unfold Vg
 by_cases h:x<y
 ·rw [if_pos h];exact⟨fun k=>absurd k (by decide),fun k=>absurd k (Rat.not_le.2 h)⟩
 ·rw [if_neg h]
  refine⟨fun _=>Rat.not_lt.1 h,fun _=>?_⟩
  split<;>decide
theorem zj (x y:Rat):Vg x y<0↔x<y:=by
 rw [← Rat.not_le,← Ip];omega
theorem zk (x y:Rat):Vg x y>0↔y<x:=by
 rw [← Rat.not_le,← A4];omega
theorem zg (x y:Rat):PZ x y=if x≤y then x else y:=by
 unfold PZ;by_cases h:x≤y
 ·rw [if_pos h,if_pos ((A4 x y).2 h)]
 ·rw [if_neg h,if_neg fun k=>h ((A4 x y).1 k)]
theorem zh (x y:Rat):Np x y=if y≤x then x else y:=by
 unfold Np;by_cases h:y≤x
 ·rw [if_pos h,if_pos ((Ip x y).2 h)]
 ·rw [if_neg h,if_neg fun k=>h ((Ip x y).1 k)]
theorem qx (s:Rat×Rat) (x:Rat):YO s x=(PZ s.1 x,Np s.2 x):=by
 unfold YO
 rw [zg,zh]
 congr 1
 ·by_cases h:s.1≤x
  ·rw [if_pos h,if_neg fun k=>absurd ((zj _ _).1 k) (Rat.not_lt.2 h)]
  ·rw [if_neg h,if_pos ((zj _ _).2 (Rat.not_le.1 h))]
 ·by_cases h:x≤s.2
  ·rw [if_pos h,if_neg fun k=>absurd ((zk _ _).1 k) (Rat.not_lt.2 h)]
  ·rw [if_neg h,if_pos ((zk _ _).2 (Rat.not_le.1 h))]
theorem xZ (x y z:Rat):PZ (PZ x y) z=PZ x (PZ y z):=by
 simp only [zg];grind
theorem xa (x y z:Rat):Np (Np x y) z=Np x (Np y z):=by
 simp only [zh];grind
theorem yi (a b:Rat×Rat):YJ a b=dD a b:=by
 unfold YJ dD Y7
 simp only [List.foldl_cons,List.foldl_nil,qx]
 rw [xZ (PZ _ _),xa (Np _ _)]
theorem pow_eq (a:Rat×Rat) (n:Int):Vx a n=kB a n:=by
 unfold Vx kB Y7
 simp only [List.foldl_cons,List.foldl_nil,qx]
theorem zr (a b:Rat×Rat) (ha:a.1≤a.2):(decide (0≤Vg a.1 b.1)&&decide (Vg a.2 b.2≤0))=(dG a.1 b&&dG a.2 b):=by
 unfold dG
 rw [Bool.eq_iff_iff]
 simp only [Bool.and_eq_true,decide_eq_true_eq,A4]
 rw [show(0≤Vg a.1 b.1)=(Vg a.1 b.1≥0) from rfl,Ip]
 constructor
 ·intro ⟨h1,h2⟩
  exact⟨⟨h1,Rat.le_trans ha h2⟩,⟨Rat.le_trans h1 ha,h2⟩⟩
 ·intro ⟨⟨h1,_⟩,⟨_,h2⟩⟩
  exact⟨h1,h2⟩
end
section
open Go.RowKit Ig
def Vh (a:List UInt8×List UInt8):Prop:=JM a.1 a.2=0
def vS (a:List UInt8×List UInt8):Rat×Rat:=(Ju a.1,Ju a.2)
theorem Vh.v {a:List UInt8×List UInt8} (h:Vh a):I8 (vS a) = .agg #[tx a.1,tx a.2]:=by
 obtain ⟨h1,h2,_⟩:=Z2 h
 show Value.agg #[tx (JQ (Ju a.1)),tx (JQ (Ju a.2))]=_
 rw [← (Zj h1).1,← (Zj h2).1]
theorem Vh.sz {a:List UInt8×List UInt8} (h:Vh a):CM 2400 (vS a):=by
 obtain ⟨h1,h2,_⟩:=Z2 h
 exact⟨XH h1,XH h2⟩
theorem Vh.le {a:List UInt8×List UInt8} (h:Vh a):(vS a).1≤(vS a).2:=by
 obtain ⟨_,_,h3⟩:=Z2 h
 exact(A4 _ _).1 (Int.not_lt.1 h3)
theorem O6 (u:Nat) {k:Nat} (hk:0<k) (h:(Lib.decDigits u).length≤k):sz (u:Int)≤4*k:=by
 rw [Lib.decDigits_length] at h
 rw [Xx,Int.natAbs_natCast]
 have h1:¬ 10^k≤u:=fun e=>by have:=(RZ (u:=u) hk).2 e;omega
 have h2:10^k≤16^k:=Nat.pow_le_pow_left (by decide) _
 have h3:(16:Nat)^k=2^(4*k):=by rw [Nat.pow_mul]
 rw [← h3]
 exact Nat.lt_of_lt_of_le (Nat.lt_of_not_le h1) h2
theorem zR (z:Int) {k:Nat} (hk:0<k) (h:(Xu z).length≤k):sz z≤4*k:=by
 have e:sz z=sz (z.natAbs:Int):=by unfold sz;simp
 rw [e]
 refine O6 _ hk ?_
 rcases Int.lt_or_le z 0 with g | g
 ·rw [YB g,List.length_cons] at h;omega
 ·rwa [Jx g] at h
theorem va (x:Rat) {k:Nat} (hk:0<k) (h:(JQ x).length≤k):JL x≤4*k:=by
 unfold JL
 unfold JQ at h
 split at h
 ·rename_i hd
  rw [hd]
  exact Nat.max_le.2 ⟨zR _ hk h,Nat.le_trans (show sz ((1:Nat):Int)≤1 by decide) (by omega)⟩
 ·rw [List.length_append,List.length_cons] at h
  exact Nat.max_le.2 ⟨zR _ hk (by omega),O6 _ hk (by omega)⟩
theorem q8 {s:List UInt8} (h:Jy s=0) {k:Nat} (hk:0<k) (hl:s.length≤k):JL (Ju s)≤4*k :=
 va _ hk (by rw [← (Zj h).1];exact hl)
theorem Vh.p5 {a:List UInt8×List UInt8} (h:Vh a) {k:Nat} (hk:0<k) (hl:a.1.length≤k∧a.2.length≤k):CM (4*k) (vS a):=by
 obtain ⟨h1,h2,_⟩:=Z2 h
 exact⟨q8 h1 hk hl.1,q8 h2 hk hl.2⟩
theorem CM.le {a:Rat×Rat} {k k':Nat} (h:CM k a) (hk:k≤k'):CM k' a:=⟨Nat.le_trans h.1 hk,Nat.le_trans h.2 hk⟩
section
variable {w:World} {F:Gs} {a b:List UInt8×List UInt8}
theorem vw (hF:Fits F w) (ha:Vh a) (hb:Vh b):QZ Tryz.prog 52 [.agg #[tx a.1,tx a.2],.agg #[tx b.1,tx b.2]] w F (I8 (SE (vS a) (vS b))):=by
 have h:=jN (a:=vS a) (b:=vS b) hF (ha.sz.le (by decide)) (hb.sz.le (by decide))
 rw [ha.v,hb.v] at h;exact h
theorem vj (hF:Fits F w) (ha:Vh a) (hb:Vh b):QZ Tryz.prog 53 [.agg #[tx a.1,tx a.2],.agg #[tx b.1,tx b.2]] w F (I8 (EB (vS a) (vS b))):=by
 have h:=jF (a:=vS a) (b:=vS b) hF (ha.sz.le (by decide)) (hb.sz.le (by decide))
 rw [ha.v,hb.v] at h;exact h
theorem vo (hF:Fits F w) (ha:Vh a) (hb:Vh b):QZ Tryz.prog 54 [.agg #[tx a.1,tx a.2],.agg #[tx b.1,tx b.2]] w F (I8 (YJ (vS a) (vS b))):=by
 have h:=jI (a:=vS a) (b:=vS b) hF (ha.sz.le (by decide)) (hb.sz.le (by decide))
 rw [ha.v,hb.v,← yi] at h;exact h
theorem xD (hF:Fits F w) (ha:Vh a) (hb:Vh b):QZ Tryz.prog 51 [.agg #[tx a.1,tx a.2],.agg #[tx b.1,tx b.2]] w F (.bool (AQ a b).1):=by
 have h:=zt (a:=vS a) (b:=vS b) hF (ha.sz.le (by decide)) (hb.sz.le (by decide))
 rw [ha.v,hb.v,← zr _ _ ha.le] at h
 have e:(AQ a b).1=(decide (0≤Vg (vS a).1 (vS b).1)&&decide (Vg (vS a).2 (vS b).2≤0)):=by
  unfold AQ
  rw [if_pos (show Qm [JM a.1 a.2,JM b.1 b.2]=0 from by rw [show JM a.1 a.2=0 from ha,show JM b.1 b.2=0 from hb];rfl)]
  rfl
 rw [e];exact h
theorem vm {n:Int} (hF:Fits F w) (ha:Vh a) (hl:a.1.length≤100∧a.2.length≤100) (hn:0≤n∧n≤12):QZ Tryz.prog 50 [.agg #[tx a.1,tx a.2],.int .i64 n] w F (I8 (Vx (vS a) n)):=by
 have h:=CR (a:=vS a) (n:=n) hF ((ha.p5 (by decide) hl).le (by decide)) hn
 rw [ha.v,← pow_eq] at h;exact h
theorem v8 (ha:Vh a) (hb:Vh b):JL (SE (vS a) (vS b)).1≤400000∧JL (SE (vS a) (vS b)).2≤400000:=by
 have h1:=ha.sz;have h2:=hb.sz
 exact⟨Nat.le_trans (KN _ _) (by have:=h1.1;have:=h2.1;omega),Nat.le_trans (KN _ _) (by have:=h1.2;have:=h2.2;omega)⟩
theorem kL (ha:Vh a) (hb:Vh b):JL (EB (vS a) (vS b)).1≤400000∧JL (EB (vS a) (vS b)).2≤400000:=by
 have h1:=ha.sz;have h2:=hb.sz
 exact⟨Nat.le_trans (Ik _ _) (by have:=h1.1;have:=h2.2;omega),Nat.le_trans (Ik _ _) (by have:=h1.2;have:=h2.1;omega)⟩
theorem yh (ha:Vh a) (hb:Vh b):JL (YJ (vS a) (vS b)).1≤400000∧JL (YJ (vS a) (vS b)).2≤400000:=by
 have h1:=ha.sz;have h2:=hb.sz
 have m:∀ x y:Rat,JL x≤2400→JL y≤2400→JL (x*y)≤400000:=fun x y hx hy=>Nat.le_trans (XA x y) (by omega)
 refine W2 (k:=400000) (m _ _ h1.1 h2.1) fun x hx=>?_
 simp only [List.mem_cons,List.not_mem_nil,or_false] at hx
 rcases hx with rfl | rfl | rfl
 ·exact m _ _ h1.1 h2.2
 ·exact m _ _ h1.2 h2.1
 ·exact m _ _ h1.2 h2.2
theorem vz {n:Int} (ha:Vh a) (hn:0≤n∧n≤12):JL (Vx (vS a) n).1≤400000∧JL (Vx (vS a) n).2≤400000:=by
 have h1:=ha.sz
 have m:∀ x:Rat,JL x≤2400→JL (x^n.toNat)≤400000:=fun x hx=>by
  have:=Vj x n.toNat
  have:n.toNat*JL x≤12*2400:=Nat.mul_le_mul (by omega) hx
  omega
 have h:=W2 (k:=400000) (r:=(vS a).1^n.toNat) (l:=[(vS a).2^n.toNat]) (m _ h1.1) fun x hx=>by
  obtain rfl:=List.mem_singleton.1 hx;exact m _ h1.2
 unfold Vx
 refine⟨?_,h.2⟩
 dsimp only
 split
 ·exact Nat.le_trans AT (by decide)
 ·exact h.1
theorem UP {p:(List UInt8×List UInt8)×Int} {r:Rat×Rat} (hF:Fits F w) (hp:p=Vi r) (hr:JL r.1≤400000∧JL r.2≤400000):QZ Tryz.prog 26 [.agg #[tx p.1.1,tx p.1.2],.int .i64 p.2,.int .i64 0,I8 r] w F (.bool true):=O7 hF hp hr
def Iu (a:List UInt8×List UInt8) (n:Int):List UInt8×List UInt8:=if Qm [JM a.1 a.2,GH n]=0 then(JQ (Vx (vS a) n).1,JQ (Vx (vS a) n).2) else([],[])
theorem yt {n:Int} (hF:Fits F w):QZ Tryz.prog 26 [.agg #[tx (NT a.1 a.2 n).1.1,tx (NT a.1 a.2 n).1.2],.int .i64 (NT a.1 a.2 n).2,.int .i64 (Qm [JM a.1 a.2,GH n]),.agg #[tx (Iu a n).1,tx (Iu a n).2]] w F (.bool true):=by
 by_cases h:Qm [JM a.1 a.2,GH n]=0
 ·have h2:=Zf h
  have hn:0≤n∧n≤12:=by have:=h2.2;unfold GH at this;split at this<;>omega
  have e:NT a.1 a.2 n=Vi (Vx (vS a) n):=by unfold NT;rw [if_pos h];rfl
  have:=O7 hF e (vz (show Vh a from h2.1) hn)
  unfold Iu
  rw [if_pos h,h]
  exact this
 ·have e:NT a.1 a.2 n=(([],[]),Qm [JM a.1 a.2,GH n]):=by unfold NT;rw [if_neg h]
  have:=AX (u:=([],[])) hF h e ⟨Nat.zero_le _,Nat.zero_le _⟩
  unfold Iu
  rw [if_neg h]
  exact this
end
end
section
open Go.RowKit Ig
theorem ve {w:World} {F:Gs} {a b:List UInt8×List UInt8} {n:Int} (hF:Fits F w) (hGl:JB F):QZ Tryz.prog 6 [.agg #[tx a.1,tx a.2],.agg #[tx b.1,tx b.2],.int .i64 n] w F (.bool true):=by
 refine QS.intro (G:=fun F=>JB F) Tryz.func6 rfl (by rfl) rfl rfl hF (fun F' hF'=>hGl.le hF')<|QG<|QB ?_
 refine Qw rfl (vs:=[_,_]) rfl (fun b3=>?_)
 refine Qw rfl (vs:=[_,_]) rfl (fun b4=>?_)
 refine JS_as rfl<|JS_nt<|QG<|QG<|QB ?_
 refine QI rfl (fun w F hF hGl=>T2 hF hGl) (fun _=>?_)
 refine QA (Yt rfl)<|JS_mv rfl<|QL rfl rfl<|QA (QH rfl Yr JR)<|QL rfl rfl<|QA (Qj rfl JR (.there .here) (.here .nil))<|QL rfl rfl<|QA (J9 rfl MQ)<|QL rfl rfl<|QA (QV rfl rfl rfl)<|QA (Qh rfl rfl rfl)<|JS_mv rfl ?_
 refine Qn (t:=28) rfl (fun hb28=>?_) (fun hb28=>?_)
 ·
  refine QO rfl rfl rfl<|QO rfl rfl rfl<|QO rfl rfl rfl<|QO rfl rfl rfl<|QA (Qi rfl rfl rfl)<|JS_mv rfl<|QO rfl rfl rfl<|QO rfl rfl rfl<|QO rfl rfl rfl<|QO rfl rfl rfl<|QA (Qi rfl rfl rfl)<|JS_mv rfl<|QO rfl rfl rfl<|QO rfl rfl rfl<|QO rfl rfl rfl<|QO rfl rfl rfl<|QA (Qi rfl rfl rfl)<|JS_nt<|WT rfl<|QG<|QB ?_
  refine QI rfl (fun w F hF ⟨hGl,_⟩=>T2 hF hGl) (fun _=>?_)
  refine JS_as rfl<|JS_nt<|QT ?_
  exact QQ (()) rfl (.tmp rfl .nil) (rfl) (fun F ⟨⟨hGl,_⟩,_⟩=>trivial)
 ·
  refine QL rfl rfl<|QA (QH rfl Yz JR)<|QL rfl rfl<|QA (Qj rfl JR (.there .here) (.skip (.here .nil)))<|QL rfl rfl<|QA (J9 rfl MQ)<|QL rfl rfl<|QA (QV rfl rfl rfl)<|QA (Qh rfl rfl rfl)<|JS_mv rfl ?_
  refine Qn (t:=34) rfl (fun hb34=>?_) (fun hb34=>?_)
  ·
   refine QO rfl rfl rfl<|QO rfl rfl rfl<|QO rfl rfl rfl<|QO rfl rfl rfl<|QA (Qi rfl rfl rfl)<|JS_mv rfl<|QO rfl rfl rfl<|QO rfl rfl rfl<|QO rfl rfl rfl<|QO rfl rfl rfl<|QA (Qi rfl rfl rfl)<|JS_nt<|WT rfl<|QG<|QB ?_
   refine QI rfl (fun w F hF ⟨hGl,_⟩=>T2 hF hGl) (fun _=>?_)
   refine JS_as rfl<|JS_nt<|QT ?_
   exact QQ (()) rfl (.tmp rfl .nil) (rfl) (fun F ⟨⟨hGl,_⟩,_⟩=>trivial)
  ·
   refine QL rfl rfl<|QA (QH rfl Yr JR)<|QL rfl rfl<|QA (Qj rfl JR .here (.here .nil))<|QL rfl rfl<|QA (J9 rfl MQ)<|QL rfl rfl<|QA (QV rfl rfl rfl)<|QA (Qh rfl rfl rfl)<|JS_mv rfl ?_
   refine Qn (t:=40) rfl (fun hb40=>?_) (fun hb40=>?_)
   ·
    refine QO rfl rfl rfl<|QO rfl rfl rfl<|QO rfl rfl rfl<|QO rfl rfl rfl<|QA (Qi rfl rfl rfl)<|JS_nt<|WT rfl<|QG<|QB ?_
    refine QI rfl (fun w F hF ⟨hGl,_⟩=>T2 hF hGl) (fun _=>?_)
    refine JS_as rfl<|JS_nt<|QT ?_
    exact QQ (()) rfl (.tmp rfl .nil) (rfl) (fun F ⟨⟨hGl,_⟩,_⟩=>trivial)
   ·
    refine QL rfl rfl<|QA (QH rfl Yz JR)<|QL rfl rfl<|QA (Qj rfl JR .here (.skip (.here .nil)))<|QL rfl rfl<|QA (J9 rfl MQ)<|QL rfl rfl<|QA (QV rfl rfl rfl)<|QA (Qh rfl rfl rfl)<|QE<|QC ?_
    refine QR rfl (fun hc=>?_) (fun hc=>?_)
    ·
     refine QG<|QB ?_
     refine QI rfl (fun w F hF ⟨hGl,_⟩=>T2 hF hGl) (fun _=>?_)
     refine JS_as rfl<|JS_nt<|QT ?_
     exact QQ (()) rfl (.tmp rfl .nil) (rfl) (fun F ⟨⟨hGl,_⟩,_⟩=>trivial)
    ·
     have hl40:(a.1.length≤40∧a.2.length≤40)∧b.1.length≤40∧b.2.length≤40:=by simp_all;omega
     have hl:short a∧short b:=⟨⟨by omega,by omega⟩,⟨by omega,by omega⟩⟩
     have hlp:a.1.length≤100∧a.2.length≤100:=⟨by omega,by omega⟩
     refine QP<|QC<|J_sr<|QA (QJ (vs:=[_,_]) rfl JC (.there .here) (.here (.here .nil)) rfl)<|QA (QJ (vs:=[_,_]) rfl JC .here (.here (.here .nil)) rfl) ?_
     refine QI rfl (fun w F hF ⟨hGl,_⟩=>zF hF hGl hl.1 hl.2) (fun _=>?_)
     refine JS_mv rfl<|QA (QM rfl rfl)<|QA (QM rfl rfl) ?_
     refine Qb ZN (fun b7=>?_)
     refine QN (vs:=[_,_]) rfl rfl rfl JC rfl .here (.here (.here .nil)) ⟨rfl,rfl,trivial⟩<|JS_as rfl<|JS_nt<|J_sr<|QA (QJ (vs:=[_,_]) rfl JC (.there (.there .here)) (.here (.here .nil)) rfl)<|QA (QJ (vs:=[_,_]) rfl JC (.there .here) (.here (.here .nil)) rfl) ?_
     refine QI rfl (fun w F hF ⟨⟨hGl,_⟩,_⟩=>j9 hF hGl hl.1 hl.2) (fun _=>?_)
     refine JS_mv rfl<|QA (QM rfl rfl)<|QA (QM rfl rfl) ?_
     refine Qb ZN (fun b9=>?_)
     refine QN (vs:=[_,_]) rfl rfl rfl JC rfl .here (.here (.here .nil)) ⟨rfl,rfl,trivial⟩<|JS_as rfl<|JS_nt<|J_sr<|QA (QJ (vs:=[_,_]) rfl JC (.there (.there (.there .here))) (.here (.here .nil)) rfl)<|QA (QJ (vs:=[_,_]) rfl JC (.there (.there .here)) (.here (.here .nil)) rfl) ?_
     refine QI rfl (fun w F hF ⟨⟨⟨hGl,_⟩,_⟩,_⟩=>Ra hF hGl hl.1 hl.2) (fun _=>?_)
     refine JS_mv rfl<|QA (QM rfl rfl)<|QA (QM rfl rfl) ?_
     refine Qb ZN (fun b11=>?_)
     refine QN (vs:=[_,_]) rfl rfl rfl JC rfl .here (.here (.here .nil)) ⟨rfl,rfl,trivial⟩<|JS_as rfl<|JS_nt<|J_sr<|QA (QJ (vs:=[_,_]) rfl JC (.there (.there (.there (.there .here)))) (.here (.here .nil)) rfl)<|JS_mv rfl ?_
     refine QI rfl (fun w F hF ⟨⟨⟨⟨hGl,_⟩,_⟩,_⟩,_⟩=>Na hF hGl hl.1) (fun _=>?_)
     refine JS_mv rfl<|QA (QM rfl rfl)<|QA (QM rfl rfl) ?_
     refine Qb ZN (fun b13=>?_)
     refine QN (vs:=[_,_]) rfl rfl rfl JC rfl .here (.here (.here .nil)) ⟨rfl,rfl,trivial⟩<|JS_as rfl<|JS_nt<|J_sr<|QA (QJ (vs:=[_,_]) rfl JC (.there (.there (.there (.there (.there .here))))) (.here (.here .nil)) rfl)<|QA (QJ (vs:=[_,_]) rfl JC (.there (.there (.there (.there .here)))) (.here (.here .nil)) rfl) ?_
     refine QI rfl (fun w F hF ⟨⟨⟨⟨⟨hGl,_⟩,_⟩,_⟩,_⟩,_⟩=>ya hF hGl hl.1 hl.2) (fun _=>?_)
     refine JS_mv rfl<|QA (QM rfl rfl)<|QA (QM rfl rfl)<|JS_as rfl<|JS_as rfl<|JS_nt<|J_sr<|QA (QJ (vs:=[_,_]) rfl JC (.there (.there (.there (.there (.there .here))))) (.here (.here .nil)) rfl) ?_
     refine QI rfl (fun w F hF ⟨⟨⟨⟨⟨⟨hGl,_⟩,_⟩,_⟩,_⟩,_⟩,_⟩=>Af hF hl.1) (fun _=>?_)
     refine JS_as rfl<|QE<|QC ?_
     refine KZ [(2,_),(3,_),(4,_),(7,_),(8,_),(9,_),(10,_),(11,_),(12,_),(13,_),(14,_),(15,_),(16,_),(17,_)] [(18,.int .i64 ((Qm [JM a.1 a.2,GH n])))] ⟨rfl,rfl,rfl,rfl,rfl,rfl,rfl,rfl,rfl,rfl,rfl,rfl,rfl,rfl,trivial⟩ ?_ ?_
     ·
      refine QB<|JS_mv rfl<|JS_mv rfl<|QA (QV rfl rfl rfl)<|JS_mv rfl ?_
      refine Qn (t:=82) rfl (fun hb82=>?_) (fun hb82=>?_)
      ·
       refine QO rfl rfl rfl<|QO rfl rfl rfl<|QA (Qi rfl rfl rfl) ?_
       refine QI rfl (fun w F hF ⟨⟨⟨⟨⟨⟨⟨hGl,_⟩,_⟩,_⟩,_⟩,_⟩,_⟩,_⟩=>CA hF ) (fun _=>?_)
       refine QU rfl (Q6 Qf) Qp VQ rfl rfl (fun b87=>?_)
       refine QI rfl (fun w F hF ⟨⟨⟨⟨⟨⟨⟨⟨⟨hGl,_⟩,_⟩,_⟩,_⟩,_⟩,_⟩,_⟩,_⟩,hs87⟩=>OI hF (Q9.of (n:=2) (sz:=1) (cs:=List.map Qx [JM a.1 a.2,_]) hs87 rfl) (by decide)) (fun _=>?_)
       refine JS_as rfl<|QE ?_
       exact X0 ⟨rfl,rfl,rfl,rfl,rfl,rfl,rfl,rfl,rfl,rfl,rfl,rfl,rfl,rfl,(congrArg (fun z:Int=>some (Value.int .i64 (Qm [JM a.1 a.2,z]))) (by unfold GH;first | (simp_all;done) | (simp_all;split<;>split<;>omega))),trivial⟩ subl_r (fun _ h=>h.1.1.1)
      ·
       refine QL rfl rfl<|JS_mv rfl<|QL rfl rfl<|QA (QV rfl rfl rfl)<|QA (Qh rfl rfl rfl) ?_
       refine QI rfl (fun w F hF ⟨⟨⟨⟨⟨⟨⟨hGl,_⟩,_⟩,_⟩,_⟩,_⟩,_⟩,_⟩=>CA hF ) (fun _=>?_)
       refine QU rfl (Q6 Qf) Qp VQ rfl rfl (fun b87=>?_)
       refine QI rfl (fun w F hF ⟨⟨⟨⟨⟨⟨⟨⟨⟨hGl,_⟩,_⟩,_⟩,_⟩,_⟩,_⟩,_⟩,_⟩,hs87⟩=>OI hF (Q9.of (n:=2) (sz:=1) (cs:=List.map Qx [JM a.1 a.2,_]) hs87 rfl) (by decide)) (fun _=>?_)
       refine JS_as rfl<|QE ?_
       exact X0 ⟨rfl,rfl,rfl,rfl,rfl,rfl,rfl,rfl,rfl,rfl,rfl,rfl,rfl,rfl,(congrArg (fun z:Int=>some (Value.int .i64 (Qm [JM a.1 a.2,z]))) (by unfold GH;first | (simp_all;done) | (simp_all;split<;>split<;>omega))),trivial⟩ subl_r (fun _ h=>h.1.1.1)
     ·
      simp only [List.cons_append,List.nil_append]
      refine J_sr<|QA (Qy rfl Z7 ZN .nil) ?_
      refine Qb ZN (fun b19=>?_)
      refine QN (vs:=[_,_]) rfl rfl rfl JC rfl .here (.here (.here .nil)) ⟨rfl,rfl,trivial⟩<|QE<|QC ?_
      refine T3 (ι:=List UInt8×List UInt8) [(3,_),(4,_),(7,_),(8,_),(9,_),(10,_),(11,_),(12,_),(13,_),(14,_),(15,_),(16,_),(17,_),(18,_),(19,_)] (fun i=>[]) (fun i=>[(b19,.cells [tx i.1,tx i.2].toArray 24 (0,0)),(b13,.cells [tx (NT a.1 a.2 n).1.1,tx (NT a.1 a.2 n).1.2].toArray 24 (0,0)),(b11,.cells [tx (Yf YJ a b).1.1,tx (Yf YJ a b).1.2].toArray 24 (0,0)),(b9,.cells [tx (Yf EB a b).1.1,tx (Yf EB a b).1.2].toArray 24 (0,0)),(b7,.cells [tx (Yf SE a b).1.1,tx (Yf SE a b).1.2].toArray 24 (0,0)),(b4,.cells [tx b.1,tx b.2].toArray 24 (0,0)),(b3,.cells [tx a.1,tx a.2].toArray 24 (0,0))]) (fun i F=>i=Iu a n) ⟨rfl,rfl,rfl,rfl,rfl,rfl,rfl,rfl,rfl,rfl,rfl,rfl,rfl,rfl,rfl,trivial⟩ ?_ ?_
      ·
       refine J_sr<|JS_mv rfl<|QA (QV rfl rfl rfl)<|QE<|QC ?_
       refine QR rfl (fun hc=>?_) (fun hc=>?_)
       ·
        have hp0:Qm [JM a.1 a.2,GH n]=0:=by simpa using hc
        have hpg:Vh a∧0≤n∧n≤12:=by have h2:=Zf hp0;refine⟨h2.1,?_⟩;have:=h2.2;unfold GH at this;split at this<;>omega
        refine QB<|QA (QJ (vs:=[_,_]) rfl JC (.there (.there (.there (.there (.there (.there .here)))))) (.here (.here .nil)) rfl)<|JS_mv rfl ?_
        refine QI rfl (fun w F hF ⟨⟨⟨⟨⟨⟨⟨hGl,_⟩,_⟩,_⟩,_⟩,_⟩,_⟩,_⟩=>vm hF hpg.1 hlp hpg.2) (fun _=>?_)
        refine QN (vs:=[_,_]) rfl rfl rfl JC rfl .here (.here (.here .nil)) ⟨rfl,rfl,trivial⟩<|QE ?_
        exact Jt ((JQ (Vx (vS a) n).1,JQ (Vx (vS a) n).2)) ⟨rfl,rfl,rfl,rfl,rfl,rfl,rfl,rfl,rfl,rfl,rfl,rfl,rfl,rfl,rfl,trivial⟩ subl_r (fun F ⟨⟨⟨⟨⟨⟨⟨⟨hGl,_⟩,_⟩,_⟩,_⟩,_⟩,_⟩,_⟩,_⟩=>⟨⟨⟨⟨⟨⟨⟨⟨hGl,trivial⟩,trivial⟩,trivial⟩,trivial⟩,trivial⟩,trivial⟩,trivial⟩,(by unfold Iu;rw [if_pos hp0])⟩)
       ·
        have hp0:¬ Qm [JM a.1 a.2,GH n]=0:=by simpa using hc
        refine QP ?_
        exact Jt (([],[])) ⟨rfl,rfl,rfl,rfl,rfl,rfl,rfl,rfl,rfl,rfl,rfl,rfl,rfl,rfl,rfl,trivial⟩ subl_r (fun F ⟨⟨⟨⟨⟨⟨⟨hGl,_⟩,_⟩,_⟩,_⟩,_⟩,_⟩,_⟩=>⟨⟨⟨⟨⟨⟨⟨⟨hGl,trivial⟩,trivial⟩,trivial⟩,trivial⟩,trivial⟩,trivial⟩,trivial⟩,(by unfold Iu;rw [if_neg hp0])⟩)
      ·intro i
       simp only [List.cons_append,List.nil_append]
       refine QG<|J_sr<|QA (QJ (vs:=[_,_]) rfl JC (.there .here) (.here (.here .nil)) rfl)<|JS_mv rfl<|JS_mv rfl<|QA (QJ (vs:=[_,_]) rfl JC .here (.here (.here .nil)) rfl) ?_
       refine QI rfl (fun w F hF ⟨⟨⟨⟨⟨⟨⟨⟨hGl,_⟩,_⟩,_⟩,_⟩,_⟩,_⟩,_⟩,hi⟩=>(by rw [hi];exact yt hF)) (fun _=>?_)
       refine QA (Yt rfl)<|JS_nt<|Z8 rfl<|QP<|QC<|J_sr<|JS_mv rfl<|QA (QJ (vs:=[_,_]) rfl JC (.there (.there (.there (.there (.there .here))))) (.here (.here .nil)) rfl) ?_
       refine QI rfl (fun w F hF ⟨⟨⟨⟨⟨⟨⟨⟨⟨hGl,_⟩,_⟩,_⟩,_⟩,_⟩,_⟩,_⟩,hi⟩,_⟩=>Af hF hl.2) (fun _=>?_)
       refine QU rfl (Q6 Qf) Qp VQ rfl rfl (fun b104=>?_)
       refine QI rfl (fun w F hF ⟨⟨⟨⟨⟨⟨⟨⟨⟨⟨⟨hGl,_⟩,_⟩,_⟩,_⟩,_⟩,_⟩,_⟩,hi⟩,_⟩,_⟩,hs104⟩=>OI hF (Q9.of (n:=2) (sz:=1) (cs:=List.map Qx [JM a.1 a.2,JM b.1 b.2]) hs104 rfl) (by decide)) (fun _=>?_)
       refine JS_as rfl<|JS_nt<|QG<|J_sr<|JS_mv rfl<|QA (QV rfl rfl rfl)<|QE<|QC ?_
       refine QR rfl (fun hc=>?_) (fun hc=>?_)
       ·
        have hbad:¬ Qm [JM a.1 a.2,JM b.1 b.2]=0:=by simpa using hc
        have hwb:AQ a b=(false,Qm [JM a.1 a.2,JM b.1 b.2]):=if_neg hbad
        refine J_sr<|QA (QJ (vs:=[_,_]) rfl JC (.there (.there (.there (.there .here)))) (.here (.here .nil)) rfl)<|JS_mv rfl<|JS_mv rfl<|QA (Qy rfl Z7 ZN .nil) ?_
        refine QI rfl (fun w F hF ⟨⟨⟨⟨⟨⟨⟨⟨⟨⟨⟨⟨hGl,_⟩,_⟩,_⟩,_⟩,_⟩,_⟩,_⟩,hi⟩,_⟩,_⟩,hs104⟩,_⟩=>AX (p:=(Yf SE a b)) (d:=Qm [JM a.1 a.2,JM b.1 b.2]) (u:=([],[])) hF hbad (Lx hbad) ⟨Nat.zero_le _,Nat.zero_le _⟩) (fun _=>?_)
        refine JS_mv rfl<|QL rfl rfl<|QA (QJ (vs:=[_,_]) rfl JC (.there (.there (.there .here))) (.here (.here .nil)) rfl)<|QL rfl rfl<|JS_mv rfl<|QL rfl rfl<|JS_mv rfl<|QL rfl rfl<|QA (Qy rfl Z7 ZN .nil)<|QL rfl rfl ?_
        refine QI rfl (fun w F hF ⟨⟨⟨⟨⟨⟨⟨⟨⟨⟨⟨⟨⟨hGl,_⟩,_⟩,_⟩,_⟩,_⟩,_⟩,_⟩,hi⟩,_⟩,_⟩,hs104⟩,_⟩,_⟩=>AX (p:=(Yf EB a b)) (d:=Qm [JM a.1 a.2,JM b.1 b.2]) (u:=([],[])) hF hbad (Lx hbad) ⟨Nat.zero_le _,Nat.zero_le _⟩) (fun _=>?_)
        refine QA (Qi rfl rfl rfl)<|JS_mv rfl<|QL rfl rfl<|QA (QJ (vs:=[_,_]) rfl JC (.there (.there .here)) (.here (.here .nil)) rfl)<|QL rfl rfl<|JS_mv rfl<|QL rfl rfl<|JS_mv rfl<|QL rfl rfl<|QA (Qy rfl Z7 ZN .nil)<|QL rfl rfl ?_
        refine QI rfl (fun w F hF ⟨⟨⟨⟨⟨⟨⟨⟨⟨⟨⟨⟨⟨⟨hGl,_⟩,_⟩,_⟩,_⟩,_⟩,_⟩,_⟩,hi⟩,_⟩,_⟩,hs104⟩,_⟩,_⟩,_⟩=>AX (p:=(Yf YJ a b)) (d:=Qm [JM a.1 a.2,JM b.1 b.2]) (u:=([],[])) hF hbad (Lx hbad) ⟨Nat.zero_le _,Nat.zero_le _⟩) (fun _=>?_)
        refine QA (Qi rfl rfl rfl)<|JS_mv rfl<|QL rfl rfl<|QA (QD (v:=.bool false) (by show some (Value.bool (AQ a b).1)=some (Value.bool false);rw [hwb]))<|QL rfl rfl<|QA (Yt rfl)<|QA (Qi rfl rfl rfl)<|JS_mv rfl<|QL rfl rfl<|JS_mv rfl<|QL rfl rfl<|JS_mv rfl<|QL rfl rfl<|QA (QV rfl rfl (show some (Value.bool ((AQ a b).2==Qm [JM a.1 a.2,JM b.1 b.2]))=some (Value.bool true) by rw [hwb];simp))<|QA (Qi rfl rfl rfl)<|JS_as rfl<|JS_nt<|QT ?_
        exact QQ (()) rfl (.tmp rfl .nil) (rfl) (fun F ⟨⟨⟨⟨⟨⟨⟨⟨⟨⟨⟨⟨⟨⟨⟨hGl,_⟩,_⟩,_⟩,_⟩,_⟩,_⟩,_⟩,hi⟩,_⟩,_⟩,hs104⟩,_⟩,_⟩,_⟩,_⟩=>trivial)
       ·
        have h0:Qm [JM a.1 a.2,JM b.1 b.2]=0:=by simpa using hc
        have hg:Vh a∧Vh b:=Zf h0
        have hwg:(AQ a b).2=0:=by unfold AQ;rw [if_pos h0]
        refine QP<|QC<|QG<|J_sr<|JS_mv rfl<|QA (QV rfl rfl (show some (Value.bool (!((AQ a b).2==0)))=some (Value.bool false) by rw [hwg];rfl))<|JS_mv rfl<|QL rfl rfl<|JS_mv rfl<|QL rfl rfl<|QA (QJ (vs:=[_,_]) rfl JC (.there (.there (.there (.there (.there (.there .here)))))) (.here (.here .nil)) rfl)<|QL rfl rfl<|QA (QJ (vs:=[_,_]) rfl JC (.there (.there (.there (.there (.there .here))))) (.here (.here .nil)) rfl)<|QL rfl rfl ?_
        refine QI rfl (fun w F hF ⟨⟨⟨⟨⟨⟨⟨⟨⟨⟨⟨⟨hGl,_⟩,_⟩,_⟩,_⟩,_⟩,_⟩,_⟩,hi⟩,_⟩,_⟩,hs104⟩,_⟩=>xD hF hg.1 hg.2) (fun _=>?_)
        refine QL rfl rfl<|QA (y8 qW rfl rfl)<|QA (Qh rfl rfl rfl)<|QE<|QC ?_
        refine QR rfl (fun hc=>?_) (fun hc=>?_)
        ·exact absurd hc (by simp)
        ·
         refine QP<|QC<|QG<|JN subl_r mixed (by kernel_rfl)<|QK (QJ (vs:=[_,_]) rfl JC (.there (.there (.there (.there .here)))) (.here (.here .nil)) rfl)<|QK (QD rfl)<|QK (QJ (vs:=[_,_]) rfl JC (.there (.there (.there (.there (.there (.there .here)))))) (.here (.here .nil)) rfl)<|QK (QJ (vs:=[_,_]) rfl JC (.there (.there (.there (.there (.there .here))))) (.here (.here .nil)) rfl) ?_
         refine QY rfl (fun w F hF ⟨⟨⟨⟨⟨⟨⟨⟨⟨⟨⟨⟨⟨hGl,_⟩,_⟩,_⟩,_⟩,_⟩,_⟩,_⟩,hi⟩,_⟩,_⟩,hs104⟩,_⟩,_⟩=>vw hF hg.1 hg.2) (fun _=>?_)
         refine QY rfl (fun w F hF ⟨⟨⟨⟨⟨⟨⟨⟨⟨⟨⟨⟨⟨⟨hGl,_⟩,_⟩,_⟩,_⟩,_⟩,_⟩,_⟩,hi⟩,_⟩,_⟩,hs104⟩,_⟩,_⟩,_⟩=>UP (p:=(Yf SE a b)) (r:=SE (vS a) (vS b)) hF (Ff h0) (v8 hg.1 hg.2)) (fun _=>?_)
         refine QK (QD rfl)<|Jw rfl rfl<|QK (QJ (vs:=[_,_]) rfl JC (.there (.there (.there .here))) (.here (.here .nil)) rfl)<|Jw rfl rfl<|QK (QD rfl)<|Jw rfl rfl<|QK (QJ (vs:=[_,_]) rfl JC (.there (.there (.there (.there (.there (.there .here)))))) (.here (.here .nil)) rfl)<|Jw rfl rfl<|QK (QJ (vs:=[_,_]) rfl JC (.there (.there (.there (.there (.there .here))))) (.here (.here .nil)) rfl)<|Jw rfl rfl ?_
         refine QY rfl (fun w F hF ⟨⟨⟨⟨⟨⟨⟨⟨⟨⟨⟨⟨⟨⟨⟨hGl,_⟩,_⟩,_⟩,_⟩,_⟩,_⟩,_⟩,hi⟩,_⟩,_⟩,hs104⟩,_⟩,_⟩,_⟩,_⟩=>vj hF hg.1 hg.2) (fun _=>?_)
         refine Jw rfl rfl ?_
         refine QY rfl (fun w F hF ⟨⟨⟨⟨⟨⟨⟨⟨⟨⟨⟨⟨⟨⟨⟨⟨hGl,_⟩,_⟩,_⟩,_⟩,_⟩,_⟩,_⟩,hi⟩,_⟩,_⟩,hs104⟩,_⟩,_⟩,_⟩,_⟩,_⟩=>UP (p:=(Yf EB a b)) (r:=EB (vS a) (vS b)) hF (Ff h0) (kL hg.1 hg.2)) (fun _=>?_)
         refine QK (Qi rfl rfl rfl)<|QK (QD rfl)<|Jw rfl rfl<|QK (QJ (vs:=[_,_]) rfl JC (.there (.there .here)) (.here (.here .nil)) rfl)<|Jw rfl rfl<|QK (QD rfl)<|Jw rfl rfl<|QK (QJ (vs:=[_,_]) rfl JC (.there (.there (.there (.there (.there (.there .here)))))) (.here (.here .nil)) rfl)<|Jw rfl rfl<|QK (QJ (vs:=[_,_]) rfl JC (.there (.there (.there (.there (.there .here))))) (.here (.here .nil)) rfl)<|Jw rfl rfl ?_
         refine QY rfl (fun w F hF ⟨⟨⟨⟨⟨⟨⟨⟨⟨⟨⟨⟨⟨⟨⟨⟨⟨hGl,_⟩,_⟩,_⟩,_⟩,_⟩,_⟩,_⟩,hi⟩,_⟩,_⟩,hs104⟩,_⟩,_⟩,_⟩,_⟩,_⟩,_⟩=>vo hF hg.1 hg.2) (fun _=>?_)
         refine Jw rfl rfl ?_
         refine QY rfl (fun w F hF ⟨⟨⟨⟨⟨⟨⟨⟨⟨⟨⟨⟨⟨⟨⟨⟨⟨⟨hGl,_⟩,_⟩,_⟩,_⟩,_⟩,_⟩,_⟩,hi⟩,_⟩,_⟩,hs104⟩,_⟩,_⟩,_⟩,_⟩,_⟩,_⟩,_⟩=>UP (p:=(Yf YJ a b)) (r:=YJ (vS a) (vS b)) hF (Ff h0) (yh hg.1 hg.2)) (fun _=>?_)
         refine QK (Qi rfl rfl rfl)<|QK (QF rfl)<|Q4<|QC<|QT ?_
         exact QQ (()) rfl (.tmp rfl .nil) (rfl) (fun F ⟨⟨⟨⟨⟨⟨⟨⟨⟨⟨⟨⟨⟨⟨⟨⟨⟨⟨⟨hGl,_⟩,_⟩,_⟩,_⟩,_⟩,_⟩,_⟩,hi⟩,_⟩,_⟩,hs104⟩,_⟩,_⟩,_⟩,_⟩,_⟩,_⟩,_⟩,_⟩=>trivial)
end
end Go.Proofs.YtknegjaeoffnbaaGreatDoor
