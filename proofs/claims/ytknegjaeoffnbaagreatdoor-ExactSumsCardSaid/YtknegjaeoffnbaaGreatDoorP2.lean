/- Steps of the proof of the theorem in the last file. -/
import Derived.Test.YtknegjaeoffnbaaGreatDoorP1
import Derived.MapKept
import Derived.Maps.RangeRun
import Derived.Lib.ItoaLen
set_option linter.all false
set_option maxHeartbeats 4000000
namespace Go.Proofs.YtknegjaeoffnbaaGreatDoor
section
open Go.RowKit Ig
def Nv (b:Int):Int:=if b<0∨b>64 then 3 else 0
theorem Zf {a b:Int} (h:Qm [a,b]=0):a=0∧b=0:=by
 simp only [Qm] at h
 by_cases h1:a=0
 ·rw [if_pos h1] at h
  by_cases h2:b=0
  ·exact⟨h1,h2⟩
  ·rw [if_neg h2] at h;exact absurd h h2
 ·rw [if_neg h1] at h;exact absurd h h1
theorem A8 {b:Int} (h:Nv b=0):0≤b∧b≤64:=by unfold Nv at h;split at h<;>omega
def two (b:Int):Int:=2^b.toNat
theorem I1 {b:Int} (h1:b≤64):sz (two b)≤129:=by
 have:=G5 2 b.toNat;have e:sz 2=2:=(by decide);rw [e] at this;unfold two;omega
theorem P5 {b:Int} (h1:b≤64):JL ((two b:Int):Rat)≤129:=by
 have:=DU (two b);have:=I1 h1;omega
def L5 (r:Rat) (b:Int):Rat:=Rat.divInt (r*((two b:Int):Rat)+Rat.divInt 1 2).floor (two b)
def S7 (s:List UInt8) (b:Int):List UInt8×Int:=if Qm [Jy s,Nv b]=0 then Pj (L5 (Ju s) b) else([],Qm [Jy s,Nv b])
theorem j4 (b:Int):two b≠0:=Int.ne_of_gt (Int.pow_pos (by decide))
theorem FN:JL (Rat.divInt 1 2)≤2:=by
 have:=Yd (a:=1) (b:=2) (by decide)
 have e1:sz 1=1:=by decide
 have e2:sz 2=2:=by decide
 omega
theorem Cr {r:Rat} {b:Int} {k:Nat} (h:JL r≤k) (h1:b≤64):sz (r*((two b:Int):Rat)+Rat.divInt 1 2).floor≤k+132:=by
 have a:=XA r ((two b:Int):Rat)
 have c:=KN (r*((two b:Int):Rat)) (Rat.divInt 1 2)
 have d:=FN
 have e:=P5 h1
 have f:=Hy (r*((two b:Int):Rat)+Rat.divInt 1 2)
 omega
theorem MM {n b:Int} {k:Nat} (h:sz n≤k) (h1:b≤64):JL (Rat.divInt n (two b))≤max k 129:=by
 have:=Yd (a:=n) (j4 b)
 have:=I1 h1
 omega
theorem Fm {w:World} {F:Gs} {s:List UInt8} {b:Int} (hF:Fits F w) (hG:JB F) (hl:s.length≤1000000):QZ Tryz.prog 17 [tx s,.int .i64 b] w F (.tuple #[tx (S7 s b).1,.int .i64 (S7 s b).2]):=by
 refine QS.intro (G:=fun F=>JB F) Tryz.func17 rfl (by rfl) rfl rfl hF (fun F' hF'=>hG.le hF')<|J_sr<|JS_as rfl<|JS_as rfl<|JS_nt<|QG<|J_sr<|JS_mv rfl<|QI rfl (fun w F hF hGl=>Ef hF hGl hl) (fun _=>JS_mv rfl<|QI rfl (fun w F hF ⟨hGl,_⟩=>Tq hF ) (fun _=>QU rfl (Q6 ZX) Yp Ho rfl rfl (fun b11=>QI rfl (fun w F hF ⟨⟨⟨hGl,_⟩,_⟩,hs11⟩=>Zm hF (Q9.of (cs:=List.map Qx [Jy s,Nv b]) hs11 rfl) (by decide)) (fun _=>JS_as rfl<|JS_nt<|J_sr<|JS_mv rfl<|QA (QV rfl rfl rfl)<|QE<|QC ?_))))
 refine QR rfl (fun hc=>?_) (fun hc=>?_)
 ·
  refine J_sr<|JS_mv rfl<|JS_as rfl<|JS_as rfl<|JS_nt<|QT ?_
  exact JY () rfl (.tmp rfl (.tmp rfl .nil)) (by unfold S7;rw [if_neg (by simpa using hc)]) (fun _ _=>trivial)
 ·
  have h0:Qm [Jy s,Nv b]=0:=by simpa using hc
  have h1:=Zf h0
  have hb:=A8 h1.2
  have hz:=XH h1.1
  have ht:=P5 hb.2
  have hm:=XA (Ju s) ((two b:Int):Rat)
  have hn:=Cr hz hb.2
  refine QP<|QC<|J_sr<|JS_mv rfl<|QI rfl (fun w F hF ⟨⟨⟨⟨hGl,_⟩,_⟩,hs11⟩,_⟩=>He hF hGl (Zj h1.1).1 (by omega)) (fun x17=>JS_mv rfl<|QI rfl (fun w F hF ⟨⟨⟨⟨⟨hGl,_⟩,_⟩,hs11⟩,_⟩,⟨h17,h17_⟩⟩=>Ut hF hb.1 hb.2) (fun g19=>QI rfl (fun w F hF ⟨⟨⟨⟨⟨⟨hGl,_⟩,_⟩,hs11⟩,_⟩,⟨h17,h17_⟩⟩,VV⟩=>Ht hF (by assumption)) (fun x20=>QI rfl (fun w F hF ⟨⟨⟨⟨⟨⟨⟨hGl,_⟩,_⟩,hs11⟩,_⟩,⟨h17,h17_⟩⟩,VV⟩,⟨h20,h20_⟩⟩=>KR (r:=Ju s) (s:=((two b:Int):Rat)) hF ⟨h17,h17_⟩ ⟨h20,h20_⟩ (by omega) (by omega)) (fun x21=>QI rfl (fun w F hF ⟨⟨⟨⟨⟨⟨⟨⟨hGl,_⟩,_⟩,hs11⟩,_⟩,⟨h17,h17_⟩⟩,VV⟩,⟨h20,h20_⟩⟩,⟨h21,h21_⟩⟩=>OT (r:=Ju s*((two b:Int):Rat)) hF ⟨h21,h21_⟩ (by omega)) (fun g22=>JS_mv rfl<|QI rfl (fun w F hF ⟨⟨⟨⟨⟨⟨⟨⟨⟨hGl,_⟩,_⟩,hs11⟩,_⟩,⟨h17,h17_⟩⟩,VV⟩,⟨h20,h20_⟩⟩,⟨h21,h21_⟩⟩,h22⟩=>Mf (a:=(Ju s*((two b:Int):Rat)+Rat.divInt 1 2).floor) hF h22 hb.1 hb.2 (by omega)) (fun x24=>QI rfl (fun w F hF ⟨⟨⟨⟨⟨⟨⟨⟨⟨⟨hGl,_⟩,_⟩,hs11⟩,_⟩,⟨h17,h17_⟩⟩,VV⟩,⟨h20,h20_⟩⟩,⟨h21,h21_⟩⟩,h22⟩,⟨h24,h24_⟩⟩=>OR (r:=L5 (Ju s) b) hF hGl ⟨h24,h24_⟩ (by have:=MM hn hb.2;unfold L5;omega)) (fun _=>QA (QM rfl rfl)<|QA (QM rfl rfl)<|JS_as rfl<|JS_as rfl<|JS_nt<|QT ?_)))))))
  exact JY () rfl (.tmp rfl (.tmp rfl .nil)) (by unfold S7;rw [if_pos h0];rfl) (fun _ _=>trivial)
def JM (lo hi:List UInt8):Int:=if Qm [Jy lo,Jy hi]=0 then(if Vg (Ju lo) (Ju hi)>0 then 11 else 0) else Qm [Jy lo,Jy hi]
theorem Z2 {lo hi:List UInt8} (h:JM lo hi=0):Jy lo=0∧Jy hi=0∧¬ Vg (Ju lo) (Ju hi)>0:=by
 unfold JM at h
 split at h
 ·rename_i h0
  have:=Zf h0
  refine⟨this.1,this.2,?_⟩
  split at h
  ·cases h
  ·assumption
 ·rename_i h0;exact absurd h h0
theorem YX {w:World} {F:Gs} {lo hi:List UInt8} (hF:Fits F w) (hG:JB F) (hl:lo.length≤1000000∧hi.length≤1000000):QZ Tryz.prog 22 [.agg #[tx lo,tx hi]] w F (.int .i64 (JM lo hi)):=by
 refine QS.intro (G:=fun F=>JB F) Tryz.func22 rfl (by rfl) rfl rfl hF (fun F' hF'=>hG.le hF')<|J_sr<|Qw rfl (vs:=[_,_]) rfl (fun b1=>JS_as rfl<|JS_nt<|QG<|J_sr<|QA (QH rfl Yr JR)<|QA (Qj rfl JR .here (.here .nil))<|QA (QH rfl Yz JR)<|QA (Qj rfl JR .here (.skip (.here .nil)))<|QU rfl (Q6 SD) JR vX rfl rfl (fun b8=>QI rfl (fun w F hF ⟨hGl,hs8⟩=>Og (l:=[lo,hi]) hF hGl (Q9.of (cs:=List.map tx [lo,hi]) hs8 rfl) ⟨by decide,fun s hs=>by simp at hs;rcases hs with rfl | rfl;exact hl.1;exact hl.2⟩) (fun _=>JS_as rfl<|JS_nt<|J_sr<|JS_mv rfl<|QA (QV rfl rfl rfl)<|QE<|QC ?_)))
 refine QR rfl (fun hc=>?_) (fun hc=>?_)
 ·
  refine J_sr<|JS_mv rfl<|JS_as rfl<|JS_nt<|QT ?_
  exact QQ () rfl (.tmp rfl .nil) (by unfold JM;rw [if_neg (by simpa using hc)];rfl) (fun _ _=>trivial)
 ·
  have h0:Qm [Jy lo,Jy hi]=0:=by simpa using hc
  have h1:=Zf h0
  have hz1:=XH h1.1
  have hz2:=XH h1.2
  refine QP<|QC<|QG<|JN subl_r mixed (by kernel_rfl)<|QK (QH rfl Yr JR)<|QK (Qj rfl JR .here (.here .nil))<|QY rfl (fun w F hF ⟨⟨hGl,hs8⟩,_⟩=>He hF hGl (Zj h1.1).1 (by omega)) (fun x15=>QK (QH rfl Yz JR)<|QK (Qj rfl JR .here (.skip (.here .nil)))<|QY rfl (fun w F hF ⟨⟨⟨hGl,hs8⟩,_⟩,⟨h15,h15_⟩⟩=>He hF hGl (Zj h1.2).1 (by omega)) (fun x18=>QY rfl (fun w F hF ⟨⟨⟨⟨hGl,hs8⟩,_⟩,⟨h15,h15_⟩⟩,⟨h18,h18_⟩⟩=>Ro (r:=Ju lo) (s:=Ju hi) hF ⟨h15,h15_⟩ ⟨h18,h18_⟩ (by omega) (by omega)) (fun _=>QK (QV rfl rfl rfl)<|QY rfl (fun w F hF ⟨⟨⟨⟨⟨hGl,hs8⟩,_⟩,⟨h15,h15_⟩⟩,⟨h18,h18_⟩⟩,_⟩=>Zn hF ) (fun _=>QK (QF rfl)<|Q4<|QC<|QT ?_))))
  exact QQ () rfl (.tmp rfl .nil) (congrArg (Value.int .i64) (by unfold JM;rw [if_pos h0];simp)) (fun _ _=>trivial)
structure Sp where
 lo:Fr
 hi:Fr
@[reducible] def Sp.v (x:Sp):Value:=.agg #[.int .i64 x.lo.n.s,.slice x.lo.n.q x.lo.n.n x.lo.n.cap,.int .i64 x.lo.d.s,.slice x.lo.d.q x.lo.d.n x.lo.d.cap,.int .i64 x.hi.n.s,.slice x.hi.n.q x.hi.n.n x.hi.n.cap,.int .i64 x.hi.d.s,.slice x.hi.d.q x.hi.d.n x.hi.d.cap]
def Xy (F:Gs) (x:Sp) (r:Rat×Rat):Prop:=JW F x.lo r.1∧JW F x.hi r.2
theorem Xy.le {F F':Gs} {x:Sp} {r:Rat×Rat} (h:Xy F x r) (k:Gs.le F F'):Xy F' x r:=⟨h.1.le k,h.2.le k⟩
abbrev KP (P:Program) (f:FuncId) (args:List Value) (w:World) (F:Gs) (r:Rat×Rat):Prop:=QS P f args w F Sp.v (fun x F=>Xy F x r)
theorem Yx {w:World} {F:Gs} {lo hi:List UInt8} (hF:Fits F w) (hG:JB F) (h1:Jy lo=0) (h2:Jy hi=0) (hl:lo.length≤1000000∧hi.length≤1000000):KP Tryz.prog 113 [.agg #[tx lo,tx hi]] w F (Ju lo,Ju hi):=by
 refine QS.intro (G:=fun F=>JB F) Tryz.func113 rfl (by rfl) rfl rfl hF (fun F' hF'=>hG.le hF')<|J_sr<|Qw rfl (vs:=[_,_]) rfl (fun b1=>Qb ZA (fun b2=>JS_nt<|QG<|JN (.cons _ (.cons_cons _ .slnil)) mixed (by kernel_rfl)<|QK (QH rfl Yr JR)<|QK (Qj rfl JR .here (.here .nil))<|QY rfl (fun w F hF hGl=>He hF hGl (Zj h1).1 (by omega)) (fun x5=>QK (QH rfl Yz JR)<|QK (Qj rfl JR .here (.skip (.here .nil)))<|QY rfl (fun w F hF ⟨hGl,⟨h5,h5_⟩⟩=>He hF hGl (Zj h2).1 (by omega)) (fun x8=>QK (Qy rfl Nn ZA (.cons (vs:=[_,_,_,_]) rfl rfl rfl (.here (.here (.here (.here .nil)))) (.cons (vs:=[_,_,_,_]) rfl rfl rfl (.skip (.skip (.skip (.skip (.here (.here (.here (.here .nil)))))))) .nil)))<|Q7 (vs:=[_,_,_,_,_,_,_,_]) rfl rfl rfl Jj rfl .here (.cons_cons _ .slnil) (fun _ h=>h.1.1) (.here (.here (.here (.here (.here (.here (.here (.here .nil)))))))) ⟨rfl,rfl,rfl,rfl,rfl,rfl,rfl,rfl,trivial⟩<|Q4<|QC<|QT ?_))))
 exact QQ ((⟨x5,x8⟩:Sp)) rfl (.JU (c:=[_,_,_,_,_,_,_,_]) rfl Jj .here .nil) rfl (fun F ⟨⟨hGl,⟨h5,h5_⟩⟩,⟨h8,h8_⟩⟩=>⟨⟨h5,h5_⟩,⟨h8,h8_⟩⟩)
def Vi (r:Rat×Rat):(List UInt8×List UInt8)×Int:=if(Xi r.1||Xi r.2)=true then(([],[]),4) else((JQ r.1,JQ r.2),0)
theorem EU {w:World} {F:Gs} {x:Sp} {r:Rat×Rat} (hF:Fits F w) (hG:JB F) (h:Xy F x r) (hz:JL r.1≤100000000∧JL r.2≤100000000):QZ Tryz.prog 116 [x.v] w F (.tuple #[.agg #[tx (Vi r).1.1,tx (Vi r).1.2],.int .i64 (Vi r).2]):=by
 refine QS.intro (G:=fun F=>JB F∧Xy F x r) Tryz.func116 rfl (by rfl) rfl rfl hF (fun F' hF'=>⟨hG.le hF',h.le hF'⟩)<|J_sr<|Qw rfl (vs:=[_,_,_,_,_,_,_,_]) rfl (fun b1=>Qb ZN (fun b2=>JS_as rfl<|JS_nt<|QG ?_))
 refine VG 11 (.bool (Xi r.1||Xi r.2)) ?_ ?_
 ·
  refine QB<|QA (QH rfl ZE Qc)<|QA (QJ (vs:=[_,_,_,_]) rfl Qc (.there .here) (.here (.here (.here (.here .nil)))) rfl)<|QI rfl (fun w F hF ⟨hGl,⟨⟨ha,hb⟩,⟨hc1,hd⟩⟩⟩=>BQ (x:=x.lo) (r:=r.1) hF hGl ⟨ha,hb⟩ hz.1) (fun _=>JS_mv rfl ?_)
  refine Qn (t:=7) rfl (fun hb7=>?_) (fun hb7=>?_)
  ·
   refine QO rfl rfl rfl<|QO rfl rfl rfl<|QO rfl rfl rfl<|QA (Qi rfl rfl rfl)<|QE ?_
   exact Jn (exd 9 rfl rfl) (congrArg (fun b=>some (Value.bool b)) (by simp_all)) subl_r (fun _ h=>h.1)
  ·
   refine QL rfl rfl<|QA (QH rfl ZV Qc)<|QL rfl rfl<|QA (QJ (vs:=[_,_,_,_]) rfl Qc (.there .here) (.skip (.skip (.skip (.skip (.here (.here (.here (.here .nil)))))))) rfl)<|QL rfl rfl<|QI rfl (fun w F hF ⟨⟨hGl,⟨⟨ha,hb⟩,⟨hc1,hd⟩⟩⟩,_⟩=>BQ (x:=x.hi) (r:=r.2) hF hGl ⟨hc1,hd⟩ hz.2) (fun _=>QA (Qh rfl rfl rfl)<|QE ?_)
   exact Jn (exd 9 rfl rfl) (congrArg (fun b=>some (Value.bool b)) (by simp_all)) subl_r (fun _ h=>h.1.1)
 ·
  refine QR rfl (fun hc=>?_) (fun hc=>?_)
  ·
   refine J_sr<|QA (Qy rfl Z7 ZN .nil)<|QN (vs:=[_,_]) rfl rfl rfl JC rfl .here (.here (.here .nil)) ⟨rfl,rfl,trivial⟩<|JS_as rfl<|JS_nt<|QT ?_
   exact JY () rfl (.JU (c:=[_,_]) rfl JC .here (.tmp rfl .nil)) (by unfold Vi;rw [if_pos hc];rfl) (fun _ _=>trivial)
  ·
   refine QP<|QC<|QG<|JN (.cons _ (.cons_cons _ .slnil)) mixed (by kernel_rfl)<|QK (QH rfl ZE Qc)<|QK (QJ (vs:=[_,_,_,_]) rfl Qc .here (.here (.here (.here (.here .nil)))) rfl)<|QY rfl (fun w F hF ⟨hGl,⟨⟨ha,hb⟩,⟨hc1,hd⟩⟩⟩=>Ea (x:=x.lo) (r:=r.1) hF hGl ⟨ha,hb⟩ hz.1) (fun _=>QK (QH rfl ZV Qc)<|QK (QJ (vs:=[_,_,_,_]) rfl Qc .here (.skip (.skip (.skip (.skip (.here (.here (.here (.here .nil)))))))) rfl)<|QY rfl (fun w F hF ⟨⟨hGl,⟨⟨ha,hb⟩,⟨hc1,hd⟩⟩⟩,_⟩=>Ea (x:=x.hi) (r:=r.2) hF hGl ⟨hc1,hd⟩ hz.2) (fun _=>QK (Qy rfl Z7 ZN (.cons (vs:=[_]) rfl rfl rfl (.here .nil) (.cons (vs:=[_]) rfl rfl rfl (.skip (.here .nil)) .nil)))<|Q7 (vs:=[_,_]) rfl rfl rfl JC rfl .here (.cons_cons _ .slnil) (fun _ h=>h.1.1) (.here (.here .nil)) ⟨rfl,rfl,trivial⟩<|QK (QF rfl)<|Q4<|QC<|QT ?_))
   exact JY () rfl (.JU (c:=[_,_]) rfl JC .here (.tmp rfl .nil)) (by unfold Vi;rw [if_neg (by rw [hc];decide)]) (fun _ _=>trivial)
def kD (r:Rat×Rat) (b:Int):Rat×Rat:=(Rat.divInt (r.1*((two b:Int):Rat)).floor (two b),Rat.divInt (-(-(r.2*((two b:Int):Rat))).floor) (two b))
def Fh (lo hi:List UInt8) (b:Int):(List UInt8×List UInt8)×Int:=if Qm [JM lo hi,Nv b]=0 then Vi (kD (Ju lo,Ju hi) b) else(([],[]),Qm [JM lo hi,Nv b])
theorem Fg {w:World} {F:Gs} {lo hi:List UInt8} {b:Int} (hF:Fits F w) (hG:JB F) (hl:lo.length≤1000000∧hi.length≤1000000):QZ Tryz.prog 18 [.agg #[tx lo,tx hi],.int .i64 b] w F (.tuple #[.agg #[tx (Fh lo hi b).1.1,tx (Fh lo hi b).1.2],.int .i64 (Fh lo hi b).2]):=by
 refine QS.intro (G:=fun F=>JB F) Tryz.func18 rfl (by rfl) rfl rfl hF (fun F' hF'=>hG.le hF')<|J_sr<|Qw rfl (vs:=[_,_]) rfl (fun b2=>Qb ZN (fun b4=>JS_as rfl<|JS_nt<|QG<|J_sr<|QA (QJ (vs:=[_,_]) rfl JC (.there .here) (.here (.here .nil)) rfl)<|QI rfl (fun w F hF hGl=>YX (lo:=lo) (hi:=hi) hF hGl hl) (fun _=>JS_mv rfl<|QI rfl (fun w F hF ⟨hGl,_⟩=>Tq hF ) (fun _=>QU rfl (Q6 ZX) Yp Ho rfl rfl (fun b13=>QI rfl (fun w F hF ⟨⟨⟨hGl,_⟩,_⟩,hs13⟩=>Zm hF (Q9.of (cs:=List.map Qx [JM lo hi,Nv b]) hs13 rfl) (by decide)) (fun _=>JS_as rfl<|JS_nt<|J_sr<|JS_mv rfl<|QA (QV rfl rfl rfl)<|QE ?_))))))
 refine QC ?_
 refine QR rfl (fun hc=>?_) (fun hc=>?_)
 ·
  refine J_sr<|QA (Qy rfl Z7 ZN .nil)<|JS_mv rfl<|QN (vs:=[_,_]) rfl rfl rfl JC rfl .here (.here (.here .nil)) ⟨rfl,rfl,trivial⟩<|JS_as rfl<|JS_nt<|QT ?_
  exact JY () rfl (.JU (c:=[_,_]) rfl JC .here (.tmp rfl .nil)) (by unfold Fh;rw [if_neg (by simpa using hc)];rfl) (fun _ _=>trivial)
 ·
  have h0:Qm [JM lo hi,Nv b]=0:=by simpa using hc
  have h1:=Zf h0
  have hok:=Z2 h1.1
  have hb:=A8 h1.2
  have hz1:=XH hok.1
  have hz2:=XH hok.2.1
  have ht:=P5 hb.2
  have hm1:=XA (Ju lo) ((two b:Int):Rat)
  have hm2:=XA (Ju hi) ((two b:Int):Rat)
  have hf1:=Hy (Ju lo*((two b:Int):Rat))
  have hf2:=Hy (-(Ju hi*((two b:Int):Rat)))
  rw [Hv] at hf2
  have hg1:=MM (n:=(Ju lo*((two b:Int):Rat)).floor) (k:=2529) (by omega) hb.2
  have hg2:=MM (n:=-(-(Ju hi*((two b:Int):Rat))).floor) (k:=2529) (by rw [YK];omega) hb.2
  refine QP<|QC<|J_sr<|QA (QJ (vs:=[_,_]) rfl JC (.there .here) (.here (.here .nil)) rfl)<|QI rfl (fun w F hF ⟨⟨⟨⟨hGl,_⟩,_⟩,hs13⟩,_⟩=>Yx hF hGl hok.1 hok.2.1 hl) (fun x20=>JS_mv rfl<|QI rfl (fun w F hF ⟨⟨⟨⟨⟨hGl,_⟩,_⟩,hs13⟩,_⟩,⟨⟨h20,h20_⟩,⟨h20a,h20b⟩⟩⟩=>Ut hF hb.1 hb.2) (fun g22=>QI rfl (fun w F hF ⟨⟨⟨⟨⟨⟨hGl,_⟩,_⟩,hs13⟩,_⟩,⟨⟨h20,h20_⟩,⟨h20a,h20b⟩⟩⟩,h22⟩=>Ht hF (by assumption)) (fun x23=>Qb ZA (fun b7=>Qb Xw (fun b8=>QN (vs:=[_,_,_,_,_,_,_,_]) rfl rfl rfl Jj rfl (.there .here) (.here (.here (.here (.here (.here (.here (.here (.here .nil)))))))) ⟨rfl,rfl,rfl,rfl,rfl,rfl,rfl,rfl,trivial⟩<|QN (vs:=[_,_,_,_]) rfl rfl rfl Qc rfl .here (.here (.here (.here (.here .nil)))) ⟨rfl,rfl,rfl,rfl,trivial⟩<|JS_nt<|QG<|JN (.cons_cons _ (.cons_cons _ (.cons _ (.cons_cons _ .slnil)))) mixed (by kernel_rfl)<|QK (QH rfl ZE Qc)<|QK (QJ (vs:=[_,_,_,_]) rfl Qc (.there .here) (.here (.here (.here (.here .nil)))) rfl)<|QK (QJ (vs:=[_,_,_,_]) rfl Qc .here (.here (.here (.here (.here .nil)))) rfl)<|QY rfl (fun w F hF ⟨⟨⟨⟨⟨⟨⟨hGl,_⟩,_⟩,hs13⟩,_⟩,⟨⟨h20,h20_⟩,⟨h20a,h20b⟩⟩⟩,h22⟩,⟨h23,h23_⟩⟩=>KR (r:=Ju lo) (s:=((two b:Int):Rat)) hF ⟨h20,h20_⟩ ⟨h23,h23_⟩ (by omega) (by omega)) (fun x27=>QY rfl (fun w F hF ⟨⟨⟨⟨⟨⟨⟨⟨hGl,_⟩,_⟩,hs13⟩,_⟩,⟨⟨h20,h20_⟩,⟨h20a,h20b⟩⟩⟩,h22⟩,⟨h23,h23_⟩⟩,⟨h27,h27_⟩⟩=>M5 (r:=Ju lo*((two b:Int):Rat)) hF ⟨h27,h27_⟩ (by omega)) (fun g28=>QK (QD rfl)<|QY rfl (fun w F hF ⟨⟨⟨⟨⟨⟨⟨⟨⟨hGl,_⟩,_⟩,hs13⟩,_⟩,⟨⟨h20,h20_⟩,⟨h20a,h20b⟩⟩⟩,h22⟩,⟨h23,h23_⟩⟩,⟨h27,h27_⟩⟩,h28⟩=>Mf (a:=(Ju lo*((two b:Int):Rat)).floor) hF h28 hb.1 hb.2 (by omega)) (fun x30=>QK (QH rfl ZV Qc) ?_))))))))
  refine QK (QJ (vs:=[_,_,_,_]) rfl Qc (.there .here) (.skip (.skip (.skip (.skip (.here (.here (.here (.here .nil)))))))) rfl)<|QK (QJ (vs:=[_,_,_,_]) rfl Qc .here (.here (.here (.here (.here .nil)))) rfl)<|QY rfl (fun w F hF ⟨⟨⟨⟨⟨⟨⟨⟨⟨⟨hGl,_⟩,_⟩,hs13⟩,_⟩,⟨⟨h20,h20_⟩,⟨h20a,h20b⟩⟩⟩,h22⟩,⟨h23,h23_⟩⟩,⟨h27,h27_⟩⟩,h28⟩,⟨h30,h30_⟩⟩=>KR (r:=Ju hi) (s:=((two b:Int):Rat)) hF ⟨h20a,h20b⟩ ⟨h23,h23_⟩ (by omega) (by omega)) (fun x34=>QY rfl (fun w F hF ⟨⟨⟨⟨⟨⟨⟨⟨⟨⟨⟨hGl,_⟩,_⟩,hs13⟩,_⟩,⟨⟨h20,h20_⟩,⟨h20a,h20b⟩⟩⟩,h22⟩,⟨h23,h23_⟩⟩,⟨h27,h27_⟩⟩,h28⟩,⟨h30,h30_⟩⟩,⟨h34,h34_⟩⟩=>qK (r:=Ju hi*((two b:Int):Rat)) hF ⟨h34,h34_⟩ (by omega)) (fun g35=>QK (QD rfl)<|QY rfl (fun w F hF ⟨⟨⟨⟨⟨⟨⟨⟨⟨⟨⟨⟨hGl,_⟩,_⟩,hs13⟩,_⟩,⟨⟨h20,h20_⟩,⟨h20a,h20b⟩⟩⟩,h22⟩,⟨h23,h23_⟩⟩,⟨h27,h27_⟩⟩,h28⟩,⟨h30,h30_⟩⟩,⟨h34,h34_⟩⟩,h35⟩=>Mf (a:=-(-(Ju hi*((two b:Int):Rat))).floor) hF h35 hb.1 hb.2 (by rw [YK];omega)) (fun x37=>QK (Qy rfl Nn ZA (.cons (vs:=[_,_,_,_]) rfl rfl rfl (.here (.here (.here (.here .nil)))) (.cons (vs:=[_,_,_,_]) rfl rfl rfl (.skip (.skip (.skip (.skip (.here (.here (.here (.here .nil)))))))) .nil)))<|QY rfl (fun w F hF ⟨⟨⟨⟨⟨⟨⟨⟨⟨⟨⟨⟨⟨hGl,_⟩,_⟩,hs13⟩,_⟩,⟨⟨h20,h20_⟩,⟨h20a,h20b⟩⟩⟩,h22⟩,⟨h23,h23_⟩⟩,⟨h27,h27_⟩⟩,h28⟩,⟨h30,h30_⟩⟩,⟨h34,h34_⟩⟩,h35⟩,⟨h37,h37_⟩⟩=>EU (x:=⟨x30,x37⟩) (r:=kD (Ju lo,Ju hi) b) hF hGl ⟨⟨h30,h30_⟩,⟨h37,h37_⟩⟩ ⟨Nat.le_trans hg1 (by decide),Nat.le_trans hg2 (by decide)⟩) (fun _=>QK (QM rfl rfl)<|QK (QM rfl rfl)<|Q7 (vs:=[_,_]) rfl rfl rfl JC rfl (.there (.there .here)) (.cons_cons _ (.cons_cons _ (.cons_cons _ .slnil))) (fun _ h=>h.1.1.1.1.1.1.1) (.here (.here .nil)) ⟨rfl,rfl,trivial⟩<|QK (QF rfl)<|Q4<|QC<|QT ?_))))
  exact JY () rfl (.JU (c:=[_,_]) rfl JC (.there (.there .here)) (.tmp rfl .nil)) (by unfold Fh;rw [if_pos h0];rfl) (fun _ _=>trivial)
end
section
open Go.RowKit Ig
def YO (s:Rat×Rat) (x:Rat):Rat×Rat:=(if Vg x s.1<0 then x else s.1,if Vg x s.2>0 then x else s.2)
def Y7 (r:Rat) (l:List Rat):Rat×Rat:=l.foldl YO (r,r)
def OU (x:Fr):List Value:=[.int .i64 x.n.s,.slice x.n.q x.n.n x.n.cap,.int .i64 x.d.s,.slice x.d.q x.d.n x.d.cap]
theorem Rn {α:Type} {f:α→List Value} {k:Nat} (hf:∀ x,(f x).length=k):∀ (l:List α) (i j:Nat) (h:i<l.length),j<k→(l.flatMap f)[i*k+j]?=(f l[i])[j]?
 |[],_,_,h,_=>by simp at h
 |x::l,0,j,_,hj=>by
  rw [List.flatMap_cons,Nat.zero_mul,Nat.zero_add,List.getElem?_append,if_pos (by rw [hf];exact hj)];rfl
 |x::l,i+1,j,h,hj=>by
  rw [List.flatMap_cons,List.getElem?_append,if_neg (by rw [hf,Nat.add_mul];omega),hf]
  have:=Rn hf l i j (by simpa using h) hj
  rw [show(i+1)*k+j - k=i*k+j by rw [Nat.add_mul];omega,this];rfl
theorem F4 {α:Type} {f:α→List Value} {k:Nat} (hf:∀ x,(f x).length=k) (l:List α):(l.flatMap f).length=l.length*k:=by
 induction l with
 |nil=>simp
 |cons x l ih=>rw [List.flatMap_cons,List.length_append,hf,ih,List.length_cons,Nat.add_mul];omega
theorem Is {s:Rat×Rat} {x:Rat} {k:Nat} (h:JL s.1≤k∧JL s.2≤k) (hx:JL x≤k):JL (YO s x).1≤k∧JL (YO s x).2≤k:=by
 unfold YO
 refine⟨?_,?_⟩
 ·show JL (if _ then _ else _)≤k
  split
  ·exact hx
  ·exact h.1
 ·show JL (if _ then _ else _)≤k
  split
  ·exact hx
  ·exact h.2
theorem GV {k:Nat}:∀ (l:List Rat) (s:Rat×Rat),(JL s.1≤k∧JL s.2≤k)→(∀ x∈l,JL x≤k)→JL (l.foldl YO s).1≤k∧JL (l.foldl YO s).2≤k
 |[],_,h,_=>h
 |x::l,s,h,hx=>GV l (YO s x) (Is h (hx x (by simp))) (fun y hy=>hx y (by simp [hy]))
structure zP (n:Nat) (l:List Rat) (r:Rat×Rat) where
 i:Nat
 x:Sp
 s:Rat×Rat
 le:i≤n
 h:s=(l.take i).foldl YO r
theorem N8 {l:List Rat} {i:Nat} (hi:i<l.length) (r:Rat×Rat):(l.take (i+1)).foldl YO r=YO ((l.take i).foldl YO r) l[i]:=by
 rw [List.take_succ_eq_append_getElem hi,List.foldl_append];rfl
theorem KG {w:World} {F:Gs} {x:Fr} {r:Rat} {q:Option Addr} {n c:Nat} {ps:List (Fr×Rat)} (hF:Fits F w) (h:JW F x r) (hR:Q9 F q n 4 (ps.flatMap (fun p=>OU p.1))) (hP:∀ p∈ps,JW F p.1 p.2) (hn:ps.length=n) (hb:n≤1000000) (hz:JL r≤50000000∧∀ p∈ps,JL p.2≤50000000) :
  KP Tryz.prog 152 [x.v,.slice q n c] w F (Y7 r (ps.map (·.2))):=by
 have hzl:∀ y∈ps.map (·.2),JL y≤50000000:=fun y hy=>by obtain ⟨p,hp,rfl⟩:=List.mem_map.1 hy;exact hz.2 p hp
 have hml:(ps.map (·.2)).length=n:=by simpa using hn
 refine QS.intro (G:=fun F=>JW F x r∧Q9 F q n 4 (ps.flatMap (fun p=>OU p.1))∧(∀ p∈ps,JW F p.1 p.2)) Tryz.func152 rfl (by rfl) rfl rfl hF (fun F' hF'=>⟨h.le hF',hR.le hF',fun p hp=>(hP p hp).le hF'⟩)<|J_sr<|Qw rfl (vs:=[_,_,_,_]) rfl (fun b2=>Qb ZA (fun b4=>JS_nt<|J_sr<|QA (QJ (vs:=[_,_,_,_]) rfl Qc (.there .here) (.here (.here (.here (.here .nil)))) rfl)<|QA (QJ (vs:=[_,_,_,_]) rfl Qc (.there .here) (.here (.here (.here (.here .nil)))) rfl)<|QA (Qy rfl Nn ZA (.cons (vs:=[_,_,_,_]) rfl rfl rfl (.here (.here (.here (.here .nil)))) (.cons (vs:=[_,_,_,_]) rfl rfl rfl (.skip (.skip (.skip (.skip (.here (.here (.here (.here .nil)))))))) .nil)))<|Qb ZA (fun b5=>QN (vs:=[_,_,_,_,_,_,_,_]) rfl rfl rfl Jj rfl .here (.here (.here (.here (.here (.here (.here (.here (.here .nil)))))))) ⟨rfl,rfl,rfl,rfl,rfl,rfl,rfl,rfl,trivial⟩<|JS_nt<|QG<|J_sr<|JS_mv rfl<|QA (Ql rfl G8)<|JS_mv rfl<|JS_nt<|Qa ?_)))
 refine XU (ι:=zP n (ps.map (·.2)) (r,r)) (fun i=>[(4,.pointer (some ⟨b4,0,none⟩)),(5,.pointer (some ⟨b5,0,none⟩)),(11,.slice q n c),(12,.int .i64 n),(13,.int .i64 i.i)]) (fun i=>[(b5,.cells #[.int .i64 i.x.lo.n.s,.slice i.x.lo.n.q i.x.lo.n.n i.x.lo.n.cap,.int .i64 i.x.lo.d.s,.slice i.x.lo.d.q i.x.lo.d.n i.x.lo.d.cap,.int .i64 i.x.hi.n.s,.slice i.x.hi.n.q i.x.hi.n.n i.x.hi.n.cap,.int .i64 i.x.hi.d.s,.slice i.x.hi.d.q i.x.hi.d.n i.x.hi.d.cap] 138 (0,0)),(b4,.cells #[.int .i64 0,.slice none 0 0,.int .i64 0,.slice none 0 0,.int .i64 0,.slice none 0 0,.int .i64 0,.slice none 0 0] 138 (0,0))]) (fun i F=>Xy F i.x i.s∧Q9 F q n 4 (ps.flatMap (fun p=>OU p.1))∧(∀ p∈ps,JW F p.1 p.2)) (fun i=>n - i.i)
   ⟨0,⟨x,x⟩,(r,r),Nat.zero_le _,rfl⟩ ⟨rfl,rfl,rfl,rfl,rfl,trivial⟩ (.cons_cons _ (.cons_cons _ (.cons _ subl_r))) (fun F ⟨hX,hR,hP⟩=>⟨⟨hX,hX⟩,hR,hP⟩) (fun i=>?_)
 have hle:=i.le
 have hsi:JL i.s.1≤50000000∧JL i.s.2≤50000000:=by rw [i.h];exact GV _ _ ⟨hz.1,hz.1⟩ (fun y hy=>hzl y (List.mem_of_mem_take hy))
 refine J_sr<|QA (QV rfl rfl rfl)<|JS_nt<|QG ?_
 refine QR rfl (fun hc=>?_) (fun hc=>?_)
 ·
  have hi:i.i<n:=by simp at hc;omega
  have hil:i.i<ps.length:=by omega
  have hzi:=hz.2 _ (List.getElem_mem hil)
  refine Xz _ (fun w F hF h=>h.2.1.ptr (by omega)) (fun hq=>?_)
  obtain ⟨qb,qo,rfl⟩:=hq
  refine QP<|QC<|QG<|Qa<|J_sr<|QA (Qv rfl rfl G8 Qc hi) ?_
  refine QA (B0 (vs:=OU ps[i.i].1) rfl Qc (fun F h=>h.2.1) (by omega) rfl (fun j v hv=>by rw [Rn (f:=fun p:Fr×Rat=>OU p.1) (k:=4) (fun _=>rfl) ps i.i j hil (by rcases Nat.lt_or_ge j 4 with g | g;exact g;rw [List.getElem?_eq_none (by simpa [OU] using g)] at hv;cases hv)];exact hv)) ?_
  refine Qb Xw (fun b7=>QN (vs:=[_,_,_,_]) rfl rfl rfl Qc rfl .here (.here (.here (.here (.here .nil)))) ⟨rfl,rfl,rfl,rfl,trivial⟩<|QE<|QC ?_)
  refine KY (ι:=Fr) (fun _=>[(4,.pointer (some ⟨b4,0,none⟩)),(5,.pointer (some ⟨b5,0,none⟩)),(7,.pointer (some ⟨b7,0,none⟩)),(11,.slice (some ⟨qb,qo,none⟩) n c),(12,.int .i64 n),(13,.int .i64 i.i)]) (fun y=>(b7,.cells #[.int .i64 ps[i.i].1.n.s,.slice ps[i.i].1.n.q ps[i.i].1.n.n ps[i.i].1.n.cap,.int .i64 ps[i.i].1.d.s,.slice ps[i.i].1.d.q ps[i.i].1.d.n ps[i.i].1.d.cap] 130 (0,0))::[(b5,.cells #[.int .i64 y.n.s,.slice y.n.q y.n.n y.n.cap,.int .i64 y.d.s,.slice y.d.q y.d.n y.d.cap,.int .i64 i.x.hi.n.s,.slice i.x.hi.n.q i.x.hi.n.n i.x.hi.n.cap,.int .i64 i.x.hi.d.s,.slice i.x.hi.d.q i.x.hi.d.n i.x.hi.d.cap] 138 (0,0)),(b4,.cells #[.int .i64 0,.slice none 0 0,.int .i64 0,.slice none 0 0,.int .i64 0,.slice none 0 0,.int .i64 0,.slice none 0 0] 138 (0,0))])
    (fun y F=>Xy F ⟨y,i.x.hi⟩ (if Vg ps[i.i].2 i.s.1<0 then ps[i.i].2 else i.s.1,i.s.2)∧Q9 F (some ⟨qb,qo,none⟩) n 4 (ps.flatMap (fun p=>OU p.1))∧(∀ p∈ps,JW F p.1 p.2)) ?_ ?_
  ·
   refine J_sr<|QA (QJ (vs:=[_,_,_,_]) rfl Qc .here (.here (.here (.here (.here .nil)))) rfl)<|QA (QH rfl ZE Qc)<|QA (QJ (vs:=[_,_,_,_]) rfl Qc (.there .here) (.here (.here (.here (.here .nil)))) rfl)<|QI rfl (fun w F hF ⟨hS,hR,hP⟩=>Ro (x:=ps[i.i].1) (y:=i.x.lo) (r:=ps[i.i].2) (s:=i.s.1) hF (hP _ (List.getElem_mem hil)) hS.1 (by omega) (by omega)) (fun _=>QA (QV rfl rfl rfl)<|QE<|QC ?_)
   refine QR rfl (fun hc21=>?_) (fun hc21=>?_)
   ·
    refine QB<|QA (QJ (vs:=[_,_,_,_]) rfl Qc .here (.here (.here (.here (.here .nil)))) rfl)<|QA (QH rfl ZE Qc)<|QN (vs:=[_,_,_,_]) rfl rfl rfl Qc rfl (.there .here) (.here (.here (.here (.here .nil)))) ⟨rfl,rfl,rfl,rfl,trivial⟩<|QE ?_
    exact Jt ps[i.i].1 ⟨rfl,rfl,rfl,rfl,rfl,rfl,trivial⟩ subl_r (fun F ⟨⟨hS,hR,hP⟩,_⟩=>⟨⟨by show JW F _ (if _ then _ else _);rw [if_pos (dec_t hc21)];exact hP _ (List.getElem_mem hil),hS.2⟩,hR,hP⟩)
   ·
    refine QP ?_
    exact Jt i.x.lo ⟨rfl,rfl,rfl,rfl,rfl,rfl,trivial⟩ subl_r (fun F ⟨⟨hS,hR,hP⟩,_⟩=>⟨⟨by show JW F _ (if _ then _ else _);rw [if_neg (dec_f hc21)];exact hS.1,hS.2⟩,hR,hP⟩)
  ·intro xg5
   refine J_sr<|QA (QJ (vs:=[_,_,_,_]) rfl Qc .here (.here (.here (.here (.here .nil)))) rfl)<|QA (QH rfl ZV Qc)<|QA (QJ (vs:=[_,_,_,_]) rfl Qc (.there .here) (.skip (.skip (.skip (.skip (.here (.here (.here (.here .nil)))))))) rfl)<|QI rfl (fun w F hF ⟨hS,hR,hP⟩=>Ro (x:=ps[i.i].1) (y:=i.x.hi) (r:=ps[i.i].2) (s:=i.s.2) hF (hP _ (List.getElem_mem hil)) hS.2 (by omega) (by omega)) (fun _=>QA (QV rfl rfl rfl)<|QE<|QC ?_)
   refine QR rfl (fun hc28=>?_) (fun hc28=>?_)
   ·
    refine QB<|QA (QJ (vs:=[_,_,_,_]) rfl Qc .here (.here (.here (.here (.here .nil)))) rfl)<|QA (QH rfl ZV Qc)<|QN (vs:=[_,_,_,_]) rfl rfl rfl Qc rfl (.there .here) (.skip (.skip (.skip (.skip (.here (.here (.here (.here .nil)))))))) ⟨rfl,rfl,rfl,rfl,trivial⟩<|QE<|Qk<|QC<|QB<|QA (Qu rfl rfl (by omega))<|JS_mv rfl<|QE ?_
    exact Qo (⟨i.i+1,⟨xg5,ps[i.i].1⟩,YO i.s ps[i.i].2,by omega,by rw [N8 (by omega),← i.h,List.getElem_map]⟩:zP n (ps.map (·.2)) (r,r)) (by show n - (i.i+1)<n - i.i;omega) ⟨rfl,rfl,rfl,rfl,rfl,trivial⟩ (.cons _ subl_r) (fun F ⟨⟨hS,hR,hP⟩,_⟩=>⟨⟨hS.1,by show JW F _ (if _ then _ else _);rw [if_pos (dec_t hc28)];exact hP _ (List.getElem_mem hil)⟩,hR,hP⟩)
   ·
    refine QP<|Qk<|QC<|QB<|QA (Qu rfl rfl (by omega))<|JS_mv rfl<|QE ?_
    exact Qo (⟨i.i+1,⟨xg5,i.x.hi⟩,YO i.s ps[i.i].2,by omega,by rw [N8 (by omega),← i.h,List.getElem_map]⟩:zP n (ps.map (·.2)) (r,r)) (by show n - (i.i+1)<n - i.i;omega) ⟨rfl,rfl,rfl,rfl,rfl,trivial⟩ (.cons _ subl_r) (fun F ⟨⟨hS,hR,hP⟩,_⟩=>⟨⟨hS.1,by show JW F _ (if _ then _ else _);rw [if_neg (dec_f hc28)];exact hS.2⟩,hR,hP⟩)
 ·
  refine Q5 ?_
  repeat (first | refine Qd ?_ | refine QW (by rfl) ?_)
  refine Qe<|QC<|J_sr<|QA (QJ (vs:=[_,_,_,_,_,_,_,_]) rfl Jj .here (.here (.here (.here (.here (.here (.here (.here (.here .nil)))))))) rfl)<|QN (vs:=[_,_,_,_,_,_,_,_]) rfl rfl rfl Jj rfl (.there .here) (.here (.here (.here (.here (.here (.here (.here (.here .nil)))))))) ⟨rfl,rfl,rfl,rfl,rfl,rfl,rfl,rfl,trivial⟩<|JS_nt<|QT ?_
  exact QQ (i.x) rfl (.JU (c:=[_,_,_,_,_,_,_,_]) rfl Jj (.there .here) .nil) rfl (fun F h=>by have e:=i.h;rw [List.take_of_length_le (by simp at hc;omega)] at e;show Xy F i.x (List.foldl YO (r,r) _);rw [← e];exact h.1)
theorem Il {w:World} {F:Gs} {x y:Sp} {a b:Rat×Rat} (hF:Fits F w) (h:Xy F x a) (h':Xy F y b) (ha:JL a.1≤100000000∧JL a.2≤100000000) (hb:JL b.1≤100000000∧JL b.2≤100000000):KP Tryz.prog 146 [x.v,y.v] w F (a.1+b.1,a.2+b.2):=by
 refine QS.intro (G:=fun F=>Xy F x a∧Xy F y b) Tryz.func146 rfl (by rfl) rfl rfl hF (fun F' hF'=>⟨h.le hF',h'.le hF'⟩)<|J_sr<|Qw rfl (vs:=[_,_,_,_,_,_,_,_]) rfl (fun b2=>Qw rfl (vs:=[_,_,_,_,_,_,_,_]) rfl (fun b3=>Qb ZA (fun b4=>JS_nt<|QG<|JN (.cons _ (.cons_cons _ (.cons_cons _ .slnil))) mixed (by kernel_rfl)<|QK (QH rfl ZE Qc)<|QK (QJ (vs:=[_,_,_,_]) rfl Qc (.there .here) (.here (.here (.here (.here .nil)))) rfl)<|QK (QH rfl ZE Qc)<|QK (QJ (vs:=[_,_,_,_]) rfl Qc .here (.here (.here (.here (.here .nil)))) rfl)<|QY rfl (fun w F hF ⟨hA,hB⟩=>ED (x:=x.lo) (y:=y.lo) hF hA.1 hB.1 ha.1 hb.1) (fun x9=>QK (QH rfl ZV Qc)<|QK (QJ (vs:=[_,_,_,_]) rfl Qc (.there .here) (.skip (.skip (.skip (.skip (.here (.here (.here (.here .nil)))))))) rfl)<|QK (QH rfl ZV Qc)<|QK (QJ (vs:=[_,_,_,_]) rfl Qc .here (.skip (.skip (.skip (.skip (.here (.here (.here (.here .nil)))))))) rfl)<|QY rfl (fun w F hF ⟨⟨hA,hB⟩,⟨h9,h9_⟩⟩=>ED (x:=x.hi) (y:=y.hi) hF hA.2 hB.2 ha.2 hb.2) (fun x14=>QK (Qy rfl Nn ZA (.cons (vs:=[_,_,_,_]) rfl rfl rfl (.here (.here (.here (.here .nil)))) (.cons (vs:=[_,_,_,_]) rfl rfl rfl (.skip (.skip (.skip (.skip (.here (.here (.here (.here .nil)))))))) .nil)))<|Q7 (vs:=[_,_,_,_,_,_,_,_]) rfl rfl rfl Jj rfl .here (.cons_cons _ (.cons_cons _ .slnil)) (fun _ h=>h.1.1) (.here (.here (.here (.here (.here (.here (.here (.here .nil)))))))) ⟨rfl,rfl,rfl,rfl,rfl,rfl,rfl,rfl,trivial⟩<|Q4<|QC<|QT ?_)))))
 exact QQ (⟨x9,x14⟩:Sp) rfl (.JU (c:=[_,_,_,_,_,_,_,_]) rfl Jj .here .nil) rfl (fun F ⟨⟨⟨hA,hB⟩,⟨h9,h9_⟩⟩,⟨h14,h14_⟩⟩=>⟨⟨h9,h9_⟩,⟨h14,h14_⟩⟩)
def YJ (a b:Rat×Rat):Rat×Rat:=Y7 (a.1*b.1) [a.1*b.2,a.2*b.1,a.2*b.2]
theorem SU {w:World} {F:Gs} {x y:Sp} {a b:Rat×Rat} (hF:Fits F w) (h:Xy F x a) (h':Xy F y b) (ha:JL a.1≤20000000∧JL a.2≤20000000) (hb:JL b.1≤20000000∧JL b.2≤20000000):KP Tryz.prog 148 [x.v,y.v] w F (YJ a b):=by
 have z1:=XA a.1 b.1
 have z2:=XA a.1 b.2
 have z3:=XA a.2 b.1
 have z4:=XA a.2 b.2
 refine QS.intro (G:=fun F=>Xy F x a∧Xy F y b) Tryz.func148 rfl (by rfl) rfl rfl hF (fun F' hF'=>⟨h.le hF',h'.le hF'⟩)<|J_sr<|Qw rfl (vs:=[_,_,_,_,_,_,_,_]) rfl (fun b2=>Qw rfl (vs:=[_,_,_,_,_,_,_,_]) rfl (fun b3=>Qb ZA (fun b4=>JS_nt<|QG<|JN (.cons _ (.cons_cons _ (.cons_cons _ .slnil))) mixed (by kernel_rfl)<|QK (QH rfl ZE Qc)<|QK (QJ (vs:=[_,_,_,_]) rfl Qc (.there .here) (.here (.here (.here (.here .nil)))) rfl)<|QK (QH rfl ZE Qc)<|QK (QJ (vs:=[_,_,_,_]) rfl Qc .here (.here (.here (.here (.here .nil)))) rfl)<|QY rfl (fun w F hF ⟨hA,hB⟩=>KR (x:=x.lo) (y:=y.lo) hF hA.1 hB.1 (by omega) (by omega)) (fun x9=>QK (QH rfl ZE Qc)<|QK (QJ (vs:=[_,_,_,_]) rfl Qc (.there .here) (.here (.here (.here (.here .nil)))) rfl)<|QK (QH rfl ZV Qc)<|QK (QJ (vs:=[_,_,_,_]) rfl Qc .here (.skip (.skip (.skip (.skip (.here (.here (.here (.here .nil)))))))) rfl)<|QY rfl (fun w F hF ⟨⟨hA,hB⟩,⟨h9,h9_⟩⟩=>KR (x:=x.lo) (y:=y.hi) hF hA.1 hB.2 (by omega) (by omega)) (fun x14=>QK (QH rfl ZV Qc)<|QK (QJ (vs:=[_,_,_,_]) rfl Qc (.there .here) (.skip (.skip (.skip (.skip (.here (.here (.here (.here .nil)))))))) rfl)<|QK (QH rfl ZE Qc)<|QK (QJ (vs:=[_,_,_,_]) rfl Qc .here (.here (.here (.here (.here .nil)))) rfl)<|QY rfl (fun w F hF ⟨⟨⟨hA,hB⟩,⟨h9,h9_⟩⟩,⟨h14,h14_⟩⟩=>KR (x:=x.hi) (y:=y.lo) hF hA.2 hB.1 (by omega) (by omega)) (fun x19=>?_))))))
 refine QK (QH rfl ZV Qc)<|QK (QJ (vs:=[_,_,_,_]) rfl Qc (.there .here) (.skip (.skip (.skip (.skip (.here (.here (.here (.here .nil)))))))) rfl)<|QK (QH rfl ZV Qc)<|QK (QJ (vs:=[_,_,_,_]) rfl Qc .here (.skip (.skip (.skip (.skip (.here (.here (.here (.here .nil)))))))) rfl)<|QY rfl (fun w F hF ⟨⟨⟨⟨hA,hB⟩,⟨h9,h9_⟩⟩,⟨h14,h14_⟩⟩,⟨VV,h19_⟩⟩=>KR (x:=x.hi) (y:=y.hi) hF hA.2 hB.2 (by omega) (by omega)) (fun x24=>?_)
 refine Jp rfl (Q6 G8) Qc Xw rfl rfl (fun b25=>?_) (fun w h=>h.imp (.cons _ subl_r) (fun F h=>h.1.1.1.1))
 refine QY rfl (fun w F hF ⟨⟨⟨⟨⟨⟨hA,hB⟩,⟨h9,h9_⟩⟩,⟨h14,h14_⟩⟩,⟨VV,h19_⟩⟩,⟨h24,h24_⟩⟩,hs25⟩=>KG (ps:=[(x14,a.1*b.2),(x19,a.2*b.1),(x24,a.2*b.2)]) hF ⟨h9,h9_⟩ (Q9.of (cs:=List.flatMap (fun p=>OU p.1) [(x14,a.1*b.2),(x19,a.2*b.1),(x24,a.2*b.2)]) hs25 rfl) (fun p hp=>by
  simp only [List.mem_cons,List.not_mem_nil,or_false] at hp
  rcases hp with rfl | rfl | rfl
  ·exact⟨h14,h14_⟩
  ·exact⟨VV,h19_⟩
  ·exact⟨h24,h24_⟩) rfl (by decide) ⟨by omega,fun p hp=>by
  simp only [List.mem_cons,List.not_mem_nil,or_false] at hp
  rcases hp with rfl | rfl | rfl<;>dsimp only<;>omega⟩) (fun x26=>?_)
 refine Q7 (vs:=[_,_,_,_,_,_,_,_]) rfl rfl rfl Jj rfl .here (.cons_cons _ (.cons_cons _ .slnil)) (fun _ h=>h.1.1.1.1.1.1) (.here (.here (.here (.here (.here (.here (.here (.here .nil)))))))) ⟨rfl,rfl,rfl,rfl,rfl,rfl,rfl,rfl,trivial⟩<|Q4<|QC<|QT ?_
 exact QQ (x26) rfl (.JU (c:=[_,_,_,_,_,_,_,_]) rfl Jj .here .nil) rfl (fun F h=>h.2)
end
section
open Go.RowKit Ig
def Yf (op:Rat×Rat→Rat×Rat→Rat×Rat) (a b:List UInt8×List UInt8):(List UInt8×List UInt8)×Int :=
 if Qm [JM a.1 a.2,JM b.1 b.2]=0 then Vi (op (Ju a.1,Ju a.2) (Ju b.1,Ju b.2)) else(([],[]),Qm [JM a.1 a.2,JM b.1 b.2])
def short (a:List UInt8×List UInt8):Prop:=a.1.length≤1000000∧a.2.length≤1000000
theorem Lw {w:World} {F:Gs} {a b:List UInt8×List UInt8} {f:Nat} {op:Rat×Rat→Rat×Rat→Rat×Rat} (hF:Fits F w) (hG:JB F) (ha:short a) (hb:short b)
  (hop:∀ w F x y r s,Fits F w→Xy F x r→Xy F y s→(JL r.1≤2400∧JL r.2≤2400)→(JL s.1≤2400∧JL s.2≤2400)→KP Tryz.prog f [x.v,y.v] w F (op r s)∧(JL (op r s).1≤100000000∧JL (op r s).2≤100000000)) :
  QZ Tryz.prog 145 [.agg #[tx a.1,tx a.2],.agg #[tx b.1,tx b.2],.func (.func f) #[] #[]] w F (.tuple #[.agg #[tx (Yf op a b).1.1,tx (Yf op a b).1.2],.int .i64 (Yf op a b).2]):=by
 refine QS.intro (G:=fun F=>JB F) Tryz.func145 rfl (by rfl) rfl rfl hF (fun F' hF'=>hG.le hF')<|J_sr<|Qw rfl (vs:=[_,_]) rfl (fun b3=>Qw rfl (vs:=[_,_]) rfl (fun b4=>Qb ZN (fun b6=>JS_as rfl<|JS_nt<|QG<|QG<|JN subl_r mixed (by kernel_rfl)<|QK (QJ (vs:=[_,_]) rfl JC (.there (.there .here)) (.here (.here .nil)) rfl)<|QY rfl (fun w F hF hGl=>YX (lo:=a.1) (hi:=a.2) hF hGl ha) (fun _=>QK (QJ (vs:=[_,_]) rfl JC (.there .here) (.here (.here .nil)) rfl)<|QY rfl (fun w F hF ⟨hGl,_⟩=>YX (lo:=b.1) (hi:=b.2) hF hGl hb) (fun _=>?_)))))
 refine Jp rfl (Q6 ZX) Yp Ho rfl rfl (fun b13=>?_) (fun w h=>h.BL fun F h=>h.1.1)
 refine QY rfl (fun w F hF ⟨⟨⟨hGl,_⟩,_⟩,hs13⟩=>Zm hF (Q9.of (cs:=List.map Qx [JM a.1 a.2,JM b.1 b.2]) hs13 rfl) (by decide)) (fun _=>QK (QF rfl)<|Q4<|QC<|J_sr<|JS_mv rfl<|QA (QV rfl rfl rfl)<|QE<|QC ?_)
 refine QR rfl (fun hc=>?_) (fun hc=>?_)
 ·
  refine J_sr<|QA (Qy rfl Z7 ZN .nil)<|JS_mv rfl<|QN (vs:=[_,_]) rfl rfl rfl JC rfl .here (.here (.here .nil)) ⟨rfl,rfl,trivial⟩<|JS_as rfl<|JS_nt<|QT ?_
  exact JY () rfl (.JU (c:=[_,_]) rfl JC .here (.tmp rfl .nil)) (by unfold Yf;rw [if_neg (by simpa using hc)];rfl) (fun _ _=>trivial)
 ·
  have h0:Qm [JM a.1 a.2,JM b.1 b.2]=0:=by simpa using hc
  have h1:=Zf h0
  have hoka:=Z2 h1.1
  have hokb:=Z2 h1.2
  refine QP<|QC<|QG<|JN (.cons _ (.cons_cons _ (.cons_cons _ .slnil))) mixed (by kernel_rfl)<|QK (QD rfl)<|QK (QJ (vs:=[_,_]) rfl JC (.there .here) (.here (.here .nil)) rfl)<|QY rfl (fun w F hF ⟨⟨⟨⟨hGl,_⟩,_⟩,hs13⟩,_⟩=>Yx hF hGl hoka.1 hoka.2.1 ha) (fun x21=>QK (QJ (vs:=[_,_]) rfl JC .here (.here (.here .nil)) rfl)<|QY rfl (fun w F hF ⟨⟨⟨⟨⟨hGl,_⟩,_⟩,hs13⟩,_⟩,⟨⟨h21,h21_⟩,⟨h21a,h21b⟩⟩⟩=>Yx hF hGl hokb.1 hokb.2.1 hb) (fun x23=>Tz (c1:=[]) (c2:=[]) rfl rfl (fun w F hF h=>(hop w F x21 x23 _ _ hF h.1.2 h.2 ⟨XH hoka.1,XH hoka.2.1⟩ ⟨XH hokb.1,XH hokb.2.1⟩).1) (fun x24=>QY rfl (fun w F hF h=>EU (x:=x24) (r:=op (Ju a.1,Ju a.2) (Ju b.1,Ju b.2)) hF h.1.1.1.1.1.1.1 h.2 (hop w F x21 x23 _ _ hF h.1.1.2 h.1.2 ⟨XH hoka.1,XH hoka.2.1⟩ ⟨XH hokb.1,XH hokb.2.1⟩).2) (fun _=>QK (QM rfl rfl)<|QK (QM rfl rfl)<|Q7 (vs:=[_,_]) rfl rfl rfl JC rfl .here (.cons_cons _ (.cons_cons _ .slnil)) (fun _ h=>h.1.1.1.1) (.here (.here .nil)) ⟨rfl,rfl,trivial⟩<|QK (QF rfl)<|Q4<|QC<|QT ?_))))
  exact JY () rfl (.JU (c:=[_,_]) rfl JC .here (.tmp rfl .nil)) (by unfold Yf;rw [if_pos h0];rfl) (fun _ _=>trivial)
theorem Ra {w:World} {F:Gs} {a b:List UInt8×List UInt8} (hF:Fits F w) (hG:JB F) (ha:short a) (hb:short b) :
  QZ Tryz.prog 47 [.agg #[tx a.1,tx a.2],.agg #[tx b.1,tx b.2]] w F (.tuple #[.agg #[tx (Yf YJ a b).1.1,tx (Yf YJ a b).1.2],.int .i64 (Yf YJ a b).2]):=by
 refine QS.intro (G:=fun F=>JB F) Tryz.func47 rfl (by rfl) rfl rfl hF (fun F' hF'=>hG.le hF')<|J_sr<|Qw rfl (vs:=[_,_]) rfl (fun b2=>Qw rfl (vs:=[_,_]) rfl (fun b3=>Qb ZN (fun b4=>JS_as rfl<|JS_nt<|J_sr<|QA (QJ (vs:=[_,_]) rfl JC (.there (.there .here)) (.here (.here .nil)) rfl)<|QA (QJ (vs:=[_,_]) rfl JC (.there .here) (.here (.here .nil)) rfl)<|QI rfl (fun w F hF hGl=>Lw (a:=a) (b:=b) (op:=YJ) hF hGl ha hb (fun w F x y r s hF hx hy hr hs=>⟨SU hF hx hy ⟨by omega,by omega⟩ ⟨by omega,by omega⟩,(by have z1:=XA r.1 s.1;have z2:=XA r.1 s.2;have z3:=XA r.2 s.1;have z4:=XA r.2 s.2;have:=GV (k:=4800) [r.1*s.2,r.2*s.1,r.2*s.2] (r.1*s.1,r.1*s.1) ⟨by dsimp only;omega,by dsimp only;omega⟩ (fun x hx=>(by simp only [List.mem_cons,List.not_mem_nil,or_false] at hx;rcases hx with rfl | rfl | rfl<;>omega));exact⟨Nat.le_trans this.1 (by decide),Nat.le_trans this.2 (by decide)⟩)⟩)) (fun c8=>QA (QM rfl rfl)<|QA (QM rfl rfl)<|QN (vs:=[_,_]) rfl rfl rfl JC rfl .here (.here (.here .nil)) ⟨rfl,rfl,trivial⟩<|JS_as rfl<|JS_nt<|QT ?_))))
 exact JY () rfl (.JU (c:=[_,_]) rfl JC .here (.tmp rfl .nil)) rfl (fun _ _=>trivial)
end
section
open Go.RowKit Ig
def Ge (text:List UInt8):List UInt8×List UInt8×Bool:=if(ZM 46 text).2.2=true then((ZM 46 text).1,(ZM 46 text).2.1,false) else ZM 47 text
def Uf (n d:List UInt8) (point slash:Bool):Bool:=!WY n||((point||slash)&&!WY d)
def BD (n d:List UInt8) (point slash:Bool):Int:=if slash=true then Q8 n else if point=true then Q8 (n++d) else Q8 n
def No (d:List UInt8) (point slash:Bool):Int:=if slash=true then Q8 d else if point=true then 10^d.length else 1
def RR (neg:Bool) (n d:List UInt8) (point slash:Bool):List UInt8×Int :=
 if Uf n d point slash=true then([],14) else if No d point slash=0 then([],6) else Pj (Rat.divInt (if neg=true then -BD n d point slash else BD n d point slash) (No d point slash))
def RQ (s:List UInt8):List UInt8×Int :=
 if 4096<s.length then([],16) else RR (Lib.hasPrefix s [45]) (Ge (Lib.trimPrefix s [45])).1 (Ge (Lib.trimPrefix s [45])).2.1 (ZM 46 (Lib.trimPrefix s [45])).2.2 (Ge (Lib.trimPrefix s [45])).2.2
theorem Pp {s:List UInt8} (h:WY s=true):XF s=true:=by
 simp only [WY,Bool.and_eq_true] at h;exact h.1
theorem Lt (t:List UInt8):(Ge t).1.length≤t.length∧(Ge t).2.1.length≤t.length:=by
 unfold Ge
 split
 ·exact Ba 46 t
 ·exact Ba 47 t
theorem Lu {n d:List UInt8} {pt sl:Bool} (hn:XF n=true) (hd:(pt||sl)=true→XF d=true) (hl:n.length≤1000000∧d.length≤1000000):sz (BD n d pt sl)≤8000000∧sz (No d pt sl)≤8000000:=by
 have h1:=Kz hn
 unfold BD No
 refine⟨?_,?_⟩
 ·split
  ·omega
  ·split
   ·rename_i h
    have h2:=Kz (l:=n++d) (by rw [X6,hn,hd (by rw [h];rfl)];rfl)
    rw [List.length_append] at h2;omega
   ·omega
 ·split
  ·rename_i h
   have h2:=Kz (hd (by rw [h];simp))
   omega
  ·split
   ·have:=MN d.length;omega
   ·have:sz 1=1:=by decide
    omega
theorem Lv {w:World} {F:Gs} {s:List UInt8} (hF:Fits F w) (hG:JB F) (hl:s.length≤1000000):QZ Tryz.prog 71 [tx s] w F (.tuple #[tx (RQ s).1,.int .i64 (RQ s).2]):=by
 have htl:=DZ s [45]
 have hpl:=Lt (Lib.trimPrefix s [45])
 have hcl:=Ba 46 (Lib.trimPrefix s [45])
 unfold RQ
 refine QS.intro (G:=fun F=>JB F) Tryz.func71 rfl (by rfl) rfl rfl hF (fun F' hF'=>hG.le hF')<|J_sr<|JS_as rfl<|JS_as rfl<|JS_nt<|QG<|J_sr<|JS_mv rfl<|QA (J9 rfl Xh)<|QA (QV rfl rfl rfl)<|QE<|QC ?_
 refine QR rfl (fun hc14=>?_) (fun hc14=>?_)
 ·
  refine J_sr<|JS_as rfl<|JS_as rfl<|JS_nt<|QT ?_
  exact JY () rfl (.tmp rfl (.tmp rfl .nil)) (by rw [if_pos (by simp at hc14;omega)]) (fun _ _=>trivial)
 ·
  have hlen:¬ 4096<s.length:=by simp at hc14;omega
  rw [if_neg hlen]
  refine QP<|QC<|J_sr<|JS_mv rfl<|QI rfl (fun w F hF hGl=>Dw hF ) (fun _=>JS_mv rfl<|QA (QM rfl rfl)<|QA (QM rfl rfl)<|JS_as rfl<|JS_as rfl<|JS_nt<|J_sr<|JS_mv rfl<|QI rfl (fun w F hF ⟨hGl,_⟩=>A3 hF hGl (by omega)) (fun _=>?_))
  rw [Ru]
  refine JS_mv rfl<|QA (QM rfl rfl)<|QA (QM rfl rfl)<|QA (QM rfl rfl)<|JS_as rfl<|JS_as rfl<|JS_as rfl<|JS_nt<|J_sr<|JS_as rfl<|QE<|QC ?_
  refine KY (ι:=Unit) (fun _=>[(5,.bool (Lib.hasPrefix s [45])),(6,tx (Ge (Lib.trimPrefix s [45])).1),(7,tx (Ge (Lib.trimPrefix s [45])).2.1),(8,.bool (ZM 46 (Lib.trimPrefix s [45])).2.2),(9,.bool (Ge (Lib.trimPrefix s [45])).2.2)]) (fun _=>[]) (fun _ F=>JB F) ?_ ?_
  ·
   refine J_sr<|JS_mv rfl<|QA (Yt rfl)<|QE<|QC ?_
   refine QR rfl (fun hc27=>?_) (fun hc27=>?_)
   ·
    refine QB<|JS_mv rfl<|QI rfl (fun w F hF ⟨⟨hGl,_⟩,_⟩=>A3 hF hGl (by omega)) (fun _=>?_)
    rw [Ru]
    refine JS_mv rfl<|QA (QM rfl rfl)<|QA (QM rfl rfl)<|QA (QM rfl rfl)<|JS_as rfl<|JS_as rfl<|JS_as rfl<|QE ?_
    exact Jt () ⟨rfl,(by show some (tx _)=some (tx _);rw [Ge,if_neg (by simpa using hc27)]),(by show some (tx _)=some (tx _);rw [Ge,if_neg (by simpa using hc27)]),rfl,(by show some (Value.bool _)=some (Value.bool _);rw [Ge,if_neg (by simpa using hc27)]),trivial⟩ subl_r (fun F h=>h.1.1.1)
   ·
    refine QP ?_
    exact Jt () ⟨rfl,(by show some (tx _)=some (tx _);rw [Ge,if_pos (by simpa using hc27)]),(by show some (tx _)=some (tx _);rw [Ge,if_pos (by simpa using hc27)]),rfl,(by show some (Value.bool _)=some (Value.bool _);rw [Ge,if_pos (by simpa using hc27)]),trivial⟩ subl_r (fun F h=>h.1.1)
  ·intro xg6
   generalize Ge (Lib.trimPrefix s [45])=pc at hpl ⊢
   obtain ⟨n,d,sl⟩:=pc
   generalize (ZM 46 (Lib.trimPrefix s [45])).2.2=pt
   generalize Lib.hasPrefix s [45]=neg
   dsimp only at hpl ⊢
   refine QG ?_
   refine VG 47 (.bool (Uf n d pt sl)) ?_ ?_
   ·
    refine QB<|JS_mv rfl<|QI rfl (fun w F hF hGl=>BY hF (by omega)) (fun _=>QA (Yt rfl)<|JS_mv rfl ?_)
    refine Qn (t:=37) rfl (fun hb37=>?_) (fun hb37=>?_)
    ·
     refine QO rfl rfl rfl<|QO rfl rfl rfl<|JV rfl rfl<|QO rfl rfl rfl<|QO rfl rfl rfl<|JV rfl rfl<|JV rfl rfl<|JV rfl rfl<|QO rfl rfl rfl<|QA (Qi rfl rfl rfl)<|QE ?_
     exact Jn (exd 15 rfl rfl) (congrArg (fun b=>some (Value.bool b)) (by rw [Bool.eq_iff_iff];simp_all [Uf])) subl_r (fun _ h=>h.1)
    ·
     refine QL rfl rfl<|JS_mv rfl<|QL rfl rfl<|JS_mv rfl ?_
     refine Qn (t:=39) rfl (fun hb39=>?_) (fun hb39=>?_)
     ·
      refine QO rfl rfl rfl<|QL rfl rfl<|QA (Qi rfl rfl rfl)<|QL rfl rfl<|JS_mv rfl<|QL rfl rfl<|JS_mv rfl<|QL rfl rfl<|QI rfl (fun w F hF ⟨hGl,_⟩=>BY hF (by omega)) (fun _=>QL rfl rfl<|QA (Yt rfl)<|QL rfl rfl<|QA (Qi rfl rfl rfl)<|QA (Qh rfl rfl rfl)<|QE ?_)
      exact Jn (exd 16 rfl rfl) (congrArg (fun b=>some (Value.bool b)) (by rw [Bool.eq_iff_iff];simp_all [Uf])) subl_r (fun _ h=>h.1.1)
     ·
      refine QL rfl rfl<|JS_mv rfl<|QL rfl rfl<|QA (Qh rfl rfl rfl)<|QL rfl rfl<|JS_mv rfl ?_
      refine Qn (t:=42) rfl (fun hb42=>?_) (fun hb42=>?_)
      ·
       refine QL rfl rfl<|JS_mv rfl<|QL rfl rfl<|QI rfl (fun w F hF ⟨hGl,_⟩=>BY hF (by omega)) (fun _=>QL rfl rfl<|QA (Yt rfl)<|QL rfl rfl<|QA (Qi rfl rfl rfl)<|QA (Qh rfl rfl rfl)<|QE ?_)
       exact Jn (exd 17 rfl rfl) (congrArg (fun b=>some (Value.bool b)) (by rw [Bool.eq_iff_iff];simp_all [Uf])) subl_r (fun _ h=>h.1.1)
      ·
       refine QO rfl rfl rfl<|QO rfl rfl rfl<|QO rfl rfl rfl<|QL rfl rfl<|QA (Qh rfl rfl rfl)<|QA (Qh rfl rfl rfl)<|QE ?_
       exact Jn (exd 17 rfl rfl) (congrArg (fun b=>some (Value.bool b)) (by rw [Bool.eq_iff_iff];simp_all [Uf])) subl_r (fun _ h=>h.1)
   ·
    refine QR rfl (fun hc47=>?_) (fun hc47=>?_)
    ·
     refine J_sr<|JS_as rfl<|JS_as rfl<|JS_nt<|QT ?_
     exact JY () rfl (.tmp rfl (.tmp rfl .nil)) (by unfold RR;rw [if_pos hc47]) (fun _ _=>trivial)
    ·
     have hbad:=hc47
     simp only [Uf,Bool.or_eq_false_iff,Bool.not_eq_false',Bool.and_eq_false_iff] at hc47
     have hna:=Pp hc47.1
     have hda:(pt||sl)=true→XF d=true:=fun h=>by
      rcases hc47.2 with g | g
      ·rw [Bool.or_eq_true] at h;rcases h with h | h<;>simp_all
      ·exact Pp g
     have hsz:=Lu hna hda ⟨by omega,by omega⟩
     refine QP<|QC<|J_sr<|JS_mv rfl<|QI rfl (fun w F hF hGl=>Wq hF (by rw [ZQ hna];exact hna) (by omega)) (fun g49=>QI rfl (fun w F hF ⟨hGl,h49⟩=>Mh hF (by omega) (by omega)) (fun g50=>Qb ZP (fun b10=>Qb ZP (fun b11=>QN (vs:=[_,_]) rfl rfl rfl QX rfl (.there .here) (.here (.here .nil)) ⟨rfl,rfl,trivial⟩<|QN (vs:=[_,_]) rfl rfl rfl QX rfl .here (.here (.here .nil)) ⟨rfl,rfl,trivial⟩<|QE<|QC ?_))))
     refine KY (ι:=Bg×Bg) (fun j=>[(5,.bool neg),(10,.pointer (some ⟨b10,0,none⟩)),(11,.pointer (some ⟨b11,0,none⟩))]) (fun j=>[(b11,.cells #[.int .i64 j.2.s,.slice j.2.q j.2.n j.2.cap] 128 (0,0)),(b10,.cells #[.int .i64 j.1.s,.slice j.1.q j.1.n j.1.cap] 128 (0,0))]) (fun j F=>JB F∧Jq F j.1 (BD n d pt sl)∧Jq F j.2 (No d pt sl)) ?_ ?_
     ·
      refine Qa<|J_sr<|JS_mv rfl<|JS_as rfl<|QE<|QC ?_
      refine QR rfl (fun hc51=>?_) (fun hc51=>?_)
      ·
       refine QB<|JS_mv rfl<|QI rfl (fun w F hF ⟨⟨hGl,h49⟩,h50⟩=>Wq hF (by rw [ZQ (hda (by rw [hc51];simp))];exact hda (by rw [hc51];simp)) (by omega)) (fun g54=>QN (vs:=[_,_]) rfl rfl rfl QX rfl .here (.here (.here .nil)) ⟨rfl,rfl,trivial⟩<|QE<|Qk ?_)
       exact Jt (g49,g54) ⟨rfl,rfl,rfl,trivial⟩ subl_r (fun F ⟨⟨⟨hGl,h49⟩,h50⟩,h54⟩=>⟨hGl,(by rw [XI hna] at h49;unfold BD;rw [if_pos hc51];exact h49),(by rw [XI (hda (by rw [hc51];simp))] at h54;unfold No;rw [if_pos hc51];exact h54)⟩)
      ·
       refine J_sr<|JS_mv rfl<|JS_as rfl<|QE<|QC ?_
       refine QR rfl (fun hc55=>?_) (fun hc55=>?_)
       ·
        refine QB<|JS_mv rfl<|JS_mv rfl<|QA (Zc rfl rfl (by omega))<|QI rfl (fun w F hF ⟨⟨hGl,h49⟩,h50⟩=>Wq hF (by rw [ZQ (show XF (n++d)=true by rw [X6,hna,hda (by rw [hc55];rfl)];rfl)];exact(show XF (n++d)=true by rw [X6,hna,hda (by rw [hc55];rfl)];rfl)) (by rw [List.length_append];omega)) (fun g60=>QI rfl (fun w F hF ⟨⟨⟨hGl,h49⟩,h50⟩,h60⟩=>Mh hF (by omega) (by omega)) (fun g61=>JS_mv rfl<|QA (J9 rfl Xh)<|QI rfl (fun w F hF ⟨⟨⟨⟨hGl,h49⟩,h50⟩,h60⟩,h61⟩=>Su (a:=10) hF h61 (by omega) (by omega) (by rw [Int.toNat_natCast,show sz 10=4 by decide];omega)) (fun g64=>QN (vs:=[_,_]) rfl rfl rfl QX rfl (.there .here) (.here (.here .nil)) ⟨rfl,rfl,trivial⟩<|QN (vs:=[_,_]) rfl rfl rfl QX rfl .here (.here (.here .nil)) ⟨rfl,rfl,trivial⟩<|QE<|Qk ?_)))
        exact Jt (g60,g64) ⟨rfl,rfl,rfl,trivial⟩ subl_r (fun F ⟨⟨⟨⟨⟨hGl,h49⟩,h50⟩,h60⟩,h61⟩,h64⟩=>⟨hGl,(by rw [XI (show XF (n++d)=true by rw [X6,hna,hda (by rw [hc55];rfl)];rfl)] at h60;unfold BD;rw [if_neg (by rw [hc51];decide),if_pos hc55];exact h60),(by rw [Int.toNat_natCast] at h64;unfold No;rw [if_neg (by rw [hc51];decide),if_pos hc55];exact h64)⟩)
       ·
        refine QP<|Qk ?_
        exact Jt (g49,g50) ⟨rfl,rfl,rfl,trivial⟩ subl_r (fun F ⟨⟨hGl,h49⟩,h50⟩=>⟨hGl,(by rw [XI hna] at h49;unfold BD;rw [if_neg (by rw [hc51];decide),if_neg (by rw [hc55];decide)];exact h49),(by unfold No;rw [if_neg (by rw [hc51];decide),if_neg (by rw [hc55];decide)];exact h50)⟩)
     ·intro xb0
      refine QG<|J_sr<|QA (QJ (vs:=[_,_]) rfl QX .here (.here (.here .nil)) rfl)<|QI rfl (fun w F hF ⟨hGl,⟨hA,hB⟩⟩=>Bw hF hB) (fun _=>QA (QV rfl rfl rfl)<|QE<|QC ?_)
      refine QR rfl (fun hc67=>?_) (fun hc67=>?_)
      ·
       refine J_sr<|JS_as rfl<|JS_as rfl<|JS_nt<|QT ?_
       exact JY () rfl (.tmp rfl (.tmp rfl .nil)) (by unfold RR;rw [if_neg (by rw [hbad];decide),if_pos (LD _ (by simpa using hc67))]) (fun _ _=>trivial)
      ·
       refine QP<|QC ?_
       refine KY (ι:=Bg×Bg) (fun j=>[(5,.bool neg),(10,.pointer (some ⟨b10,0,none⟩)),(11,.pointer (some ⟨b11,0,none⟩))]) (fun j=>[(b11,.cells #[.int .i64 j.2.s,.slice j.2.q j.2.n j.2.cap] 128 (0,0)),(b10,.cells #[.int .i64 j.1.s,.slice j.1.q j.1.n j.1.cap] 128 (0,0))]) (fun j F=>JB F∧Jq F j.1 (if neg=true then -(BD n d pt sl) else(BD n d pt sl))∧Jq F j.2 (No d pt sl)) ?_ ?_
       ·
        refine J_sr<|JS_mv rfl<|QE<|QC ?_
        refine QR rfl (fun hc68=>?_) (fun hc68=>?_)
        ·
         refine QB<|QA (QJ (vs:=[_,_]) rfl QX (.there .here) (.here (.here .nil)) rfl)<|QI rfl (fun w F hF ⟨⟨hGl,⟨hA,hB⟩⟩,_⟩=>Dj hF hA) (fun g70=>QN (vs:=[_,_]) rfl rfl rfl QX rfl (.there .here) (.here (.here .nil)) ⟨rfl,rfl,trivial⟩<|QE ?_)
         exact Jt (g70,xb0.2) ⟨rfl,rfl,rfl,trivial⟩ subl_r (fun F ⟨⟨⟨hGl,⟨hA,hB⟩⟩,_⟩,h70⟩=>⟨hGl,(by rw [if_pos hc68];exact h70),hB⟩)
        ·
         refine QP ?_
         exact Jt (xb0.1,xb0.2) ⟨rfl,rfl,rfl,trivial⟩ subl_r (fun F ⟨⟨hGl,⟨hA,hB⟩⟩,_⟩=>⟨hGl,(by rw [if_neg (by rw [hc68];decide)];exact hA),hB⟩)
       ·intro xg17
        refine J_sr<|QA (QJ (vs:=[_,_]) rfl QX (.there .here) (.here (.here .nil)) rfl)<|QA (QJ (vs:=[_,_]) rfl QX .here (.here (.here .nil)) rfl)<|QI rfl (fun w F hF ⟨hGl,⟨hA,hB⟩⟩=>Ms hF hA hB (fun e=>by rw [e] at hc67;exact absurd hc67 (by decide)) (by split<;>(try rw [YK])<;>omega) (by omega)) (fun x73=>QI rfl (fun w F hF ⟨⟨hGl,⟨hA,hB⟩⟩,⟨h73,h73_⟩⟩=>OR (r:=Rat.divInt (if neg=true then -(BD n d pt sl) else(BD n d pt sl)) (No d pt sl)) hF hGl ⟨h73,h73_⟩ (Nat.le_trans (Yd (fun e=>by rw [e] at hc67;exact absurd hc67 (by decide))) (by have hq:sz (if neg=true then -(BD n d pt sl) else(BD n d pt sl))≤8000000:=(by split<;>(try rw [YK])<;>omega);omega))) (fun _=>QA (QM rfl rfl)<|QA (QM rfl rfl)<|JS_as rfl<|JS_as rfl<|JS_nt<|QT ?_))
        exact JY () rfl (.tmp rfl (.tmp rfl .nil)) (by unfold RR;rw [if_neg (by rw [hbad];decide),if_neg (fun e=>by rw [e] at hc67;exact absurd hc67 (by decide))];rfl) (fun _ _=>trivial)
end
section
open Go.RowKit Ig
section
variable [Dr] [df:Df] {P:Program} {Q:Exit→Act→World→Prop} {N:Nat} {m:Sl} {ops:Array Oper} {l:List Oper} {w0:World} {F0:Gs} {bs:List (Nat×Obj)} {G:Gs→Prop} {d:Nat} {ty:TypeId} {pos:String} {aft:Array Edge}
theorem Tw {T:TypeId} {x:Operand} {s:List UInt8} (hx:ev m x=some (tx s)) (hT:GF P T=true) (k:∀ b,JS P ops Q l N ((d,.pointer (some ⟨b,0,none⟩))::m) ⟨w0,F0,(b,.stringIter ⟨s.toArray⟩ 0)::bs,G⟩) (hd:J0 N (some d)=true:=by rfl) :
  JS P ops Q (⟨some d,.range T x,ty,pos,aft,none⟩::l) N m ⟨w0,F0,bs,G⟩:=fun a w ha hw=>by
 unfold GF at hT
 split at hT
 ·rename_i hu
  have hrun:(execOp a.eval ⟨some d,.range T x,ty,pos,aft,none⟩).run P w = .ok (.value (.pointer (some ⟨w.heap.size,0,none⟩))) (w.alloc (.stringIter ⟨s.toArray⟩ 0)):=by
   simp [execOp,ha.ev hx,Instr.range,run_underlying hu,run_newObj,tx]
  exact wpList_plain rfl fun K hK=>upon_value hrun (hK _ _ (k _ _ _ (ha.put hd _) (hw.alloc _ (fun c fr e=>by cases e))))
 ·cases hT
theorem AI {x:Operand} {s:List UInt8} {b p:Nat} {f:Obj→List (Nat×Obj)} (hx:ev m x=some (.pointer (some ⟨b,0,none⟩))) (ho:Own bs b (.stringIter ⟨s.toArray⟩ p) f) (hp:p<s.length) {c width:Nat} (hdec:Utf8.decode ⟨s.toArray⟩ p=(c,width))
  (k:JS P ops Q l N ((d,.tuple #[.bool true,.int .i64 p,.int .i32 c])::m) ⟨w0,F0,f (.stringIter ⟨s.toArray⟩ (p+width)),G⟩) (hd:J0 N (some d)=true:=by rfl) :
  JS P ops Q (⟨some d,.next x true,ty,pos,aft,none⟩::l) N m ⟨w0,F0,bs,G⟩:=fun a w ha hw=>by
 have hb:=hw.own ho
 obtain ⟨pre,post,e1,e2⟩:=ho.split
 subst e1
 rw [e2] at k
 have hsz:p<(⟨s.toArray⟩:ByteArray).size:=by rw [YE];exact hp
 have hrun:(execOp a.eval ⟨some d,.next x true,ty,pos,aft,none⟩).run P w = .ok (.value (.tuple #[.bool true,.int .i64 p,.int .i32 c])) { w with heap:=w.heap.setIfInBounds b (.stringIter ⟨s.toArray⟩ (p+width)) }:=by
  simp [execOp,ha.ev hx,Instr.next,getObj,setObj,Sem.run,hb,hsz,hdec,goInt]
 exact wpList_plain rfl fun K hK=>upon_value hrun (hK _ _ (k _ _ (ha.put hd _) (hw.write pre ⟨rfl,rfl,rfl,rfl,rfl⟩ (fun c fr e=>by cases e))))
theorem AJ {x:Operand} {s:List UInt8} {b p:Nat} {f:Obj→List (Nat×Obj)} (hx:ev m x=some (.pointer (some ⟨b,0,none⟩))) (ho:Own bs b (.stringIter ⟨s.toArray⟩ p) f) (hp:s.length≤p)
  (k:JS P ops Q l N ((d,.tuple #[.bool false])::m) ⟨w0,F0,bs,G⟩) (hd:J0 N (some d)=true:=by rfl) :
  JS P ops Q (⟨some d,.next x true,ty,pos,aft,none⟩::l) N m ⟨w0,F0,bs,G⟩:=fun a w ha hw=>by
 have hb:=hw.own ho
 have hsz:¬ p<(⟨s.toArray⟩:ByteArray).size:=by rw [YE];omega
 have hrun:(execOp a.eval ⟨some d,.next x true,ty,pos,aft,none⟩).run P w = .ok (.value (.tuple #[.bool false])) w:=by
  simp [execOp,ha.ev hx,Instr.next,getObj,Sem.run,hb,hsz]
 exact wpList_plain rfl fun K hK=>upon_value hrun (hK _ _ (k _ _ (ha.put hd _) hw))
end
theorem decode_high {s:List UInt8} {p:Nat} (hp:p<s.length) (h:¬ s[p].toNat<128):128≤(Utf8.decode ⟨s.toArray⟩ p).1:=by
 have h0:((⟨s.toArray⟩:ByteArray).get! (p+0)).toNat=s[p].toNat:=by
  simp [ByteArray.get!,hp]
 unfold Utf8.decode
 simp only [h0]
 rw [if_neg h]
 split
 ·split
  ·rename_i g;exact g
  ·decide
 ·split
  ·split
   ·rename_i g;simp only [Bool.and_eq_true,decide_eq_true_eq] at g;exact Nat.le_trans (by decide) g.1
   ·decide
  ·split
   ·split
    ·rename_i g;simp only [Bool.and_eq_true,decide_eq_true_eq] at g;exact Nat.le_trans (by decide) g.1
    ·decide
   ·decide
theorem IB {s:List UInt8} {p:Nat} (hp:p<s.length):∃ c width,Utf8.decode ⟨s.toArray⟩ p=(c,width)∧((s[p].toNat<128∧c=s[p].toNat∧width=1)∨(128≤s[p].toNat∧128≤c)):=by
 have h0:((⟨s.toArray⟩:ByteArray).get! (p+0)).toNat=s[p].toNat:=by
  simp [ByteArray.get!,hp]
 by_cases h:s[p].toNat<128
 ·exact⟨_,_,by unfold Utf8.decode;simp only [h0];rw [if_pos h],.inl ⟨h,rfl,rfl⟩⟩
 ·exact⟨(Utf8.decode ⟨s.toArray⟩ p).1,(Utf8.decode ⟨s.toArray⟩ p).2,rfl,.inr ⟨by omega,decode_high hp h⟩⟩
def TT (c:Nat):Bool:=(decide (97≤c)&&decide (c≤122))||(decide (65≤c)&&decide (c≤90))
def NI (i c:Nat):Bool:=!TT c&&(i==0||(!(c==95)&&(decide (c<48)||decide (57<c))))
def Gq:Nat→List UInt8→Bool
 |_,[]=>true
 |i,c::r=>!NI i c.toNat&&Gq (i+1) r
def PX (s:List UInt8):Bool:=Gq 0 s&&decide (0<s.length)&&decide (s.length≤24)
theorem Mg {s:List UInt8} {i:Nat} (hi:i<s.length):Gq i (s.drop i)=(!NI i s[i].toNat&&Gq (i+1) (s.drop (i+1))):=by
 rw [List.drop_eq_getElem_cons hi];rfl
theorem Px {i c:Nat} (h:128≤c):NI i c=true:=by
 unfold NI TT
 rw [decide_eq_false (show ¬ c≤122 by omega),decide_eq_false (show ¬ c≤90 by omega),decide_eq_true (show 57<c by omega)]
 have:(c==95)=false:=by simp;omega
 rw [this];simp
theorem TS {w:World} {F:Gs} {s:List UInt8} (hF:Fits F w) (hl:s.length≤1000000000):QZ Tryz.prog 66 [tx s] w F (.bool (PX s)):=by
 refine QS.intro (G:=fun _=>True) Tryz.func66 rfl (by rfl) rfl rfl hF (fun F' hF'=>trivial)<|J_sr<|JS_as rfl<|JS_nt<|QG<|J_sr<|JS_mv rfl<|Tw rfl Xh (fun b7=>JS_nt<|Qa<|XU (ι:=Hl s.length (fun i=>Gq 0 s=Gq i (s.drop i))) (fun i=>[(0,tx s),(7,.pointer (some ⟨b7,0,none⟩))]) (fun i=>[(b7,.stringIter ⟨s.toArray⟩ i.i)]) (fun _ _=>True) (fun i=>s.length - i.i) ⟨0,Nat.zero_le _,rfl⟩ ⟨rfl,rfl,trivial⟩ subl_r (fun _ h=>h) (fun i=>?_))
 have hle:=i.le
 rcases Nat.lt_or_ge i.i s.length with hi | hi
 ·
  refine QG<|QB ?_
  obtain ⟨c,wd,hdec,hcase⟩:=IB hi
  refine AI rfl .here hi hdec<|QA (QM rfl rfl)<|JS_nt<|QG<|WT rfl<|QP<|QC<|Qa<|J_sr<|QA (QM rfl rfl)<|QA (QM rfl rfl)<|JS_as rfl<|JS_as rfl<|QE<|QC ?_
  refine VG 5 (.bool (TT c)) ?_ ?_
  ·
   refine QB<|JS_mv rfl<|QA (QV rfl rfl rfl)<|JS_mv rfl ?_
   refine Qn (t:=14) rfl (fun hb14=>?_) (fun hb14=>?_)
   ·
    refine QL rfl rfl<|JS_mv rfl<|QL rfl rfl<|QA (QV rfl rfl rfl)<|QA (Qi rfl rfl rfl)<|JS_mv rfl ?_
    refine Qn (t:=18) rfl (fun hb18=>?_) (fun hb18=>?_)
    ·
     refine QO rfl rfl rfl<|QO rfl rfl rfl<|QO rfl rfl rfl<|JV rfl rfl<|JV rfl rfl<|QO rfl rfl rfl<|QA (Qi rfl rfl rfl)<|JS_as rfl<|QE ?_
     exact Jn (exd 17 rfl rfl) (congrArg (fun b=>some (Value.bool b)) (by rw [Bool.eq_iff_iff];simp_all [TT];try omega)) subl_r (fun _ h=>h)
    ·
     refine QL rfl rfl<|JS_mv rfl<|QL rfl rfl<|QA (QV rfl rfl rfl)<|QL rfl rfl<|JS_mv rfl ?_
     refine Qn (t:=21) rfl (fun hb21=>?_) (fun hb21=>?_)
     ·
      refine QL rfl rfl<|JS_mv rfl<|QL rfl rfl<|QA (QV rfl rfl rfl)<|QL rfl rfl<|QA (Qi rfl rfl rfl)<|QA (Qh rfl rfl rfl)<|JS_as rfl<|QE ?_
      exact Jn (exd 18 rfl rfl) (congrArg (fun b=>some (Value.bool b)) (by rw [Bool.eq_iff_iff];simp_all [TT];try omega)) subl_r (fun _ h=>h)
     ·
      refine QO rfl rfl rfl<|QO rfl rfl rfl<|QL rfl rfl<|QA (Qh rfl rfl rfl)<|QA (Qh rfl rfl rfl)<|JS_as rfl<|QE ?_
      exact Jn (exd 18 rfl rfl) (congrArg (fun b=>some (Value.bool b)) (by rw [Bool.eq_iff_iff];simp_all [TT];try omega)) subl_r (fun _ h=>h)
   ·
    refine QO rfl rfl rfl<|QO rfl rfl rfl<|QA (Qh rfl rfl rfl)<|JS_mv rfl<|QL rfl rfl<|JS_mv rfl<|QL rfl rfl<|QA (QV rfl rfl rfl)<|QL rfl rfl<|JS_mv rfl ?_
    refine Qn (t:=21) rfl (fun hb21=>?_) (fun hb21=>?_)
    ·
     refine QL rfl rfl<|JS_mv rfl<|QL rfl rfl<|QA (QV rfl rfl rfl)<|QL rfl rfl<|QA (Qi rfl rfl rfl)<|QA (Qh rfl rfl rfl)<|JS_as rfl<|QE ?_
     exact Jn (exd 17 rfl rfl) (congrArg (fun b=>some (Value.bool b)) (by rw [Bool.eq_iff_iff];simp_all [TT];try omega)) subl_r (fun _ h=>h)
    ·
     refine QO rfl rfl rfl<|QO rfl rfl rfl<|QL rfl rfl<|QA (Qh rfl rfl rfl)<|QA (Qh rfl rfl rfl)<|JS_as rfl<|QE ?_
     exact Jn (exd 17 rfl rfl) (congrArg (fun b=>some (Value.bool b)) (by rw [Bool.eq_iff_iff];simp_all [TT];try omega)) subl_r (fun _ h=>h)
  ·
   refine VG 43 (.bool (NI i.i c)) ?_ ?_
   ·
    refine QB<|JS_mv rfl<|QA (Yt rfl)<|JS_mv rfl ?_
    refine Qn (t:=28) rfl (fun hb28=>?_) (fun hb28=>?_)
    ·
     refine QL rfl rfl<|JS_mv rfl<|QL rfl rfl<|QA (QV rfl rfl rfl)<|QL rfl rfl<|JS_mv rfl ?_
     refine Qn (t:=31) rfl (fun hb31=>?_) (fun hb31=>?_)
     ·
      refine QO rfl rfl rfl<|QO rfl rfl rfl<|QO rfl rfl rfl<|JV rfl rfl<|JV rfl rfl<|JV rfl rfl<|JV rfl rfl<|JV rfl rfl<|JV rfl rfl<|QO rfl rfl rfl<|QL rfl rfl<|QA (Qi rfl rfl rfl)<|QA (Qi rfl rfl rfl)<|QE ?_
      exact Jn (exd 20 rfl rfl) (congrArg (fun b=>some (Value.bool b)) (by rw [Bool.eq_iff_iff];simp_all [NI];try omega)) subl_r (fun _ h=>h)
     ·
      refine QL rfl rfl<|JS_mv rfl<|QL rfl rfl<|QA (QV rfl rfl rfl)<|QL rfl rfl<|JS_mv rfl ?_
      refine Qn (t:=34) rfl (fun hb34=>?_) (fun hb34=>?_)
      ·
       refine QL rfl rfl<|JS_mv rfl<|QL rfl rfl<|QA (QV rfl rfl rfl)<|QL rfl rfl<|JS_mv rfl ?_
       refine Qn (t:=37) rfl (fun hb37=>?_) (fun hb37=>?_)
       ·
        refine QO rfl rfl rfl<|QO rfl rfl rfl<|QL rfl rfl<|QA (Qi rfl rfl rfl)<|QL rfl rfl<|QA (Qi rfl rfl rfl)<|QL rfl rfl<|QA (Qh rfl rfl rfl)<|QA (Qi rfl rfl rfl)<|QE ?_
        exact Jn (exd 22 rfl rfl) (congrArg (fun b=>some (Value.bool b)) (by rw [Bool.eq_iff_iff];simp_all [NI];try omega)) subl_r (fun _ h=>h)
       ·
        refine QL rfl rfl<|JS_mv rfl<|QL rfl rfl<|QA (QV rfl rfl rfl)<|QL rfl rfl<|QA (Qh rfl rfl rfl)<|QL rfl rfl<|QA (Qi rfl rfl rfl)<|QL rfl rfl<|QA (Qh rfl rfl rfl)<|QA (Qi rfl rfl rfl)<|QE ?_
        exact Jn (exd 22 rfl rfl) (congrArg (fun b=>some (Value.bool b)) (by rw [Bool.eq_iff_iff];simp_all [NI];try omega)) subl_r (fun _ h=>h)
      ·
       refine QO rfl rfl rfl<|QO rfl rfl rfl<|QO rfl rfl rfl<|JV rfl rfl<|JV rfl rfl<|QO rfl rfl rfl<|QL rfl rfl<|QA (Qh rfl rfl rfl)<|QL rfl rfl<|QA (Qh rfl rfl rfl)<|QA (Qi rfl rfl rfl)<|QE ?_
       exact Jn (exd 21 rfl rfl) (congrArg (fun b=>some (Value.bool b)) (by rw [Bool.eq_iff_iff];simp_all [NI];try omega)) subl_r (fun _ h=>h)
    ·
     refine QO rfl rfl rfl<|QO rfl rfl rfl<|QO rfl rfl rfl<|JV rfl rfl<|JV rfl rfl<|JV rfl rfl<|JV rfl rfl<|JV rfl rfl<|JV rfl rfl<|JV rfl rfl<|JV rfl rfl<|JV rfl rfl<|JV rfl rfl<|QO rfl rfl rfl<|QA (Qh rfl rfl rfl)<|QE ?_
     exact Jn (exd 19 rfl rfl) (congrArg (fun b=>some (Value.bool b)) (by rw [Bool.eq_iff_iff];simp_all [NI];try omega)) subl_r (fun _ h=>h)
   ·
    refine QR rfl (fun hc=>?_) (fun hc=>?_)
    ·
     refine J_sr<|JS_as rfl<|JS_nt<|QT ?_
     repeat (first | refine JJ ?_ | refine JA ?_)
     exact QQ () rfl (.tmp rfl .nil) (congrArg Value.bool (by have hb:NI i.i s[i.i].toNat=true:=(by rcases hcase with ⟨_,h2,_⟩ | ⟨h2,_⟩;rw [← h2];exact hc;exact Px h2);unfold PX;rw [i.h,Mg hi,hb];rfl)) (fun _ _=>trivial)
    ·
     refine QP<|Qk ?_
     rcases hcase with ⟨h1,rfl,rfl⟩ | ⟨_,h2⟩
     ·exact Qo (⟨i.i+1,by omega,i.h.trans (by rw [Mg hi,hc];rfl)⟩:Hl s.length (fun i=>Gq 0 s=Gq i (s.drop i))) (by show s.length - (i.i+1)<s.length - i.i;omega) ⟨rfl,rfl,trivial⟩ subl_r (fun _ h=>trivial)
     ·rw [Px h2] at hc;cases hc
 ·
  refine J_sr<|AJ rfl .here hi<|QA (QM rfl rfl)<|JS_nt<|QG<|Z8 rfl<|Q5 ?_
  repeat (first | refine Qd ?_ | refine QW (by rfl) ?_)
  refine Qe<|QC<|J_sr<|JS_mv rfl<|QA (J9 rfl Xh)<|QA (QV rfl rfl rfl)<|JS_mv rfl ?_
  refine Qn (t:=47) rfl (fun hb47=>?_) (fun hb47=>?_)
  ·
   refine QL rfl rfl<|JS_mv rfl<|QL rfl rfl<|QA (J9 rfl Xh)<|QL rfl rfl<|QA (QV rfl rfl rfl)<|QA (Qi rfl rfl rfl)<|JS_as rfl<|JS_nt<|QT ?_
   exact QQ () rfl (.tmp rfl .nil) (congrArg Value.bool (by have e:=i.h;rw [List.drop_of_length_le hi] at e;unfold PX;rw [e];have h0:=hb47;rw [Bool.eq_iff_iff];simp [Gq] at *;(try subst h0);(try simp);try omega)) (fun _ _=>trivial)
  ·
   refine QO rfl rfl rfl<|QO rfl rfl rfl<|QO rfl rfl rfl<|QA (Qh rfl rfl rfl)<|JS_as rfl<|JS_nt<|QT ?_
   exact QQ () rfl (.tmp rfl .nil) (congrArg Value.bool (by have e:=i.h;rw [List.drop_of_length_le hi] at e;unfold PX;rw [e];have h0:=hb47;rw [Bool.eq_iff_iff];simp [Gq] at *;(try subst h0);(try simp);try omega)) (fun _ _=>trivial)
end
section
open Go.RowKit Ig
def ahead (p:UInt8→Bool) (s:List UInt8):Nat:=(s.takeWhile (fun c=>!p c)).length
theorem Pz {p:UInt8→Bool} {s:List UInt8} {i:Nat} (hi:i<s.length) (h:(s.take i).all (fun c=>!p c)=true) (hp:p s[i]=true):ahead p s=i:=by
 unfold ahead
 have e:s=s.take i++s[i]::s.drop (i+1):=by rw [← List.drop_eq_getElem_cons hi,List.take_append_drop]
 have hl:(s.take i).length=i:=by simp;omega
 rw [e,List.takeWhile_append_of_pos (by simpa using h),List.takeWhile_cons]
 simp [hp];omega
theorem P0 {p:UInt8→Bool} {s:List UInt8} (h:s.all (fun c=>!p c)=true):ahead p s=s.length:=by
 unfold ahead
 induction s with
 |nil=>rfl
 |cons c s ih =>
  simp only [List.all_cons,Bool.and_eq_true] at h
  rw [List.takeWhile_cons,if_pos h.1,List.length_cons,ih h.2,List.length_cons]
theorem DY {p:UInt8→Bool} {s:List UInt8} {i:Nat} (hi:i<s.length) (h:(s.take i).all p=true) (hp:p s[i]=true):(s.take (i+1)).all p=true:=by
 rw [List.take_succ_eq_append_getElem hi,List.all_append,h];simp [hp]
def XS (c:UInt8):Bool:=c==47
theorem MD {c d:UInt8} {z:Int} (hz:z=(d.toNat:Int)):((c.toNat:Int)==z)=(c==d):=by
 rw [Bool.eq_iff_iff]
 simp only [beq_iff_eq]
 constructor
 ·intro h
  apply UInt8.toNat.inj
  omega
 ·rintro rfl
  exact hz.symm
theorem BA {w:World} {F:Gs} {s:List UInt8} (hF:Fits F w) (hl:s.length≤1000000000):QZ Tryz.prog 117 [tx s] w F (.int .i64 (ahead XS s)):=by
 refine QS.intro (G:=fun _=>True) Tryz.func117 rfl (by rfl) rfl rfl hF (fun F' hF'=>trivial)<|J_sr<|JS_as rfl<|JS_nt<|QG<|J_sr<|JS_as rfl<|JS_nt<|Qa<|XU (ι:=Hl s.length (fun i=>(s.take i).all (fun c=>!XS c)=true)) (fun i=>[(0,tx s),(3,.int .i64 i.i)]) (fun _=>[]) (fun _ _=>True) (fun i=>s.length - i.i) ⟨0,Nat.zero_le _,rfl⟩ ⟨rfl,rfl,trivial⟩ subl_r (fun _ h=>trivial) (fun i=>?_)
 have hle:=i.le
 refine QG<|J_sr<|JS_mv rfl<|JS_mv rfl<|QA (J9 rfl Xh)<|QA (QV rfl rfl rfl)<|QE<|QC ?_
 refine QR rfl (fun hc=>?_) (fun hc=>?_)
 ·
  have hi:i.i<s.length:=by simp at hc;omega
  clear hc
  refine QP<|QC<|QG<|Qa<|J_sr<|JS_mv rfl<|JS_mv rfl<|QA (Vn rfl rfl Xh (hi))<|QA (QV rfl rfl rfl)<|QE<|QC ?_
  refine QR rfl (fun hc=>?_) (fun hc=>?_)
  ·
   refine J_sr<|JS_mv rfl<|JS_as rfl<|JS_nt<|QT ?_
   repeat (first | refine JJ ?_ | refine JA ?_)
   exact QQ () rfl (.tmp rfl .nil) (congrArg (fun n:Nat=>Value.int .i64 (n:Int)) (Pz hi i.h (by unfold XS;have:=hc;rw [MD (d:=47) (z:=47) rfl] at this;simpa using this))) (fun _ _=>trivial)
  ·
   refine QP<|Qk<|QC<|QB<|JS_mv rfl<|QA (Qu rfl rfl (by omega))<|JS_as rfl<|QE ?_
   exact Qo (⟨i.i+1,by omega,DY hi i.h (by unfold XS;have:=hc;rw [MD (d:=47) (z:=47) rfl] at this;simpa using this)⟩:Hl s.length (fun i=>(s.take i).all (fun c=>!XS c)=true)) (by show s.length - (i.i+1)<s.length - i.i;omega) ⟨rfl,rfl,trivial⟩ subl_r (fun _ h=>trivial)
 ·
  refine Q5 ?_
  repeat (first | refine Qd ?_ | refine QW (by rfl) ?_)
  refine Qe<|QC<|J_sr<|JS_mv rfl<|QA (J9 rfl Xh)<|JS_as rfl<|JS_nt<|QT ?_
  exact QQ () rfl (.tmp rfl .nil) (congrArg (fun n:Nat=>Value.int .i64 (n:Int)) (P0 (by have e:=i.h;rw [List.take_of_length_le (by simp at hc;omega)] at e;exact e))) (fun _ _=>trivial)
end
section
open Go.RowKit Ig
def NW (s:List UInt8):Int:=if s=[48] then 0 else if Lib.hasPrefix s [45]=true then -1 else 1
def O4 (s:List UInt8):List UInt8:=if NW s<0 then s.drop 1 else s
def numOf (s:List UInt8):List UInt8:=s.take (ahead XS s)
def T8 (s:List UInt8):List UInt8:=if ahead XS s=s.length then [49] else s.drop (ahead XS s+1)
theorem Wr {s:List UInt8} (h:0<s.length):Lib.hasPrefix s [45]=(s[0]==45):=by
 cases s with
 |nil=>simp at h
 |cons c r =>
  have e:Lib.hasPrefix (c::r) [45]=(45==c):=by simp [Lib.hasPrefix,List.isPrefixOf]
  rw [e,Bool.eq_iff_iff]
  simp only [List.getElem_cons_zero,beq_iff_eq]
  exact⟨fun h=>h.symm,fun h=>h.symm⟩
end
section
open Go.RowKit Ig
theorem EA {s:List UInt8} {i:Nat} (hi:i<s.length):Q8 (s.take (i+1))=Q8 (s.take i)*10+(s[i].toNat - 48):=by
 rw [List.take_succ_eq_append_getElem hi,Zz,Kr];simp
theorem zE {s:List UInt8} {i:Nat} (hi:i<s.length) (h:XF s=true):48≤s[i].toNat∧s[i].toNat≤57:=by
 rw [XF,List.all_eq_true] at h
 exact YZ.1 (h _ (List.getElem_mem hi))
theorem MU {w:World} {F:Gs} {s:List UInt8} (hF:Fits F w) (hs:XF s=true) (hl:s.length≤18):QZ Tryz.prog 232 [tx s] w F (.int .i64 (Q8 s)):=by
 refine QS.intro (G:=fun _=>True) Tryz.func232 rfl (by rfl) rfl rfl hF (fun F' hF'=>trivial)<|J_sr<|JS_as rfl<|JS_nt<|J_sr<|JS_as rfl<|JS_nt<|QG<|J_sr<|JS_as rfl<|JS_nt<|Qa<|XU (ι:=Hl s.length (fun _=>True)) (fun i=>[(0,tx s),(3,.int .i64 (Q8 (s.take i.i))),(4,.int .i64 i.i)]) (fun _=>[]) (fun _ _=>True) (fun i=>s.length - i.i) ⟨0,Nat.zero_le _,trivial⟩ ⟨rfl,rfl,rfl,trivial⟩ subl_r (fun _ h=>trivial) (fun i=>?_)
 have hle:=i.le
 have hlt:=Vm (GW hs i.i)
 have hp18:(10:Nat)^(s.take i.i).length≤10^18:=Nat.pow_le_pow_right (by decide) (by simp;omega)
 refine QG<|J_sr<|JS_mv rfl<|JS_mv rfl<|QA (J9 rfl Xh)<|QA (QV rfl rfl rfl)<|QE<|QC ?_
 refine QR rfl (fun hc=>?_) (fun hc=>?_)
 ·
  have hi:i.i<s.length:=by simp at hc;omega
  have hd:=zE hi hs
  have hp17:(10:Nat)^(s.take i.i).length≤10^17:=Nat.pow_le_pow_right (by decide) (by simp;omega)
  refine QP<|QC<|QG<|Qa<|QB<|JS_mv rfl<|QA (Ga rfl rfl (by omega))<|JS_mv rfl<|JS_mv rfl<|QA (Vn rfl rfl Xh (hi))<|QA (FZ rfl gV pO (by omega))<|QA (Qu rfl rfl (by omega))<|QA (J6 rfl rfl (by omega))<|JS_as rfl<|QE<|Qk<|QC<|QB<|JS_mv rfl<|QA (Qu rfl rfl (by omega))<|JS_as rfl<|QE ?_
  exact Qo (⟨i.i+1,by omega,trivial⟩:Hl s.length (fun _=>True)) (by show s.length - (i.i+1)<s.length - i.i;omega) ⟨rfl,(by show some (Value.int .i64 _)=some (Value.int .i64 _);rw [EA hi];congr 2;omega),rfl,trivial⟩ subl_r (fun _ h=>trivial)
 ·
  refine Q5 ?_
  repeat (first | refine Qd ?_ | refine QW (by rfl) ?_)
  refine Qe<|QC<|J_sr<|JS_mv rfl<|JS_as rfl<|JS_nt<|QT ?_
  exact QQ () rfl (.tmp rfl .nil) (congrArg (Value.int .i64) (by rw [List.take_of_length_le (by simp at hc;omega)])) (fun _ _=>trivial)
structure vP (a b:Nat) where
 x:Nat
 y:Nat
 h:Nat.gcd x y=Nat.gcd a b
 hx:x≤9223372036854775807
 hy:y≤9223372036854775807
theorem y4 {w:World} {F:Gs} {a b:Nat} (hF:Fits F w) (ha:a≤9223372036854775807) (hb:b≤9223372036854775807):QZ Tryz.prog 181 [.int .i64 (a:Int),.int .i64 (b:Int)] w F (.int .i64 (Nat.gcd a b:Nat)):=by
 refine QS.intro (G:=fun _=>True) Tryz.func181 rfl (by rfl) rfl rfl hF (fun F' hF'=>trivial)<|J_sr<|JS_as rfl<|JS_nt<|QG<|Qa<|XU (ι:=vP a b) (fun i=>[(0,.int .i64 (i.x:Int)),(1,.int .i64 (i.y:Int))]) (fun _=>[]) (fun _ _=>True) (fun i=>i.y) ⟨a,b,rfl,ha,hb⟩ ⟨rfl,rfl,trivial⟩ subl_r (fun _ h=>trivial) (fun i=>?_)
 have hx:=i.hx
 have hy:=i.hy
 refine QG<|J_sr<|JS_mv rfl<|QA (QV rfl rfl rfl)<|QE<|QC ?_
 refine QR rfl (fun hc=>?_) (fun hc=>?_)
 ·
  have hpos:0<i.y:=by simp at hc;omega
  refine QP<|QC<|Qa<|JN subl_r mixed (by kernel_rfl)<|QK (QD rfl)<|QK (QD rfl)<|QK (QD rfl)<|QK (Kc rfl rfl (by omega) (by omega))<|QK (QF rfl)<|QK (QF rfl)<|Q4<|Qk ?_
  exact Qo (⟨i.y,i.x%i.y,by rw [← i.h,Nat.gcd_comm i.x,Nat.gcd_rec i.y i.x,Nat.gcd_comm],hy,by have:=Nat.mod_lt i.x hpos;omega⟩:vP a b) (Nat.mod_lt i.x hpos) ⟨rfl,rfl,trivial⟩ subl_r (fun _ h=>trivial)
 ·
  refine Q5 ?_
  repeat (first | refine Qd ?_ | refine QW (by rfl) ?_)
  refine Qe<|QC<|J_sr<|JS_mv rfl<|JS_as rfl<|JS_nt<|QT ?_
  exact QQ () rfl (.tmp rfl .nil) (congrArg (fun n:Nat=>Value.int .i64 (n:Int)) (by have h0:i.y=0:=(by simp at hc;omega);rw [← i.h,h0,Nat.gcd_zero_right])) (fun _ _=>trivial)
def NU (n least:Nat):List UInt8:=VM least (hd n)
theorem Az {n:Nat} (h:0<n):hd n=hd (n / 10)++[UInt8.ofNat (48+n%10)]:=by
 unfold hd
 rw [if_neg (by omega)]
 by_cases h0:n / 10=0
 ·rw [if_pos h0,Lib.decDigits,dif_pos (by omega),Nat.mod_eq_of_lt (by omega)];rfl
 ·rw [if_neg h0,Lib.decDigits.eq_1 n,dif_neg (by omega)]
theorem OP {n:Nat} (h:n≤9223372036854775807):(hd n).length≤20:=by
 unfold hd;split
 ·simp
 ·rw [Lib.decDigits_length];exact ZU (by omega) (by decide)
structure O5 (n least:Nat) where
 m:Nat
 t:List UInt8
 le:m≤n
 h:VM (least - t.length) (hd m)++t=NU n least
 tl:t.length+(hd m).length≤least+20
theorem Oa {n:Nat} {least:Nat} {t:List UInt8} (h:0<n∨t.length<least):VM (least - (UInt8.ofNat (48+n%10)::t).length) (hd (n / 10))++(UInt8.ofNat (48+n%10)::t)=VM (least - t.length) (hd n)++t:=by
 rcases Nat.eq_zero_or_pos n with h0 | h0
 ·subst h0
  have hlt:t.length<least:=by omega
  have e:least - t.length=(least - (t.length+1))+1:=by omega
  simp only [hd,VM,List.length_cons,if_true,List.length_nil,Nat.sub_zero,List.append_nil,Nat.zero_div,Nat.zero_mod]
  rw [e,KA,KA,List.replicate_succ',List.append_assoc]
  rfl
 ·rw [Az h0]
  unfold VM
  simp only [List.length_append,List.length_cons,List.length_nil]
  rw [show least - (t.length+1) - (hd (n / 10)).length=least - t.length - ((hd (n / 10)).length+(0+1)) by omega]
  simp
def O5.next {n least:Nat} (i:O5 n least) (h:0<i.m∨i.t.length<least):O5 n least :=
 ⟨i.m / 10,UInt8.ofNat (48+i.m%10)::i.t,by have:=i.le;omega,by rw [Oa h];exact i.h,by
  have:=i.tl
  rcases Nat.eq_zero_or_pos i.m with h0 | h0
  ·have e:hd (i.m / 10)=[]:=by rw [h0];rfl
   rw [e]
   have e2:hd i.m=[]:=by rw [h0];rfl
   rw [e2] at this
   simp at this ⊢;omega
  ·have e:=congrArg List.length (Az h0)
   simp at e ⊢;omega⟩
end
section
open Go.RowKit Ig
section
variable {P:Program} {N:Nat} {m:Sl} {Y:World→Prop} {ty:TypeId}
theorem Nz (a:Addr):a.add 0=a:=by simp [Addr.add]
theorem LV {T e:TypeId} {x:Operand} {hi:Option Operand} {vh:Option Value} {q:Option Addr} {n c sz:Nat} {g:Bool} (h:Nat) (hx:ev m x=some (.slice q n c)) (eh:U2 m hi=some vh) (hh:vh=some (.int .i64 (h:Int))) (hT:Hp P T=some e) (hs:Z9 P e=some (g,sz)) (hc:h≤c) :
  Qt P N m Y (.slice T x none hi none) ty (.slice q h c):=fun a w _ _ _ _ ha _=>by
 subst hh
 have e1:q.map (fun a=>a.add 0)=q:=by cases q<;>simp [Nz]
 have hrun:(Instr.slice T (.slice q n c) none (some (.int .i64 (h:Int))) none).run P w = .ok (.slice q h c) w:=by
  simp [Instr.slice,run_underlying (Q6 hT),Instr.sliceBounds,Instr.sliceBound,asIntOf,hc,YA hs,e1]
 simp [execOp,ha.ev hx,ha.U2 eh,Instr.sliceAt,run_underlying (Q6 hT),hrun]
end
def JP (F:Gs) (r:Sr) (l:List Int):Prop:=Q9 F r.q r.n 1 (l.map Qx)∧l.length=r.n∧r.n≤r.cap
theorem JP.le {F F':Gs} {r:Sr} {l:List Int} (h:JP F r l) (k:Gs.le F F'):JP F' r l:=⟨h.1.le k,h.2⟩
theorem Q9.take {F:Gs} {q:Option Addr} {n k:Nat} {l:List Int} (h:Q9 F q n 1 (l.map Qx)) (hl:l.length=n) (hk:k≤n):Q9 F q k 1 ((l.take k).map Qx):=by
 refine⟨by simp;omega,fun h0=>?_⟩
 obtain ⟨b,off,arr,T,e1,e2,e3⟩:=h.2 (by omega)
 refine⟨b,off,arr,T,e1,e2,fun j u hu=>e3 j u ?_⟩
 rw [List.map_take] at hu
 have hj:j<k:=by
  rcases Nat.lt_or_ge j k with g | g
  ·exact g
  ·rw [List.getElem?_eq_none (by simp;omega)] at hu;cases hu
 rw [List.getElem?_take_of_lt hj] at hu;exact hu
theorem UH {l:List Int} {k:Nat} (hk:k<l.length) (h:Q2 l=Q2 (l.take (k+1))) (h0:l[k]=0):Q2 l=Q2 (l.take k):=by
 rw [h,List.take_succ_eq_append_getElem hk,h0,YF]
theorem UG {l:List Int} {k:Nat} (hk:k<l.length) (h:Q2 l=Q2 (l.take (k+1))) (h0:l[k]≠0):Q2 l=l.take (k+1):=by
 rw [h,List.take_succ_eq_append_getElem hk,Kx _ h0]
structure jx (l:List Int) where
 k:Nat
 le:k≤l.length
 h:Q2 l=Q2 (l.take k)
theorem We {w:World} {F:Gs} {r:Sr} {l:List Int} (hF:Fits F w) (hR:JP F r l) (hl:l.length≤1000000000):QS Tryz.prog 250 [r.v] w F (fun(_:Unit)=>.slice r.q (Q2 l).length r.cap) (fun _ F=>JP F ⟨r.q,(Q2 l).length,r.cap⟩ (Q2 l)):=by
 obtain ⟨q,n,c⟩:=r
 have hn:=hR.2.1
 have hcap:=hR.2.2
 dsimp only at hn hcap
 refine QS.intro (G:=fun F=>JP F ⟨q,n,c⟩ l) Tryz.func250 rfl (by rfl) rfl rfl hF (fun F' hF'=>hR.le hF')<|J_sr<|JS_as rfl<|JS_nt<|QG<|Qa<|XU (ι:=jx l) (fun i=>[(0,.slice q i.k c)]) (fun _=>[]) (fun _ F=>JP F ⟨q,n,c⟩ l) (fun i=>i.k) ⟨n,by omega,by rw [← hn,List.take_length]⟩ ⟨rfl,trivial⟩ subl_r (fun _ h=>h) (fun i=>?_)
 have hle:=i.le
 refine QG<|J_sr<|JS_mv rfl<|QA (Ql rfl Qf)<|QA (QV rfl rfl rfl)<|JS_mv rfl ?_
 refine Qn (t:=6) rfl (fun hb6=>?_) (fun hb6=>?_)
 ·
  have hk0:0<i.k:=by have:=dec_t hb6;omega
  have hk1:i.k - 1<l.length:=by omega
  refine JK _ (fun w F hF h=>h.1.ptr (by dsimp only;omega)) (fun hq=>?_)
  obtain ⟨qb,qo,hq⟩:=hq
  dsimp only at hq
  subst hq
  refine QL rfl rfl<|JS_mv rfl<|QL rfl rfl<|JS_mv rfl<|QL rfl rfl<|QA (Ql rfl Qf)<|QL rfl rfl<|QA (J6 rfl rfl (by omega))<|QL rfl rfl<|QA (Qv (i:=i.k - 1) rfl (congrArg (fun z:Int=>some (Value.int .i64 z)) (by omega)) Qf Qp (by omega))<|QL rfl rfl<|QA (XR (n:=n) (sz:=1) (cs:=l.map Qx) (u:=.int .i64 l[i.k - 1]) rfl Qp (fun F h=>h.1) (by omega) (by simp [hk1,Qx]))<|QL rfl rfl<|QA (QV rfl rfl rfl)<|QA (Qi rfl rfl rfl)<|QE<|QC ?_
  refine QR rfl (fun hc=>?_) (fun hc=>?_)
  ·
   refine QP<|QC<|Qa<|QB<|JS_mv rfl<|JS_mv rfl<|QA (Ql rfl Qf)<|QA (J6 rfl rfl (by omega))<|QA (LV (i.k - 1) rfl rfl (congrArg (fun z:Int=>some (Value.int .i64 z)) (by omega)) Qf Qp (by omega))<|JS_as rfl<|QE<|Qk ?_
   exact Qo (⟨i.k - 1,by omega,UH hk1 (by rw [show i.k - 1+1=i.k by omega];exact i.h) (by simpa using hc)⟩:jx l) (by show i.k - 1<i.k;omega) ⟨rfl,trivial⟩ subl_r (fun _ h=>h)
  ·
   refine Q5 ?_
   repeat (first | refine Qd ?_ | refine QW (by rfl) ?_)
   refine Qe<|QC<|J_sr<|JS_mv rfl<|JS_as rfl<|JS_nt<|QT ?_
   exact QQ () rfl (.tmp rfl .nil) (congrArg (fun k:Nat=>Value.slice _ k c) (by have e:=UG hk1 (by rw [show i.k - 1+1=i.k by omega];exact i.h) (by simpa using hc);rw [show i.k - 1+1=i.k by omega] at e;rw [e];simp;omega)) (fun F h=>by have hz:(Q2 l).length≤l.length:=Xq l;exact⟨(by have:=h.1.take hn (show(Q2 l).length≤n by omega);rw [← G4] at this;exact this),rfl,(by show(Q2 l).length≤c;omega)⟩)
 ·
  refine QO rfl rfl rfl<|QO rfl rfl rfl<|QO rfl rfl rfl<|QO rfl rfl rfl<|QO rfl rfl rfl<|QO rfl rfl rfl<|QO rfl rfl rfl<|QA (Qh rfl rfl rfl)<|JS_nt<|Z8 rfl<|Q5 ?_
  repeat (first | refine Qd ?_ | refine QW (by rfl) ?_)
  refine Qe<|QC<|J_sr<|JS_mv rfl<|JS_as rfl<|JS_nt<|QT ?_
  exact QQ () rfl (.tmp rfl .nil) (congrArg (fun k:Nat=>Value.slice _ k c) (by have h0:i.k=0:=(by have:=dec_f hb6;omega);have e:=i.h;rw [h0] at e;simp [N6] at e;rw [e,h0];rfl)) (fun F h=>by have hz:(Q2 l).length≤l.length:=Xq l;exact⟨(by have:=h.1.take hn (show(Q2 l).length≤n by omega);rw [← G4] at this;exact this),rfl,(by show(Q2 l).length≤c;omega)⟩)
end
section
open Go.RowKit Ig
theorem Q3.fix {w0:World} {F0:Gs} {bs1 ob:List (Nat×Obj)} {G:Gs→Prop} {T:TypeId} {sz n:Nat} {v:Value} {cs:List Value} (hr:Q3 T sz v n cs ob) :
  ∃ r:Sr,v=r.v∧r.n=n∧n≤r.cap∧∀ w,St ⟨w0,F0,bs1++ob,G⟩ w→St ⟨w0,F0,bs1,fun F=>G F∧Q9 F r.q n sz cs⟩ w:=by
 cases hr with
 |nil=>exact⟨⟨Option.none,0,0⟩,rfl,rfl,Nat.le_refl _,fun w hw=>by
   have:=hw.BL (G':=fun F=>G F∧Q9 F Option.none 0 sz []) (fun F h=>⟨h,Q9.nil F Option.none sz⟩)
   simpa using this⟩
 |some h1 h2 h3 h4 =>
  rename_i b cap rest
  refine⟨⟨Option.some ⟨b,0,Option.none⟩,n,cap⟩,rfl,rfl,h3,fun w hw=>?_⟩
  have:=St.freeze (pre:=bs1) (post:=[]) (b:=b) hw
  rw [List.append_nil] at this
  refine this.BL fun F h=>⟨h.1,h1,fun _=>⟨b,0,_,T,rfl,h.2,fun j u hu=>?_⟩⟩
  have hj:j<cs.length:=by rcases Nat.lt_or_ge j cs.length with g | g;exact g;rw [List.getElem?_eq_none g] at hu;cases hu
  rw [Nat.zero_add]
  simp only [List.getElem?_toArray]
  rw [List.getElem?_append,if_pos hj];exact hu
theorem vO {Q:Exit→Act→World→Prop} {e:Exit} {N:Nat} {m:Sl} {E E':Env} (h:∀ w,St E w→St E' w) (k:Fin Q e N m E'):Fin Q e N m E:=fun a w ha hw=>k a w ha (h w hw)
theorem PH {w:World} {F:Gs} {r:Sr} {l:List Int} {i:Nat} (hF:Fits F w) (hR:JP F r l) (hi:i≤1000000000):QZ Tryz.prog 275 [r.v,.int .i64 (i:Int)] w F (.int .i64 (l.getD i 0)):=by
 obtain ⟨q,n,c⟩:=r
 have hn:=hR.2.1
 dsimp only at hn
 refine QS.intro (G:=fun F=>JP F ⟨q,n,c⟩ l) Tryz.func275 rfl (by rfl) rfl rfl hF (fun F' hF'=>hR.le hF') ?_
 dsimp only [Sr.v]
 refine J_sr<|JS_as rfl<|JS_nt<|QG<|J_sr<|JS_mv rfl<|JS_mv rfl<|QA (Ql rfl Qf)<|QA (QV rfl rfl rfl)<|QE<|QC ?_
 refine QR rfl (fun hc=>?_) (fun hc=>?_)
 ·
  have hk1:i<l.length:=by have:=dec_t hc;omega
  refine Xz _ (fun w F hF h=>h.1.ptr (by dsimp only;omega)) (fun hq=>?_)
  obtain ⟨qb,qo,hq⟩:=hq
  dsimp only at hq
  subst hq
  refine J_sr<|JS_mv rfl<|JS_mv rfl<|QA (Qv (i:=i) rfl rfl Qf Qp (by omega))<|QA (XR (n:=n) (sz:=1) (cs:=l.map Qx) (u:=.int .i64 l[i]) rfl Qp (fun F h=>h.1) (by omega) (by simp [hk1,Qx]))<|JS_as rfl<|JS_nt<|QT ?_
  exact QQ () rfl (.tmp rfl .nil) (congrArg (Value.int .i64) (by simp [hk1])) (fun _ _=>trivial)
 ·
  refine QP<|QC<|J_sr<|JS_as rfl<|JS_nt<|QT ?_
  exact QQ () rfl (.tmp rfl .nil) (congrArg (Value.int .i64) (by have:=dec_f hc;simp [show l.length≤i by omega])) (fun _ _=>trivial)
def B9:Int:=1000000000
structure vW (a b:List Int) where
 i:Nat
 out:List Int
 carry:Int
 v:Value
 ob:List (Nat×Obj)
 le:i≤max a.length b.length+1
 len:out.length=i
 dg:DG B9 out
 c0:0≤carry
 c1:carry≤1
 cz:max a.length b.length<i→carry=0
 h:dv B9 out+B9^i*carry=dv B9 (a.take i)+dv B9 (b.take i)
 hr:Q3 3 1 v out.length (out.map Qx) ob
theorem Kg (B:Int) (l:List Int) (n:Nat):dv B (l.take (n+1))=dv B (l.take n)+B^n*l.getD n 0:=by
 rcases Nat.lt_or_ge n l.length with h | h
 ·rw [WJ B l n h];simp [h]
 ·rw [List.take_of_length_le (by omega),List.take_of_length_le h];simp [h]
end
section
open Go.RowKit Ig
theorem Rl {l:List Int} (h:DG B9 l) (i:Nat):0≤l.getD i 0∧l.getD i 0<1000000000:=h.getD (by decide) i
theorem Pk {l:List Int} {i:Nat} (h:l.length≤i):l.getD i 0=0:=by simp [h]
theorem kq {a b out:List Int} {i:Nat} {c s:Int} (hl:out.length=i) (h:dv B9 out+B9^i*c=dv B9 (a.take i)+dv B9 (b.take i)) (hs:s=a.getD i 0+b.getD i 0+c) :
  dv B9 (out++[s%B9])+B9^(i+1)*(s / B9)=dv B9 (a.take (i+1))+dv B9 (b.take (i+1)):=by
 rw [XN,hl,Kg,Kg,Int.pow_succ,Int.mul_assoc]
 have e:s%B9+B9*(s / B9)=s:=Int.emod_add_mul_ediv s B9
 have e2:B9^i*(s%B9)+B9^i*(B9*(s / B9))=B9^i*s:=by rw [← Int.mul_add,e]
 rw [Int.add_assoc,e2,hs,Int.mul_add,Int.mul_add]
 omega
abbrev E7 (P:Program) (f:FuncId) (args:List Value) (w:World) (F:Gs) (p:List Int→Prop):Prop:=QS P f args w F (fun(c:Sr×List Int)=>.slice c.1.q c.1.n c.1.cap) (fun c F=>JP F c.1 c.2∧DG B9 c.2∧p c.2)
theorem EV {w:World} {F:Gs} {ra rb:Sr} {a b:List Int} (hF:Fits F w) (hA:JP F ra a) (hB:JP F rb b) (da:DG B9 a) (db:DG B9 b) (la:a.length≤100000000) (lb:b.length≤100000000) :
  E7 Tryz.prog 237 [ra.v,rb.v] w F (fun l=>dv B9 l=dv B9 a+dv B9 b∧l.length≤max a.length b.length+1):=by
 have na:=hA.2.1
 have nb:=hB.2.1
 have h9:B9=1000000000:=rfl
 refine QS.intro (G:=fun F=>JP F ra a∧JP F rb b) Tryz.func237 rfl (by rfl) rfl rfl hF (fun F' hF'=>⟨hA.le hF',hB.le hF'⟩)<|J_sr<|JS_as rfl<|JS_nt<|J_sr<|JS_as rfl<|JS_nt<|J_sr<|JS_as rfl<|JS_nt<|QG<|J_sr<|JS_as rfl<|JS_nt<|Qa ?_
 refine XU (ι:=vW a b) (fun i=>[(0,ra.v),(1,rb.v),(5,i.v),(6,.int .i64 i.carry),(7,.int .i64 (i.i:Int))]) (fun i=>i.ob) (fun _ F=>JP F ra a∧JP F rb b) (fun i=>max a.length b.length+1 - i.i)
  ⟨0,[],0,.slice none 0 0,[],Nat.zero_le _,rfl,DG.nil _,by decide,by decide,fun _=>rfl,by simp,.nil⟩ ⟨rfl,rfl,rfl,rfl,rfl,trivial⟩ (List.nil_sublist _) (fun _ h=>h) (fun i=>?_)
 have hle:=i.le
 have hlen:=i.len
 have hc0:=i.c0
 have hc1:=i.c1
 refine QG ?_
 refine VG 22 (.bool (decide ((i.i:Int)<ra.n)||decide ((i.i:Int)<rb.n)||decide (i.carry>0))) ?_ ?_
 ·
  refine QB<|JS_mv rfl<|JS_mv rfl<|QA (Ql rfl Qf)<|QA (QV rfl rfl rfl)<|JS_mv rfl ?_
  refine Qn (t:=13) rfl (fun hb13=>?_) (fun hb13=>?_)
  ·
   refine QO rfl rfl rfl<|QO rfl rfl rfl<|QO rfl rfl rfl<|QO rfl rfl rfl<|QA (Qi rfl rfl rfl)<|JS_mv rfl<|QO rfl rfl rfl<|QO rfl rfl rfl<|QA (Qi rfl rfl rfl)<|QE ?_
   exact Jn (exd 15 rfl rfl) (congrArg (fun b=>some (Value.bool b)) (by rw [Bool.eq_iff_iff];simp_all;try omega)) subl_r (fun _ h=>h)
  ·
   refine QL rfl rfl<|JS_mv rfl<|QL rfl rfl<|JS_mv rfl<|QL rfl rfl<|QA (Ql rfl Qf)<|QL rfl rfl<|QA (QV rfl rfl rfl)<|QA (Qh rfl rfl rfl)<|JS_mv rfl ?_
   refine Qn (t:=19) rfl (fun hb19=>?_) (fun hb19=>?_)
   ·
    refine QO rfl rfl rfl<|QO rfl rfl rfl<|QA (Qi rfl rfl rfl)<|QE ?_
    exact Jn (exd 16 rfl rfl) (congrArg (fun b=>some (Value.bool b)) (by rw [Bool.eq_iff_iff];simp_all;try omega)) subl_r (fun _ h=>h)
   ·
    refine QL rfl rfl<|JS_mv rfl<|QL rfl rfl<|QA (QV rfl rfl rfl)<|QA (Qh rfl rfl rfl)<|QE ?_
    exact Jn (exd 16 rfl rfl) (congrArg (fun b=>some (Value.bool b)) (by rw [Bool.eq_iff_iff];simp_all;try omega)) subl_r (fun _ h=>h)
 ·
  refine QR rfl (fun hc=>?_) (fun hc=>?_)
  ·
   have hi:i.i≤max a.length b.length:=by
    rcases Nat.lt_or_ge (max a.length b.length) i.i with g | g
    ·have:=i.cz g
     simp at hc;omega
    ·exact g
   have b1:=Rl da i.i
   have b2:=Rl db i.i
   refine QP<|QC<|QG<|Qa<|J_sr<|JS_mv rfl<|JS_mv rfl<|QI rfl (fun w F hF ⟨hA,hB⟩=>PH (r:=ra) (l:=a) hF hA (by omega)) (fun _=>JS_mv rfl<|JS_mv rfl<|QI rfl (fun w F hF ⟨⟨hA,hB⟩,_⟩=>PH (r:=rb) (l:=b) hF hB (by omega)) (fun _=>QA (Qu rfl rfl (by omega))<|JS_mv rfl<|QA (Qu rfl rfl (by omega))<|JS_as rfl<|JS_nt<|J_sr<|JS_mv rfl<|JS_mv rfl<|QA (Kc rfl rfl (by omega) (by omega))<|QU rfl (Q6 Qf) Qp VQ rfl rfl (fun b37=>?_)))
   refine VI (bs1:=[]) (ob:=i.ob) (k:=1) (sz:=1) (news:=[.int .i64 ((a.getD i.i 0+b.getD i.i 0+i.carry)%1000000000)]) rfl rfl Qf Qp VQ rfl DF i.hr (Src.row (off:=0) (fun F h=>h.2) (fun j v hv=>by rw [Nat.zero_add];show([Value.int .i64 ((a.getD i.i 0+b.getD i.i 0+i.carry)%1000000000)].toArray)[j]?=some v;rw [List.getElem?_toArray];exact hv) rfl) (by omega) (by omega) (fun u hu=>by rw [List.mem_singleton.1 hu];rfl) (fun v' ob' hr'=>?_)
   refine JS_as rfl<|JS_nt<|QB<|JS_mv rfl<|QA (Wb rfl rfl (by omega) (by omega) (by omega))<|JS_as rfl<|QE<|Qk<|QC<|QB<|JS_mv rfl<|QA (Qu rfl rfl (by omega))<|JS_as rfl<|QE ?_
   exact Qo (⟨i.i+1,i.out++[(a.getD i.i 0+b.getD i.i 0+i.carry)%B9],(a.getD i.i 0+b.getD i.i 0+i.carry) / B9,v',ob',by omega,by simp [hlen],i.dg.append (DG.cons (by rw [h9];omega) (by rw [h9];omega) (DG.nil _)),by rw [h9];omega,by rw [h9];omega,fun g=>by rw [Pk (l:=a) (by omega),Pk (l:=b) (by omega),h9];omega,kq hlen i.h rfl,by simpa [Qx,h9] using hr'⟩:vW a b) (by show max a.length b.length+1 - (i.i+1)<max a.length b.length+1 - i.i;omega) ⟨rfl,rfl,rfl,rfl,rfl,trivial⟩ subl_r (fun F h=>h.1.1.1)
  ·
   refine Q5 ?_
   repeat (first | refine Qd ?_ | refine QW (by rfl) ?_)
   refine Qe<|QC<|J_sr<|JS_mv rfl<|JS_as rfl<|JS_nt<|QT ?_
   obtain ⟨r,hv,hrn,hrc,hfix⟩:=Q3.fix (w0:=w) (F0:=F) (bs1:=[]) (G:=fun F=>JP F ra a∧JP F rb b) i.hr
   refine vO hfix ?_
   have hex:max a.length b.length≤i.i∧i.carry=0:=by simp at hc;omega
   exact QQ ((r,i.out):Sr×List Int) rfl (.tmp rfl .nil) hv.symm (fun F h=>⟨⟨by rw [hrn];exact h.2,hrn.symm,by show r.n≤r.cap;omega⟩,i.dg,by have e:=i.h;rw [hex.2,List.take_of_length_le (by omega),List.take_of_length_le (by omega)] at e;simpa using e,by show i.out.length≤_;omega⟩)
end
section
open Go.RowKit Ig
structure vT (a b:List Int) where
 k:Nat
 le:k≤a.length
 h:a.drop k=b.drop k
theorem F8 {a b:List Int} {k:Nat} (ha:k<a.length) (hb:k<b.length) (h:a.drop (k+1)=b.drop (k+1)) (e:a[k]=b[k]):a.drop k=b.drop k:=by
 rw [List.drop_eq_getElem_cons ha,List.drop_eq_getElem_cons hb,h,e]
theorem GK {w:World} {F:Gs} {ra rb:Sr} {a b:List Int} (hF:Fits F w) (hA:JP F ra a) (hB:JP F rb b) (da:DG B9 a) (db:DG B9 b) (za:NZ a) (zb:NZ b) (la:a.length≤100000000) (lb:b.length≤100000000) :
  QZ Tryz.prog 238 [ra.v,rb.v] w F (.int .i64 (ZO (dv B9 a) (dv B9 b))):=by
 have h91:(1:Int)<B9:=by decide
 have h90:(0:Int)<B9:=by decide
 obtain ⟨q,n,c⟩:=ra
 obtain ⟨q',n',c'⟩:=rb
 have na:=hA.2.1
 have nb:=hB.2.1
 dsimp only at na nb
 refine QS.intro (G:=fun F=>JP F ⟨q,n,c⟩ a∧JP F ⟨q',n',c'⟩ b) Tryz.func238 rfl (by rfl) rfl rfl hF (fun F' hF'=>⟨hA.le hF',hB.le hF'⟩) ?_
 dsimp only [Sr.v]
 refine J_sr<|JS_as rfl<|JS_nt<|QG<|J_sr<|JS_mv rfl<|QA (Ql rfl Qf)<|JS_mv rfl<|QA (Ql rfl Qf)<|QA (QV rfl rfl rfl)<|QE<|QC ?_
 refine QR rfl (fun hc=>?_) (fun hc=>?_)
 ·
  refine QG<|J_sr<|JS_mv rfl<|QA (Ql rfl Qf)<|JS_mv rfl<|QA (Ql rfl Qf)<|QA (QV rfl rfl rfl)<|QE<|QC ?_
  refine QR rfl (fun hc=>?_) (fun hc2=>?_)
  ·
   refine J_sr<|JS_as rfl<|JS_nt<|QT ?_
   exact QQ () rfl (.tmp rfl .nil) (congrArg (Value.int .i64) (VX (XT h91 da db zb (by simp at hc;omega)))) (fun _ _=>trivial)
  ·
   refine QP<|QC<|J_sr<|JS_as rfl<|JS_nt<|QT ?_
   exact QQ () rfl (.tmp rfl .nil) (congrArg (Value.int .i64) (GS (XT h91 db da za (by simp at hc hc2;omega)))) (fun _ _=>trivial)
 ·
  refine QP<|QC<|QG<|J_sr<|JS_mv rfl<|QA (Ql rfl Qf)<|QA (J6 rfl rfl (by omega))<|JS_as rfl<|QE<|QC ?_
  have hab:n=n':=by simp at hc;omega
  refine Qa<|XU (ι:=vT a b) (fun i=>[(0,.slice q n c),(1,.slice q' n' c'),(5,.int .i64 ((i.k:Int) - 1))]) (fun _=>[]) (fun _ F=>JP F ⟨q,n,c⟩ a∧JP F ⟨q',n',c'⟩ b) (fun i=>i.k) ⟨n,by omega,by rw [List.drop_eq_nil_of_le (by omega),List.drop_eq_nil_of_le (by omega)]⟩ ⟨rfl,rfl,rfl,trivial⟩ subl_r (fun _ h=>h) (fun i=>?_)
  have hle:=i.le
  refine QG<|J_sr<|JS_mv rfl<|QA (QV rfl rfl rfl)<|QE<|QC ?_
  refine QR rfl (fun hc=>?_) (fun hc=>?_)
  ·
   refine QP<|QC<|QG<|Qa<|QG<|QG ?_
   have hk0:0<i.k:=by have:=dec_t hc;omega
   have hka:i.k - 1<a.length:=by omega
   have hkb:i.k - 1<b.length:=by omega
   refine Xz _ (fun w F hF h=>h.1.1.ptr (by dsimp only;omega)) (fun hq=>?_)
   obtain ⟨qb,qo,hq⟩:=hq
   dsimp only at hq
   subst hq
   refine Xz _ (fun w F hF h=>h.2.1.ptr (by dsimp only;omega)) (fun hq=>?_)
   obtain ⟨qb',qo',hq⟩:=hq
   dsimp only at hq
   subst hq
   refine JN subl_r mixed (by kernel_rfl)<|QK (QD rfl)<|QK (QD rfl)<|QK (Qv (i:=i.k - 1) rfl (congrArg (fun z:Int=>some (Value.int .i64 z)) (by omega)) Qf Qp (by omega))<|QK (XR (n:=n) (sz:=1) (cs:=a.map Qx) (u:=.int .i64 a[i.k - 1]) rfl Qp (fun F h=>h.1.1) (by omega) (by simp [hka,Qx]))<|QK (QD rfl)<|QK (QD rfl)<|QK (Qv (i:=i.k - 1) rfl (congrArg (fun z:Int=>some (Value.int .i64 z)) (by omega)) Qf Qp (by omega))<|QK (XR (n:=n') (sz:=1) (cs:=b.map Qx) (u:=.int .i64 b[i.k - 1]) rfl Qp (fun F h=>h.2.1) (by omega) (by simp [hkb,Qx]))<|QK (QV rfl rfl rfl)<|Q4<|QC ?_
   refine QR rfl (fun hc=>?_) (fun hca=>?_)
   ·
    refine J_sr<|JS_as rfl<|JS_nt<|QT ?_
    repeat (first | refine JJ ?_ | refine JA ?_)
    exact QQ () rfl (.tmp rfl .nil) (congrArg (Value.int .i64) (VX (Rw h90 da db (by omega) (i.k - 1) hka (by rw [show i.k - 1+1=i.k by omega];exact i.h) (dec_t hc)))) (fun _ _=>trivial)
   ·
    refine QP<|QC<|QG<|JN subl_r mixed (by kernel_rfl)<|QK (QD rfl)<|QK (QD rfl)<|QK (Qv (i:=i.k - 1) rfl (congrArg (fun z:Int=>some (Value.int .i64 z)) (by omega)) Qf Qp (by omega))<|QK (XR (n:=n) (sz:=1) (cs:=a.map Qx) (u:=.int .i64 a[i.k - 1]) rfl Qp (fun F h=>h.1.1) (by omega) (by simp [hka,Qx]))<|QK (QD rfl)<|QK (QD rfl)<|QK (Qv (i:=i.k - 1) rfl (congrArg (fun z:Int=>some (Value.int .i64 z)) (by omega)) Qf Qp (by omega))<|QK (XR (n:=n') (sz:=1) (cs:=b.map Qx) (u:=.int .i64 b[i.k - 1]) rfl Qp (fun F h=>h.2.1) (by omega) (by simp [hkb,Qx]))<|QK (QV rfl rfl rfl)<|Q4<|QC ?_
    refine QR rfl (fun hc=>?_) (fun hcb=>?_)
    ·
     refine J_sr<|JS_as rfl<|JS_nt<|QT ?_
     repeat (first | refine JJ ?_ | refine JA ?_)
     exact QQ () rfl (.tmp rfl .nil) (congrArg (Value.int .i64) (GS (Rw h90 db da (by omega) (i.k - 1) hkb (by rw [show i.k - 1+1=i.k by omega];exact i.h.symm) (dec_t hc)))) (fun _ _=>trivial)
    ·
     refine QP<|Qk<|QC<|QB<|JS_mv rfl<|QA (J6 rfl rfl (by omega))<|JS_as rfl<|QE ?_
     exact Qo (⟨i.k - 1,by omega,F8 hka hkb (by rw [show i.k - 1+1=i.k by omega];exact i.h) (by simp at hca hcb;omega)⟩:vT a b) (by show i.k - 1<i.k;omega) ⟨rfl,rfl,congrArg (fun z:Int=>some (Value.int .i64 z)) (by dsimp only;omega),trivial⟩ subl_r (fun _ h=>h)
  ·
   refine Q5 ?_
   repeat (first | refine Qd ?_ | refine QW (by rfl) ?_)
   refine Qe<|QC<|J_sr<|JS_as rfl<|JS_nt<|QT ?_
   exact QQ () rfl (.tmp rfl .nil) (congrArg (Value.int .i64) (by have h0:i.k=0:=(by have:=dec_f hc;omega);have e:=i.h;rw [h0] at e;simp at e;rw [e];exact Ee _)) (fun _ _=>trivial)
end
section
open Go.RowKit Ig
theorem T9 {P:Program} {Q:Exit→Act→World→Prop} {c:Code} {N:Nat} {m:Sl} {E E':Env} (h:∀ w,St E w→St E' w) (k:J P c Q N m E'):J P c Q N m E:=fun a w ha hw=>k a w ha (h w hw)
theorem yo {a b out:List Int} {i:Nat} {c c' d:Int} (hl:out.length=i) (h:dv B9 out+dv B9 (b.take i)=dv B9 (a.take i)+B9^i*c) (hd:d=a.getD i 0 - b.getD i 0 - c+B9*c') :
  dv B9 (out++[d])+dv B9 (b.take (i+1))=dv B9 (a.take (i+1))+B9^(i+1)*c':=by
 rw [XN,hl,Kg,Kg,Int.pow_succ,Int.mul_assoc,hd,Int.mul_add,Int.mul_sub,Int.mul_sub]
 omega
structure gM (a b:List Int) where
 i:Nat
 out:List Int
 borrow:Int
 v:Value
 ob:List (Nat×Obj)
 le:i≤a.length
 len:out.length=i
 dg:DG B9 out
 c0:0≤borrow
 c1:borrow≤1
 h:dv B9 out+dv B9 (b.take i)=dv B9 (a.take i)+B9^i*borrow
 hr:Q3 3 1 v out.length (out.map Qx) ob
end
section
open Go.RowKit Ig
theorem NV.one {l:List Value} {v:Value}:∀ {n:Nat},l[n]?=some v→NV l n [v]:=by
 induction l with
 |nil=>intro n h;simp at h
 |cons x l ih =>
  intro n h
  cases n with
  |zero=>simp at h;subst h;exact .here .nil
  |succ n=>exact .skip (ih (by simpa using h))
theorem Kt.one {l:List Value} {v:Value}:∀ {n:Nat},n<l.length→Kt l n [v] (l.set n v):=by
 induction l with
 |nil=>intro n h;simp at h
 |cons x l ih =>
  intro n h
  cases n with
  |zero=>exact .here .nil
  |succ n=>exact .skip (ih (by simpa using h))
def W5 (la lb:List Int) (i j:Nat) (x:Int) (o:List Int) (c:Int):Prop :=
 o.length=la.length+lb.length∧DG B9 o∧(∀ p,i+lb.length≤p→Qg o p=0)∧(0≤c∧c<B9) ∧
  dv B9 o+B9^(i+j)*c=dv B9 (la.take i)*dv B9 lb+B9^i*(x*dv B9 (lb.take j))
theorem JE:(0:Int)<B9:=by decide
theorem Aq {x y o c:Int} (hx:0≤x∧x<B9) (hy:0≤y∧y<B9) (ho:0≤o∧o<B9) (hc:0≤c∧c<B9):0≤x*y∧x*y≤999999998000000001∧0≤o+x*y+c∧(o+x*y+c) / B9<B9:=by
 have h9:B9=1000000000:=rfl
 have h0:=Int.mul_nonneg hx.1 hy.1
 have h1:x*y≤(B9 - 1)*(B9 - 1):=Int.mul_le_mul (by omega) (by omega) hy.1 (by omega)
 generalize x*y=m at *
 have q:=h9 ▸ hx.2
 generalize hB:B9=B at *
 subst h9
 omega
theorem W5.step {la lb o:List Int} {i j:Nat} {x c s:Int} (h:W5 la lb i j x o c) (hx:0≤x∧x<B9) (hb:DG B9 lb) (hj:j<lb.length) (hi:i<la.length) (hs:s=Qg o (i+j)+x*Qg lb j+c) :
  W5 la lb i (j+1) x (o.set (i+j) (s%B9)) (s / B9):=by
 obtain ⟨h1,h2,h3,h4,h5⟩:=h
 obtain ⟨m0,m1,m2,m3⟩:=Aq hx (hb.Qg JE j) (h2.Qg JE (i+j)) h4
 rw [← hs] at m2 m3
 refine⟨by simpa using h1,h2.set _ (Int.emod_nonneg _ (by decide)) (Int.emod_lt_of_pos _ JE),?_,⟨Int.ediv_nonneg m2 (by decide),m3⟩,?_⟩
 ·intro p hp
  rw [VW (by omega),if_neg (by omega)];exact h3 p hp
 ·rw [Wy B9 (by omega),K9,← Nat.add_assoc,Int.pow_succ]
  have e0:s%B9+B9*(s / B9)=s:=Int.emod_add_mul_ediv s B9
  generalize s%B9=lo at *
  generalize s / B9=hi at *
  have e:B9^(i+j)*(lo+B9*hi)=B9^(i+j)*(Qg o (i+j)+x*Qg lb j+c):=by rw [e0,hs]
  rw [Int.pow_add] at *
  generalize B9^i=u at *
  generalize B9^j=v at *
  generalize B9=B at *
  grind
theorem W5.row {la lb o:List Int} {i:Nat} {x c:Int} (h:W5 la lb i lb.length x o c) (hi:i<la.length) (hx:x=Qg la i) :
  W5 la lb (i+1) 0 0 (o.set (i+lb.length) c) 0:=by
 obtain ⟨h1,h2,h3,h4,h5⟩:=h
 refine⟨by simpa using h1,h2.set _ h4.1 h4.2,?_,⟨Int.le_refl _,JE⟩,?_⟩
 ·intro p hp
  rw [VW (by omega),if_neg (by omega)];exact h3 p (by omega)
 ·rw [Wy B9 (by omega),h3 _ (Nat.le_refl _),K9,← hx]
  rw [List.take_length] at h5
  simp only [Int.mul_zero,Int.add_zero,Int.zero_mul,Int.sub_zero]
  rw [h5]
  generalize B9^i=u at *
  generalize B9=B at *
  grind
theorem W5.start (la lb:List Int):W5 la lb 0 0 0 (List.replicate (la.length+lb.length) 0) 0:=by
 refine⟨by simp,DG.replicate JE _,?_,⟨Int.le_refl _,JE⟩,by rw [M8];simp⟩
 intro p _;unfold Qg;split<;>simp
theorem W5.next {la lb o:List Int} {i:Nat} (h:W5 la lb i 0 0 o 0) (x:Int):W5 la lb i 0 x o 0:=by
 obtain ⟨h1,h2,h3,h4,h5⟩:=h
 exact⟨h1,h2,h3,h4,by simpa using h5⟩
theorem W5.stop {la lb o:List Int} {i:Nat} (h:W5 la lb i 0 0 o 0) (hi:la.length≤i):dv B9 o=dv B9 la*dv B9 lb:=by
 have e:=h.2.2.2.2
 rw [List.take_of_length_le hi] at e
 simpa using e
end
section
open Go.RowKit Ig
theorem DE {o:List Int} {k:Nat} (h:k<o.length):(o.map Qx)[0+k*1]?=some (.int .i64 (Qg o k)):=by
 rw [ZJ h];simp [h,Qx]
theorem JO {o:List Int} {k:Nat} (h:k<o.length):(o.map Qx)[k*1]?=some (.int .i64 (Qg o k)):=by
 rw [ZJ h];simp [h,Qx]
theorem GM {o:List Int} {k:Nat} (h:k<o.length) (x:Int):Kt (o.map Qx) (0+k*1) [.int .i64 x] ((o.set k x).map Qx):=by
 have:=Kt.one (l:=o.map Qx) (n:=0+k*1) (v:=.int .i64 x) (by simpa using h)
 simpa [List.map_set,Qx] using this
structure vD (a b:List Int) where
 i:Nat
 o:List Int
 le:i≤a.length
 h:W5 a b i 0 0 o 0
structure vC (a b:List Int) (i:Nat) where
 j:Nat
 o:List Int
 c:Int
 le:j≤b.length
 h:W5 a b i j (Qg a i) o c
theorem GI {w:World} {F:Gs} {ra rb:Sr} {a b:List Int} (hF:Fits F w) (hA:JP F ra a) (hB:JP F rb b) (da:DG B9 a) (db:DG B9 b) (la:a.length≤100000000) (lb:b.length≤100000000) :
  E7 Tryz.prog 240 [ra.v,rb.v] w F (fun l=>dv B9 l=dv B9 a*dv B9 b∧NZ l∧l.length≤a.length+b.length):=by
 obtain ⟨q,n,c⟩:=ra
 obtain ⟨q',n',c'⟩:=rb
 have na:=hA.2.1
 have nb:=hB.2.1
 dsimp only at na nb
 have h9:B9=1000000000:=rfl
 refine QS.intro (G:=fun F=>JP F ⟨q,n,c⟩ a∧JP F ⟨q',n',c'⟩ b) Tryz.func240 rfl (by rfl) rfl rfl hF (fun F' hF'=>⟨hA.le hF',hB.le hF'⟩) ?_
 dsimp only [Sr.v]
 refine J_sr<|JS_as rfl<|JS_nt<|J_sr<|JS_mv rfl<|QA (Ql rfl Qf)<|JS_mv rfl<|QA (Ql rfl Qf)<|QA (Qu rfl rfl (by omega))<|R9 (n:=n+n') (bytes:=8) rfl rfl Qf Qp VQ rfl DF (by omega) (by omega) (fun bk=>?_)
 rw [show ZS [Value.int .i64 0] (n+n')=(List.replicate (a.length+b.length) (0:Int)).map Qx by rw [Kv,na,nb];simp [Qx]]
 refine JS_as rfl<|JS_nt<|QG<|J_sr<|JS_as rfl<|JS_nt<|Qa ?_
 refine XU (ι:=vD a b) (fun i=>[(0,.slice q n c),(1,.slice q' n' c'),(5,.slice (some ⟨bk,0,none⟩) (n+n') (n+n')),(6,.int .i64 (i.i:Int))]) (fun i=>[(bk,.cells (i.o.map Qx).toArray 3 (0,0))]) (fun _ F=>JP F ⟨q,n,c⟩ a∧JP F ⟨q',n',c'⟩ b) (fun i=>a.length - i.i)
  ⟨0,_,Nat.zero_le _,W5.start a b⟩ ⟨rfl,rfl,rfl,rfl,trivial⟩ subl_r (fun _ h=>h) (fun i=>?_)
 have hile:=i.le
 refine QG<|J_sr<|JS_mv rfl<|JS_mv rfl<|QA (Ql rfl Qf)<|QA (QV rfl rfl rfl)<|QE<|QC ?_
 refine QR rfl (fun hc=>?_) (fun hc=>?_)
 ·
  have hi:i.i<n:=by have:=dec_t hc;omega
  have hia:i.i<a.length:=by omega
  refine Xz _ (fun w F hF h=>h.1.1.ptr (by dsimp only;omega)) (fun hq=>?_)
  obtain ⟨qb,qo,hq⟩:=hq
  dsimp only at hq
  subst hq
  refine QP<|QC<|QG<|Qa<|J_sr<|JS_as rfl<|JS_nt<|QG<|J_sr<|JS_as rfl<|JS_nt<|Qa ?_
  refine XU (ι:=vC a b i.i) (fun i2=>[(0,.slice (some ⟨qb,qo,none⟩) n c),(1,.slice q' n' c'),(5,.slice (some ⟨bk,0,none⟩) (n+n') (n+n')),(6,.int .i64 (i.i:Int)),(7,.int .i64 i2.c),(8,.int .i64 (i2.j:Int))]) (fun i2=>[(bk,.cells (i2.o.map Qx).toArray 3 (0,0))]) (fun _ F=>JP F ⟨some ⟨qb,qo,none⟩,n,c⟩ a∧JP F ⟨q',n',c'⟩ b) (fun i2=>b.length - i2.j)
   ⟨0,i.o,0,Nat.zero_le _,i.h.next _⟩ ⟨rfl,rfl,rfl,rfl,rfl,rfl,trivial⟩ subl_r (fun _ h=>h) (fun i2=>?_)
  have hjle:=i2.le
  have hol:i2.o.length=a.length+b.length:=i2.h.1
  have hcc:=i2.h.2.2.2.1
  refine QG<|J_sr<|JS_mv rfl<|JS_mv rfl<|QA (Ql rfl Qf)<|QA (QV rfl rfl rfl)<|QE<|QC ?_
  refine QR rfl (fun hc=>?_) (fun hc=>?_)
  ·
   have hj:i2.j<n':=by have:=dec_t hc;omega
   have hjb:i2.j<b.length:=by omega
   have hko:i.i+i2.j<i2.o.length:=by omega
   have bx:=da.Qg JE i.i
   have by':=db.Qg JE i2.j
   have bo:=i2.h.2.1.Qg JE (i.i+i2.j)
   have bd:=Aq bx by' bo hcc
   have hst:=i2.h.step bx db hjb hia rfl
   refine Xz _ (fun w F hF h=>h.2.1.ptr (by dsimp only;omega)) (fun hq=>?_)
   obtain ⟨qb',qo',hq⟩:=hq
   dsimp only at hq
   subst hq
   refine QP<|QC<|QG<|Qa<|QG<|JN subl_r mixed (by kernel_rfl)<|QK (QD rfl)<|QK (QD rfl)<|QK (QD rfl)<|QK (Qu rfl rfl (by omega))<|QK (Qv (i:=i.i+i2.j) rfl rfl Qf Qp (by omega))<|QK (YG (c:=i2.o.map Qx) (T':=3) rfl Qp .here (DE hko))<|QK (QD rfl)<|QK (QD rfl)<|QK (Qv (i:=i.i) rfl rfl Qf Qp (by omega))<|QK (XR (n:=n) (sz:=1) (cs:=a.map Qx) rfl Qp (fun F h=>h.1.1) (by omega) (JO hia))<|QK (QD rfl)<|QK (QD rfl)<|QK (Qv (i:=i2.j) rfl rfl Qf Qp (by omega))<|QK (XR (n:=n') (sz:=1) (cs:=b.map Qx) rfl Qp (fun F h=>h.2.1) (by omega) (JO hjb))<|QK (Ga rfl rfl (by omega))<|QK (Qu rfl rfl (by omega))<|QK (QD rfl)<|QK (Qu rfl rfl (by omega))<|QK (QF rfl) ?_
   refine Q4<|QC<|J_sr<|JS_mv rfl<|JS_mv rfl<|JS_mv rfl<|QA (Qu rfl rfl (by omega))<|JS_mv rfl<|QA (Kc rfl rfl (by omega) (by omega))<|QA (Qv (i:=i.i+i2.j) rfl rfl Qf Qp (by omega))<|QN (vs:=[_]) rfl rfl rfl Qp rfl .here (GM hko _) ⟨rfl,trivial⟩<|JS_nt<|QB<|JS_mv rfl<|QA (Wb rfl rfl (by omega) (by omega) (by omega))<|JS_as rfl<|QE<|Qk<|QC<|QB<|JS_mv rfl<|QA (Qu rfl rfl (by omega))<|JS_as rfl ?_
   refine QE ?_
   exact Qo (⟨i2.j+1,i2.o.set (i.i+i2.j) _,_,by omega,hst⟩:vC a b i.i) (by show b.length - (i2.j+1)<b.length - i2.j;omega) ⟨rfl,rfl,rfl,rfl,rfl,rfl,trivial⟩ subl_r (fun _ h=>h)
  ·
   have hjn:i2.j=b.length:=by have:=dec_f hc;omega
   have hko2:i.i+n'<i2.o.length:=by omega
   have hrow:W5 a b (i.i+1) 0 0 (i2.o.set (i.i+n') i2.c) 0:=by
    have e:=i2.h
    rw [hjn] at e
    have:=e.row hia rfl
    rwa [nb] at this
   have hz:Qg i2.o (i.i+n')=0:=i2.h.2.2.1 _ (by omega)
   refine Q5 ?_
   repeat (first | refine Qd ?_ | refine QW (by rfl) ?_)
   refine Qe<|QC<|QB<|JS_mv rfl<|JS_mv rfl<|JS_mv rfl<|QA (Ql rfl Qf)<|QA (Qu rfl rfl (by omega))<|JS_mv rfl<|JS_mv rfl<|JS_mv rfl<|QA (Ql rfl Qf)<|QA (Qu rfl rfl (by omega))<|QA (Qv (i:=i.i+n') rfl rfl Qf Qp (by omega))<|QA (YG (c:=i2.o.map Qx) (T':=3) rfl Qp .here (DE hko2))<|JS_mv rfl<|QA (Qu rfl rfl (by omega))<|QA (Qv (i:=i.i+n') rfl rfl Qf Qp (by omega))<|QN (vs:=[_]) rfl rfl rfl Qp rfl .here (GM hko2 _) ⟨rfl,trivial⟩<|QE<|Qk<|QC<|QB<|JS_mv rfl<|QA (Qu rfl rfl (by omega)) ?_
   refine JS_as rfl<|QE ?_
   exact Qo (⟨i.i+1,i2.o.set (i.i+n') i2.c,by omega,hrow⟩:vD a b) (by show a.length - (i.i+1)<a.length - i.i;omega) ⟨rfl,rfl,rfl,rfl,trivial⟩ (by rw [hz,Int.zero_add];exact List.Sublist.refl _) (fun _ h=>h)
 ·
  refine Q5 ?_
  repeat (first | refine Qd ?_ | refine QW (by rfl) ?_)
  refine Qe<|QC<|QG ?_
  have hex:a.length≤i.i:=by have:=dec_f hc;omega
  have hol:i.o.length=a.length+b.length:=i.h.1
  have hr:Q3 3 1 (.slice (some ⟨bk,0,none⟩) (n+n') (n+n')) (n+n') (i.o.map Qx) [(bk,.cells (i.o.map Qx).toArray 3 (0,0))]:=by
   have:=Q3.some (T:=3) (sz:=1) (b:=bk) (n:=n+n') (cap:=n+n') (l:=i.o.map Qx) (rest:=[]) (by simp;omega) (by simp;omega) (Nat.le_refl _) (Nat.le_trans (show n+n'≤200000000 by omega) (by decide))
   simpa using this
  obtain ⟨r,hv,hrn,hrc,hfix⟩:=Q3.fix (w0:=w) (F0:=F) (bs1:=[]) (G:=fun F=>JP F ⟨q,n,c⟩ a∧JP F ⟨q',n',c'⟩ b) hr
  have hlz:=Xq i.o
  refine T9 hfix ?_
  rw [hv]
  refine QB<|JS_mv rfl<|QI rfl (fun w F hF ⟨⟨hA,hB⟩,hX⟩=>We (r:=r) (l:=i.o) hF ⟨by rw [hrn];exact hX,by rw [hrn];omega,by omega⟩ (by omega)) (fun c71=>JS_as rfl<|JS_nt<|QT ?_)
  exact QQ ((⟨r.q,(Q2 i.o).length,r.cap⟩,Q2 i.o):Sr×List Int) rfl (.tmp rfl .nil) rfl (fun F h=>⟨h.2,i.h.2.1.Q2,by show dv B9 (Q2 i.o)=_;rw [J7];exact i.h.stop hex,Xa _,by show(Q2 i.o).length≤_;omega⟩)
end
section
open Go.RowKit Ig
structure vQ (a:List Int) (d:Int) where
 k:Nat
 o:List Int
 r:Int
 le:k≤a.length
 len:o.length=a.length
 dg:DG B9 o
 r0:0≤r
 r1:r<d
 h:dv B9 (a.drop k)=d*dv B9 (o.drop k)+r
theorem set_drop {o:List Int} {p:Nat} (h:p<o.length) (v:Int):(o.set p v).drop p=v::o.drop (p+1):=by
 rw [List.drop_eq_getElem_cons (by simpa using h)]
 congr 1
 ·simp
 ·rw [List.drop_set_of_lt (by omega)]
theorem qQ {r d x:Int} (r0:0≤r) (r1:r<d) (hd:d<B9) (hx:0≤x∧x<B9):0≤r*B9+x∧0≤(r*B9+x) / d∧(r*B9+x) / d<B9∧0≤(r*B9+x)%d∧(r*B9+x)%d<d:=by
 have h0:0≤r*B9:=Int.mul_nonneg r0 (by decide)
 refine⟨by omega,Int.ediv_nonneg (by omega) (by omega),Int.ediv_lt_of_lt_mul (by omega) ?_,Int.emod_nonneg _ (by omega),Int.emod_lt_of_pos _ (by omega)⟩
 have h1:(r+1)*B9≤d*B9:=Int.mul_le_mul_of_nonneg_right (by omega) (by decide)
 rw [Int.add_mul,Int.one_mul] at h1
 rw [Int.mul_comm B9 d]
 omega
theorem xx {a o:List Int} {d r s:Int} {p:Nat} (hp:p<a.length) (ho:p<o.length) (h:dv B9 (a.drop (p+1))=d*dv B9 (o.drop (p+1))+r) (hs:s=r*B9+Qg a p) :
  dv B9 (a.drop p)=d*dv B9 ((o.set p (s / d)).drop p)+s%d:=by
 rw [set_drop ho,List.drop_eq_getElem_cons hp,← ZJ hp]
 simp only [dv]
 rw [h]
 have e:s%d+d*(s / d)=s:=Int.emod_add_mul_ediv s d
 generalize s / d=u at *
 generalize s%d=v at *
 generalize B9=B at *
 grind
end
section
open Go.RowKit Ig
theorem Di {w:World} {F:Gs} {ra:Sr} {a:List Int} {d:Int} (hF:Fits F w) (hA:JP F ra a) (da:DG B9 a) (la:a.length≤100000000) (d0:0<d) (d1:d<B9) :
  QS Tryz.prog 249 [ra.v,.int .i64 d] w F (fun(c:(Sr×List Int)×Int)=>.tuple [.slice c.1.1.q c.1.1.n c.1.1.cap,.int .i64 c.2].toArray) (fun c F=>JP F c.1.1 c.1.2∧DG B9 c.1.2∧NZ c.1.2∧0≤c.2∧c.2<d∧dv B9 a=d*dv B9 c.1.2+c.2∧c.1.2.length≤a.length):=by
 obtain ⟨q,n,c⟩:=ra
 have na:=hA.2.1
 dsimp only at na
 have h9:B9=1000000000:=rfl
 refine QS.intro (G:=fun F=>JP F ⟨q,n,c⟩ a) Tryz.func249 rfl (by rfl) rfl rfl hF (fun F' hF'=>hA.le hF') ?_
 dsimp only [Sr.v]
 refine J_sr<|JS_as rfl<|JS_as rfl<|JS_nt<|J_sr<|JS_mv rfl<|QA (Ql rfl Qf)<|R9 (n:=n) (bytes:=8) rfl rfl Qf Qp VQ rfl DF (by omega) (by omega) (fun bk=>?_)
 rw [show ZS [Value.int .i64 0] n=(List.replicate a.length (0:Int)).map Qx by rw [Kv,na];simp [Qx]]
 refine JS_as rfl<|JS_nt<|J_sr<|JS_as rfl<|JS_nt<|QG<|J_sr<|JS_mv rfl<|QA (Ql rfl Qf)<|QA (J6 rfl rfl (by omega))<|JS_as rfl<|JS_nt<|Qa ?_
 refine XU (ι:=vQ a d) (fun i=>[(0,.slice q n c),(1,.int .i64 d),(6,.slice (some ⟨bk,0,none⟩) n n),(7,.int .i64 i.r),(8,.int .i64 ((i.k:Int) - 1))]) (fun i=>[(bk,.cells (i.o.map Qx).toArray 3 (0,0))]) (fun _ F=>JP F ⟨q,n,c⟩ a) (fun i=>i.k)
  ⟨n,List.replicate a.length 0,0,by omega,by simp,DG.replicate JE _,Int.le_refl _,d0,by rw [List.drop_eq_nil_of_le (by omega),List.drop_eq_nil_of_le (by simp;omega)];simp [dv]⟩ ⟨rfl,rfl,rfl,rfl,rfl,trivial⟩ subl_r (fun _ h=>h) (fun i=>?_)
 have hile:=i.le
 have hol:=i.len
 have hr0:=i.r0
 have hr1:=i.r1
 refine QG<|J_sr<|JS_mv rfl<|QA (QV rfl rfl rfl)<|QE<|QC ?_
 refine QR rfl (fun hc=>?_) (fun hc=>?_)
 ·
  have hk0:0<i.k:=by have:=dec_t hc;omega
  have hka:i.k - 1<a.length:=by omega
  have hko:i.k - 1<i.o.length:=by omega
  have bx:=da.Qg JE (i.k - 1)
  have bd:=qQ hr0 hr1 d1 bx
  rw [h9] at bd
  have hst:=xx (d:=d) (r:=i.r) (s:=i.r*1000000000+Qg a (i.k - 1)) hka hko (by rw [show i.k - 1+1=i.k by omega];exact i.h) rfl
  refine Xz _ (fun w F hF h=>h.1.ptr (by dsimp only;omega)) (fun hq=>?_)
  obtain ⟨qb,qo,hq⟩:=hq
  dsimp only at hq
  subst hq
  refine QP<|QC<|QG<|Qa<|J_sr<|JS_mv rfl<|QA (Ga rfl rfl (by omega))<|JS_mv rfl<|JS_mv rfl<|QA (Qv (i:=i.k - 1) rfl (congrArg (fun z:Int=>some (Value.int .i64 z)) (by omega)) Qf Qp (by omega))<|QA (XR (n:=n) (sz:=1) (cs:=a.map Qx) rfl Qp (fun F h=>h.1) (by omega) (JO hka))<|QA (Qu rfl rfl (by omega))<|JS_as rfl<|JS_nt<|J_sr<|JS_mv rfl<|JS_mv rfl<|JS_mv rfl<|JS_mv rfl<|QA (Wb rfl rfl (by omega) (by omega) (by omega))<|QA (Qv (i:=i.k - 1) rfl (congrArg (fun z:Int=>some (Value.int .i64 z)) (by omega)) Qf Qp (by omega))<|QN (vs:=[_]) rfl rfl rfl Qp rfl .here (GM hko _) ⟨rfl,trivial⟩ ?_
  refine JS_nt<|QB<|JS_mv rfl<|JS_mv rfl<|QA (Kc rfl rfl (by omega) (by omega))<|JS_as rfl<|QE<|Qk<|QC<|QB<|JS_mv rfl<|QA (J6 rfl rfl (by omega))<|JS_as rfl<|QE ?_
  exact Qo (⟨i.k - 1,i.o.set (i.k - 1) ((i.r*1000000000+Qg a (i.k - 1)) / d),(i.r*1000000000+Qg a (i.k - 1))%d,by omega,by simpa using hol,i.dg.set _ bd.2.1 bd.2.2.1,bd.2.2.2.1,bd.2.2.2.2,hst⟩:vQ a d) (by show i.k - 1<i.k;omega) ⟨rfl,rfl,rfl,rfl,congrArg (fun z:Int=>some (Value.int .i64 z)) (by dsimp only;omega),trivial⟩ subl_r (fun _ h=>h)
 ·
  refine Q5 ?_
  repeat (first | refine Qd ?_ | refine QW (by rfl) ?_)
  refine Qe<|QC<|QG ?_
  have hex:i.k=0:=by have:=dec_f hc;omega
  have hr:Q3 3 1 (.slice (some ⟨bk,0,none⟩) n n) n (i.o.map Qx) [(bk,.cells (i.o.map Qx).toArray 3 (0,0))]:=by
   have:=Q3.some (T:=3) (sz:=1) (b:=bk) (n:=n) (cap:=n) (l:=i.o.map Qx) (rest:=[]) (by simp;omega) (by simp;omega) (Nat.le_refl _) (Nat.le_trans (show n≤200000000 by omega) (by decide))
   simpa using this
  obtain ⟨r,hv,hrn,hrc,hfix⟩:=Q3.fix (w0:=w) (F0:=F) (bs1:=[]) (G:=fun F=>JP F ⟨q,n,c⟩ a) hr
  have hlz:=Xq i.o
  have hfin:=i.h
  rw [hex,List.drop_zero,List.drop_zero] at hfin
  refine T9 hfix ?_
  rw [hv]
  refine QB<|JS_mv rfl<|QI rfl (fun w F hF ⟨hA,hX⟩=>We (r:=r) (l:=i.o) hF ⟨by rw [hrn];exact hX,by rw [hrn];omega,by omega⟩ (by omega)) (fun c37=>JS_mv rfl<|JS_as rfl<|JS_as rfl<|JS_nt<|QT ?_)
  exact JY (((⟨r.q,(Q2 i.o).length,r.cap⟩,Q2 i.o),i.r):(Sr×List Int)×Int) rfl (.tmp rfl (.tmp rfl .nil)) rfl (fun F h=>⟨h.2,i.dg.Q2,Xa _,hr0,hr1,by show _=d*dv B9 (Q2 i.o)+i.r;rw [J7];exact hfin,by show(Q2 i.o).length≤_;omega⟩)
end
section
open Go.RowKit Ig
theorem xt {u v:List Int} {n:Nat} {t r:Int} (h:VF B9 u v n) (t0:0≤t) (e:t*Qg v (n+1)+r=Qg u (n+2)*B9+Qg u (n+1)) (hc:r*B9+Qg u n<t*Qg v n):dv B9 u<t*dv B9 v:=by
 obtain ⟨a1,a2,a3⟩:=Zr (b:=B9) (by decide) h.hu h.lu
 obtain ⟨b1,b2,b3⟩:=Yy (b:=B9) (by decide) h.hv h.lv
 rw [a1,b1]
 refine Mv b2 a3 (pow_pos JE n) t0 ?_
 rw [← e]
 generalize B9=B at *
 grind
theorem kY {u v:List Int} {n:Nat} {t:Int} (h:VF B9 u v n) (ht:B9≤t):dv B9 u<t*dv B9 v:=by
 have h0:=Qs (b:=B9) (by decide) h.hv
 have h1:B9*dv B9 v≤t*dv B9 v:=Int.mul_le_mul_of_nonneg_right ht h0
 have:=h.lt
 omega
theorem qI {u v:List Int} {n:Nat} {t:Int} (h:VF B9 u v n) (t0:0≤t) (ht:Qg u (n+2)*B9+Qg u (n+1)<(t+1)*Qg v (n+1)):dv B9 u<(t+1)*dv B9 v:=by
 obtain ⟨a1,a2,a3⟩:=Zr (b:=B9) (by decide) h.hu h.lu
 obtain ⟨b1,b2,b3⟩:=Yy (b:=B9) (by decide) h.hv h.lv
 rw [a1,b1]
 refine Mv b2 a3 (pow_pos JE n) (by omega) ?_
 have d1:=h.hu.Qg JE n
 have d2:=h.hv.Qg JE n
 have e1:0≤(t+1)*Qg v n:=Int.mul_nonneg (by omega) d2.1
 have e2:(Qg u (n+2)*B9+Qg u (n+1)+1)*B9≤(t+1)*Qg v (n+1)*B9:=Int.mul_le_mul_of_nonneg_right (by omega) (by decide)
 generalize B9=B at *
 generalize Qg u (n+2)=u0 at *
 generalize Qg u (n+1)=u1 at *
 generalize Qg u n=u2 at *
 generalize Qg v (n+1)=v1 at *
 generalize Qg v n=v2 at *
 grind
theorem jn {u v:List Int} {n:Nat} {t r:Int} (h:VF B9 u v n) (t0:0≤t) (t1:t<B9) (e:t*Qg v (n+1)+r=Qg u (n+2)*B9+Qg u (n+1)) (hc:t*Qg v n≤r*B9+Qg u n):(t - 1)*dv B9 v≤dv B9 u:=by
 obtain ⟨a1,a2,a3⟩:=Zr (b:=B9) (by decide) h.hu h.lu
 obtain ⟨b1,b2,b3⟩:=Yy (b:=B9) (by decide) h.hv h.lv
 rw [a1,b1]
 have d2:=h.hv.Qg JE n
 have d3:1*B9≤Qg v (n+1)*B9:=Int.mul_le_mul_of_nonneg_right (by have:=h.nz;omega) (by decide)
 refine TQ (pow_pos JE n) b3 a2 t0 ?_ (by omega) b2
 rw [← e]
 generalize B9=B at *
 grind
end
section
open Go.RowKit Ig
theorem Ze {o:List Int} {rest:List Value} {k:Nat} (h:k<o.length):(o.map Qx++rest)[0+k*1]?=some (.int .i64 (Qg o k)):=by
 rw [List.getElem?_append,if_pos (by simp;omega)];exact DE h
theorem Ca {l vs l' rest:List Value} {n:Nat} (h:Kt l n vs l'):Kt (l++rest) n vs (l'++rest):=by
 induction h with
 |nil=>exact .nil
 |here h ih=>exact .here ih
 |skip h ih=>exact .skip ih
theorem K4 {o:List Int} {rest:List Value} {k:Nat} (h:k<o.length) (x:Int):Kt (o.map Qx++rest) (0+k*1) [.int .i64 x] ((o.set k x).map Qx++rest):=Ca (GM h x)
def FE (u v:List Int) (t:Int):Prop:=0≤t∧t<B9∧(t - 1)*dv B9 v≤dv B9 u∧dv B9 u<(t+1)*dv B9 v
structure dj (u v:List Int) (m:Nat) where
 t:Int
 r:Int
 t0:0≤t
 r0:0≤r
 r1:r<B9
 t2:t≤1000000000000000000
 e:t*Qg v (m+1)+r=Qg u (m+2)*B9+Qg u (m+1)
 h:dv B9 u<(t+1)*dv B9 v
theorem NA {U:List Int} {j m k:Nat} (h:k<m):Qg ((U.drop j).take m) k=Qg U (j+k):=by
 by_cases g:j+k<U.length
 ·rw [ZJ (by simp;omega),ZJ g];simp
 ·rw [Hh (by simp;omega),Hh (by omega)]
theorem A1 {u v:List Int} {n:Nat} {t r:Int} (h:VF B9 u v n) (t0:0≤t) (e:t*Qg v (n+1)+r=Qg u (n+2)*B9+Qg u (n+1)) (hr:B9≤r) (hu:dv B9 u<(t+1)*dv B9 v):FE u v t:=by
 have ht:=h.top (by decide)
 have d0:=h.hu.Qg JE n
 have d1:=h.hu.Qg JE (n+1)
 have d2:=h.hv.Qg JE n
 have hn:=h.nz
 have e1:Qg u (n+2)*B9≤Qg v (n+1)*B9:=Int.mul_le_mul_of_nonneg_right ht (by decide)
 have t1:t<B9:=by
  refine Int.not_le.1 fun hc=>?_
  have e2:B9*Qg v (n+1)≤t*Qg v (n+1):=Int.mul_le_mul_of_nonneg_right hc (by omega)
  rw [Int.mul_comm] at e2
  omega
 refine⟨t0,t1,jn h t0 t1 e ?_,hu⟩
 have e3:t*Qg v n≤B9*B9:=Int.mul_le_mul (by omega) (by omega) d2.1 (by decide)
 have e4:B9*B9≤r*B9:=Int.mul_le_mul_of_nonneg_right hr (by decide)
 omega
theorem Pl {u v:List Int} {t:Int} (hu:DG B9 u) (t0:0≤t) (h:dv B9 u<t*dv B9 v):0≤t - 1:=by
 have:=Qs (b:=B9) (by decide) hu
 rcases Int.lt_or_le 0 t with g | g
 ·omega
 ·have e:t=0:=by omega
  subst e;rw [Int.zero_mul] at h;omega
theorem LO {rest:List Value} {w0:World} {F0:Gs} {G:Gs→Prop} {bs:List (Nat×Obj)} {bu nu cu j m:Nat} {rv:Sr} {U v:List Int} (hU:U.length=nu) (hj:j+m+3≤nu) (hn:nu≤1000000000) (hG:∀ F,G F→JP F rv v) (hS:VF B9 ((U.drop j).take (m+3)) v m) :
  J5 Tryz.prog 251 [.slice (some ⟨bu,0,none⟩) nu cu,rv.v,.int .i64 (j:Int)] ⟨w0,F0,(bu,.cells (U.map Qx++rest).toArray 3 (0,0))::bs,G⟩ (fun t:Int=>.int .i64 t) (fun t=>⟨w0,F0,(bu,.cells (U.map Qx++rest).toArray 3 (0,0))::bs,fun F=>G F∧FE ((U.drop j).take (m+3)) v t⟩):=by
 obtain ⟨q,n,c⟩:=rv
 have hlv:=hS.lv
 have h9:B9=1000000000:=rfl
 have u2:Qg ((U.drop j).take (m+3)) (m+2)=Qg U (j+(m+2)):=NA (by omega)
 have u1:Qg ((U.drop j).take (m+3)) (m+1)=Qg U (j+(m+1)):=NA (by omega)
 have u0:Qg ((U.drop j).take (m+3)) m=Qg U (j+m):=NA (by omega)
 have b2:=hS.hu.Qg JE (m+2)
 have b1:=hS.hu.Qg JE (m+1)
 have b0:=hS.hu.Qg JE m
 have c1:=hS.hv.Qg JE (m+1)
 have c0:=hS.hv.Qg JE m
 have nz:=hS.nz
 refine J5.intro Tryz.func251 rfl rfl rfl rfl ?_
 dsimp only [Sr.v]
 refine Xz _ (fun w F hF h=>(hG F h).2.1) (fun hnv=>?_)
 dsimp only at hnv
 obtain rfl:n=m+2:=by omega
 refine Xz _ (fun w F hF h=>(hG F h).1.ptr (by dsimp only;omega)) (fun hq=>?_)
 obtain ⟨qb,qo,hq⟩:=hq
 dsimp only at hq
 subst hq
 refine J_sr<|JS_as rfl<|JS_nt<|J_sr<|JS_mv rfl<|QA (Ql rfl Qf)<|JS_as rfl<|JS_nt<|QG<|JN subl_r mixed (by kernel_rfl)<|QK (QD rfl)<|QK (QD rfl)<|QK (QD rfl)<|QK (Qu rfl rfl (by omega))<|QK (Qv (i:=j+(m+2)) rfl (congrArg (fun z:Int=>some (Value.int .i64 z)) (by omega)) Qf Qp (by omega))<|QK (YG (v:=.int .i64 (Qg ((U.drop j).take (m+3)) (m+2))) (c:=U.map Qx++rest) (T':=3) rfl Qp .here (by rw [u2];exact Ze (by omega)))<|QK (Ga rfl rfl (by omega))<|QK (QD rfl)<|QK (QD rfl)<|QK (QD rfl)<|QK (Qu rfl rfl (by omega)) ?_
 refine QK (J6 rfl rfl (by omega))<|QK (Qv (i:=j+(m+1)) rfl (congrArg (fun z:Int=>some (Value.int .i64 z)) (by omega)) Qf Qp (by omega))<|QK (YG (v:=.int .i64 (Qg ((U.drop j).take (m+3)) (m+1))) (c:=U.map Qx++rest) (T':=3) rfl Qp .here (by rw [u1];exact Ze (by omega)))<|QK (Qu rfl rfl (by omega))<|QK (QF rfl)<|Q4<|QC<|QG<|JN subl_r mixed (by kernel_rfl)<|QK (QD rfl)<|QK (QD rfl)<|QK (QD rfl)<|QK (J6 rfl rfl (by omega))<|QK (Qv (i:=m+1) rfl (congrArg (fun z:Int=>some (Value.int .i64 z)) (by omega)) Qf Qp (by omega))<|QK (XR (n:=m+2) (sz:=1) (cs:=v.map Qx) rfl Qp (fun F h=>(hG F h).1) (by omega) (JO (show m+1<v.length by omega)))<|QK (Wb rfl rfl (by omega) (by omega) (by omega))<|QK (QD rfl)<|QK (QD rfl)<|QK (QD rfl)<|QK (J6 rfl rfl (by omega))<|QK (Qv (i:=m+1) rfl (congrArg (fun z:Int=>some (Value.int .i64 z)) (by omega)) Qf Qp (by omega))<|QK (XR (n:=m+2) (sz:=1) (cs:=v.map Qx) rfl Qp (fun F h=>(hG F h).1) (by omega) (JO (show m+1<v.length by omega)))<|QK (Kc rfl rfl (by omega) (by omega))<|QK (QF rfl)<|QK (QF rfl) ?_
 refine Q4<|QC<|QG<|Qa ?_
 refine XU (ι:=dj ((U.drop j).take (m+3)) v m) (fun i=>[(0,.slice (some ⟨bu,0,none⟩) nu cu),(1,.slice (some ⟨qb,qo,none⟩) (m+2) c),(2,.int .i64 (j:Int)),(7,.int .i64 ((m+2:Nat):Int)),(9,.int .i64 i.t),(10,.int .i64 i.r)]) (fun _=>(bu,.cells (U.map Qx++rest).toArray 3 (0,0))::bs) (fun _=>G) (fun i=>i.t.toNat)
  ⟨(Qg ((U.drop j).take (m+3)) (m+2)*1000000000+Qg ((U.drop j).take (m+3)) (m+1)) / Qg v (m+1),(Qg ((U.drop j).take (m+3)) (m+2)*1000000000+Qg ((U.drop j).take (m+3)) (m+1))%Qg v (m+1),Int.ediv_nonneg (by omega) (by omega),Int.emod_nonneg _ (by omega),Int.lt_trans (Int.emod_lt_of_pos _ nz) c1.2,Int.le_trans (Int.ediv_le_self (a:=(Qg ((U.drop j).take (m+3)) (m+2)*1000000000+Qg ((U.drop j).take (m+3)) (m+1))) _ (by omega)) (by omega),by rw [Int.mul_comm,Int.add_comm];exact Int.emod_add_mul_ediv _ _,qI hS (Int.ediv_nonneg (by omega) (by omega)) (Int.lt_ediv_add_one_mul_self _ nz)⟩ ⟨rfl,rfl,rfl,rfl,rfl,rfl,trivial⟩ subl_r (fun _ h=>h) (fun i=>?_)
 have t0:=i.t0
 have r0:=i.r0
 have r1:=i.r1
 have t2:=i.t2
 refine QG<|QG<|JN subl_r mixed (by kernel_rfl)<|QK (QD rfl)<|QK (QV rfl rfl rfl)<|QK (QD rfl) ?_
 refine Bl (t:=44) rfl (fun hb44=>?_) (fun hb44=>?_)
 ·
  refine Js rfl rfl rfl<|Js rfl rfl rfl<|Js rfl rfl rfl<|Js rfl rfl rfl<|Js rfl rfl rfl<|Js rfl rfl rfl<|Js rfl rfl rfl<|Js rfl rfl rfl<|Js rfl rfl rfl<|Js rfl rfl rfl<|Js rfl rfl rfl<|Js rfl rfl rfl<|Js rfl rfl rfl<|Js rfl rfl rfl<|Js rfl rfl rfl<|Js rfl rfl rfl<|Js rfl rfl rfl<|Js rfl rfl rfl<|QK (Qi rfl rfl rfl)<|Q4<|QC<|WT rfl ?_
  have hl:dv B9 ((U.drop j).take (m+3))<i.t*dv B9 v:=kY hS (by have:=dec_t hb44;omega)
  refine QP<|QC<|Qa<|J_sr<|JS_mv rfl<|QA (J6 rfl rfl (by omega))<|JS_as rfl<|JS_nt<|J_sr<|JS_mv rfl<|JS_mv rfl<|JS_mv rfl<|QA (J6 rfl rfl (by omega))<|QA (Qv (i:=m+1) rfl (congrArg (fun z:Int=>some (Value.int .i64 z)) (by omega)) Qf Qp (by omega))<|QA (XR (n:=m+2) (sz:=1) (cs:=v.map Qx) rfl Qp (fun F h=>(hG F h).1) (by omega) (JO (show m+1<v.length by omega)))<|QA (Qu rfl rfl (by omega))<|JS_as rfl<|JS_nt<|J_sr<|JS_mv rfl ?_
  refine QA (QV rfl rfl rfl)<|QE<|QC ?_
  refine QR rfl (fun hc=>?_) (fun hc=>?_)
  ·
   refine J_sr<|JS_mv rfl<|JS_as rfl<|JS_nt<|QT ?_
   repeat (first | refine JJ ?_ | refine JA ?_)
   exact Yn (i.t - 1) rfl (.tmp rfl .nil) rfl (fun w h=>h.imp subl_r (fun F h=>⟨h,A1 (r:=i.r+Qg v (m+1)) hS (Pl hS.hu t0 hl) (by rw [Int.sub_mul,Int.one_mul,← i.e];omega) (by have:=dec_t hc;omega) (by rw [Int.sub_add_cancel];exact hl)⟩))
  ·
   refine QP<|Qk ?_
   exact Qo (⟨i.t - 1,i.r+Qg v (m+1),(Pl hS.hu t0 hl),by omega,by have:=dec_f hc;omega,by omega,(by rw [Int.sub_mul,Int.one_mul,← i.e];omega),(by rw [Int.sub_add_cancel];exact hl)⟩:dj ((U.drop j).take (m+3)) v m) (by show(i.t - 1).toNat<i.t.toNat;have:=(Pl hS.hu t0 hl);omega) ⟨rfl,rfl,rfl,rfl,rfl,rfl,trivial⟩ subl_r (fun _ h=>h)
 ·
  have tb:i.t<B9:=by have:=dec_f hb44;omega
  have p0:0≤i.t*Qg v m:=Int.mul_nonneg t0 c0.1
  have p1:i.t*Qg v m≤1000000000*1000000000:=Int.mul_le_mul (by omega) (by omega) c0.1 (by decide)
  refine Jw rfl rfl<|QK (QD rfl)<|Jw rfl rfl<|QK (QD rfl)<|Jw rfl rfl<|QK (QD rfl)<|Jw rfl rfl<|QK (J6 rfl rfl (by omega))<|Jw rfl rfl<|QK (Qv (i:=m) rfl (congrArg (fun z:Int=>some (Value.int .i64 z)) (by omega)) Qf Qp (by omega))<|Jw rfl rfl<|QK (XR (n:=m+2) (sz:=1) (cs:=v.map Qx) rfl Qp (fun F h=>(hG F h).1) (by omega) (JO (show m<v.length by omega)))<|Jw rfl rfl<|QK (Ga rfl rfl (by omega))<|Jw rfl rfl<|QK (QD rfl)<|Jw rfl rfl<|QK (Ga rfl rfl (by omega))<|Jw rfl rfl<|QK (QD rfl)<|Jw rfl rfl<|QK (QD rfl)<|Jw rfl rfl<|QK (QD rfl)<|Jw rfl rfl ?_
  refine QK (Qu rfl rfl (by omega))<|Jw rfl rfl<|QK (J6 rfl rfl (by omega))<|Jw rfl rfl<|QK (Qv (i:=j+m) rfl (congrArg (fun z:Int=>some (Value.int .i64 z)) (by omega)) Qf Qp (by omega))<|Jw rfl rfl<|QK (YG (v:=.int .i64 (Qg ((U.drop j).take (m+3)) (m))) (c:=U.map Qx++rest) (T':=3) rfl Qp .here (by rw [u0];exact Ze (by omega)))<|Jw rfl rfl<|QK (Qu rfl rfl (by omega))<|Jw rfl rfl<|QK (QV rfl rfl rfl)<|QK (Qh rfl rfl rfl)<|Q4<|QC ?_
  refine QR rfl (fun hc=>?_) (fun hc=>?_)
  ·
   have hl:dv B9 ((U.drop j).take (m+3))<i.t*dv B9 v:=xt hS t0 i.e (by have:=dec_t hc;rw [h9];omega)
   refine QP<|QC<|Qa<|J_sr<|JS_mv rfl<|QA (J6 rfl rfl (by omega))<|JS_as rfl<|JS_nt<|J_sr<|JS_mv rfl<|JS_mv rfl<|JS_mv rfl<|QA (J6 rfl rfl (by omega))<|QA (Qv (i:=m+1) rfl (congrArg (fun z:Int=>some (Value.int .i64 z)) (by omega)) Qf Qp (by omega))<|QA (XR (n:=m+2) (sz:=1) (cs:=v.map Qx) rfl Qp (fun F h=>(hG F h).1) (by omega) (JO (show m+1<v.length by omega)))<|QA (Qu rfl rfl (by omega))<|JS_as rfl<|JS_nt<|J_sr<|JS_mv rfl ?_
   refine QA (QV rfl rfl rfl)<|QE<|QC ?_
   refine QR rfl (fun hc=>?_) (fun hc=>?_)
   ·
    refine J_sr<|JS_mv rfl<|JS_as rfl<|JS_nt<|QT ?_
    repeat (first | refine JJ ?_ | refine JA ?_)
    exact Yn (i.t - 1) rfl (.tmp rfl .nil) rfl (fun w h=>h.imp subl_r (fun F h=>⟨h,A1 (r:=i.r+Qg v (m+1)) hS (Pl hS.hu t0 hl) (by rw [Int.sub_mul,Int.one_mul,← i.e];omega) (by have:=dec_t hc;omega) (by rw [Int.sub_add_cancel];exact hl)⟩))
   ·
    refine QP<|Qk ?_
    exact Qo (⟨i.t - 1,i.r+Qg v (m+1),(Pl hS.hu t0 hl),by omega,by have:=dec_f hc;omega,by omega,(by rw [Int.sub_mul,Int.one_mul,← i.e];omega),(by rw [Int.sub_add_cancel];exact hl)⟩:dj ((U.drop j).take (m+3)) v m) (by show(i.t - 1).toNat<i.t.toNat;have:=(Pl hS.hu t0 hl);omega) ⟨rfl,rfl,rfl,rfl,rfl,rfl,trivial⟩ subl_r (fun _ h=>h)
  ·
   refine Q5 ?_
   repeat (first | refine Qd ?_ | refine QW (by rfl) ?_)
   refine Qe<|QC<|J_sr<|JS_mv rfl<|JS_as rfl<|JS_nt<|QT ?_
   exact Yn (i.t) rfl (.tmp rfl .nil) rfl (fun w h=>h.imp subl_r (fun F h=>⟨h,⟨t0,tb,jn hS t0 tb i.e (by have:=dec_f hc;rw [h9];omega),i.h⟩⟩))
end
end Go.Proofs.YtknegjaeoffnbaaGreatDoor
namespace Ig
structure N0 (b:Int) (U v:List Int) (j:Nat) (t:Int) (i:Nat) (U':List Int) (br:Int):Prop where
 len:U'.length=U.length
 dg:DG b U'
 lo:U'.take j=U.take j
 hi:U'.drop (j+i)=U.drop (j+i)
 dM:0≤br
 gK:br≤b
 h:dv b U'+b^j*(t*dv b (v.take i))=dv b U+b^(j+i)*br
theorem N0.start {b:Int} (hb:0≤b) {U v:List Int} (hU:DG b U) (j:Nat) (t:Int):N0 b U v j t 0 U 0 :=
 ⟨rfl,hU,rfl,rfl,Int.le_refl _,hb,by simp⟩
theorem OZ {l:List Int} {p k:Nat}:Qg (l.drop p) k=Qg l (p+k):=by
 by_cases g:p+k<l.length
 ·rw [ZJ (by simp;omega),ZJ g];simp
 ·rw [Hh (by simp;omega),Hh (by omega)]
theorem ZR {l m:List Int} {p q:Nat} (h:l.drop p=m.drop p) (hq:p≤q):Qg l q=Qg m q:=by
 have:=congrArg (fun x=>Qg x (q - p)) h
 simp only [OZ] at this
 rw [show p+(q - p)=q by omega] at this;exact this
theorem CO {b t x br:Int} (hb:1<b) (ht:0≤t∧t<b) (hx:0≤x∧x<b) (h:0≤br∧br≤b):0≤t*x∧t*x≤(b - 1)*(b - 1)∧0≤(t*x+br) / b∧(t*x+br) / b<b:=by
 have h0:=Int.mul_nonneg ht.1 hx.1
 have h1:t*x≤(b - 1)*(b - 1):=Int.mul_le_mul (by omega) (by omega) hx.1 (by omega)
 refine⟨h0,h1,Int.ediv_nonneg (by omega) (by omega),Int.ediv_lt_of_lt_mul (by omega) ?_⟩
 have e:(b - 1)*(b - 1)=b*b - 2*b+1:=by grind
 omega
theorem N0.step {b:Int} {U v U':List Int} {j i:Nat} {t br x br':Int} (h:N0 b U v j t i U' br) (hj:j+i<U.length)
  (hx:0≤x∧x<b) (hbr:br'≤b∧0≤br') (e:x - b*br'=Qg U (j+i) - (t*Qg v i+br)):N0 b U v j t (i+1) (U'.set (j+i) x) br':=by
 obtain ⟨h1,h2,h3,h4,h5,h6,h7⟩:=h
 have hd:Qg U' (j+i)=Qg U (j+i):=ZR h4 (Nat.le_refl _)
 refine⟨by simpa using h1,h2.set _ hx.1 hx.2,?_,?_,hbr.2,hbr.1,?_⟩
 ·rw [List.take_set_of_le (by omega)];exact h3
 ·rw [List.drop_set_of_lt (by omega),← Nat.add_assoc,← List.drop_drop,h4,List.drop_drop]
 ·rw [Wy b (by omega),hd,K9,← Nat.add_assoc,Int.pow_succ]
  have e':b^(j+i)*(x - b*br')=b^(j+i)*(Qg U (j+i) - (t*Qg v i+br)):=by rw [e]
  rw [Int.pow_add] at *
  generalize b^i=p at *
  generalize b^j=q at *
  grind
structure R3 (b:Int) (U v:List Int) (j n:Nat) (t:Int) (U':List Int) (top:Int):Prop where
 len:U'.length=U.length
 dg:DG b (U'.set (j+n) 0)
 lo:U'.take j=U.take j
 hi:U'.drop (j+n+1)=U.drop (j+n+1)
 tp:Qg U' (j+n)=top
 h:dv b U'=dv b U - b^j*(t*dv b v)
theorem N0.stop {b:Int} (hb:1<b) {U v U':List Int} {j n:Nat} {t br:Int} (h:N0 b U v j t n U' br) (hn:v.length=n) (hj:j+n<U.length):R3 b U v j n t (U'.set (j+n) (Qg U (j+n) - br)) (Qg U (j+n) - br):=by
 obtain ⟨h1,h2,h3,h4,h5,h6,h7⟩:=h
 have hd:Qg U' (j+n)=Qg U (j+n):=ZR h4 (Nat.le_refl _)
 refine⟨by simpa using h1,?_,?_,?_,?_,?_⟩
 ·rw [List.set_set];exact h2.set _ (Int.le_refl _) (by omega)
 ·rw [List.take_set_of_le (by omega)];exact h3
 ·rw [List.drop_set_of_lt (by omega),← List.drop_drop,h4,List.drop_drop]
 ·rw [VW (by omega),if_pos rfl]
 ·rw [Wy b (by omega),hd]
  rw [List.take_of_length_le (by omega)] at h7
  generalize b^(j+n)=p at *
  generalize b^j=q at *
  grind
theorem X5 (b:Int) (l:List Int) (j:Nat):dv b l=dv b (l.take j)+b^j*dv b (l.drop j):=by
 by_cases h:j≤l.length
 ·exact KE b l j h
 ·rw [List.take_of_length_le (by omega),List.drop_of_length_le (by omega)];simp
theorem R3.part {b:Int} (hb:0<b) {U v U':List Int} {j n:Nat} {t top:Int} (h:R3 b U v j n t U' top):dv b (U'.drop j)=dv b (U.drop j) - t*dv b v:=by
 have e:=h.h
 rw [X5 b U' j,X5 b U j,h.lo] at e
 have hp:=pow_pos hb j
 have e2:b^j*dv b (U'.drop j)=b^j*(dv b (U.drop j) - t*dv b v):=by
  rw [Int.mul_sub];generalize b^j*dv b (U'.drop j)=x at *;generalize b^j*dv b (U.drop j)=y at *;omega
 exact Int.eq_of_mul_eq_mul_left (by omega) e2
theorem Db {l:List Int} {j n:Nat} (h:j+n<l.length):l.drop j=(l.drop j).take n++Qg l (j+n)::l.drop (j+n+1):=by
 have e:(l.drop j).drop n=Qg l (j+n)::l.drop (j+n+1):=by
  rw [List.drop_drop,J4 h]
 rw [← e,List.take_append_drop]
theorem Fw {b:Int} (hb:1<b) {U:List Int} {k n:Nat} (hU:DG b U) (h:dv b (U.drop k)<b^n):dv b (U.drop (k+n))=0:=by
 have e:=X5 b (U.drop k) n
 rw [List.drop_drop] at e
 have h1:=Qs (b:=b) (by omega) ((hU.drop k).take n)
 have h2:=Qs (b:=b) (by omega) (hU.drop (k+n))
 have hp:=pow_pos (b:=b) (by omega) n
 rcases Int.lt_or_le 0 (dv b (U.drop (k+n))) with g | g
 ·have:b^n*1≤b^n*dv b (U.drop (k+n)):=Int.mul_le_mul_of_nonneg_left (by omega) (by omega)
  rw [Int.mul_one] at this;omega
 ·omega
theorem R3.sign {b:Int} (hb:1<b) {U v U':List Int} {j n:Nat} {t top:Int} (h:R3 b U v j n t U' top) (hz:dv b (U.drop (j+n+1))=0) (hj:j+n<U.length) :
  ∃ lo,0≤lo∧lo<b^n∧dv b (U'.drop j)=lo+b^n*top:=by
 have hlen:=h.len
 have hw:=Db (l:=U') (j:=j) (n:=n) (by omega)
 refine⟨dv b ((U'.drop j).take n),?_,?_,?_⟩
 ·have:DG b ((U'.drop j).take n):=by
   have:=((h.dg.drop j).take n)
   rw [List.drop_set,if_neg (by omega),Nat.add_sub_cancel_left,List.take_set_of_le (Nat.le_refl _)] at this;exact this
  exact Qs (by omega) this
 ·have:DG b ((U'.drop j).take n):=by
   have:=((h.dg.drop j).take n)
   rw [List.drop_set,if_neg (by omega),Nat.add_sub_cancel_left,List.take_set_of_le (Nat.le_refl _)] at this;exact this
  have h2:=Zw (by omega:0<b) this
  rw [show((U'.drop j).take n).length=n by simp;omega] at h2;exact h2
 ·have e:=congrArg (dv b) hw
  rw [ZI,YI,h.hi,hz,h.tp,show((U'.drop j).take n).length=n by simp;omega] at e
  simpa using e
theorem R3.xv {b:Int} (hb:1<b) {U v U':List Int} {j n:Nat} {t top:Int} (h:R3 b U v j n t U' top) (hj:j+n<U.length) (h0:0≤top) (ht:top<b)
  (g:dv b (U.drop j)<(t+1)*dv b v):DG b U'∧dv b (U'.drop j)<dv b v∧dv b U'=dv b U - b^j*(t*dv b v):=by
 have hp:=h.part (by omega)
 refine⟨?_,?_,h.h⟩
 ·have e:U'=(U'.set (j+n) 0).set (j+n) top:=by
   rw [List.set_set]
   have:=h.tp
   rw [ZJ (by rw [h.len];exact hj)] at this
   rw [← this,List.set_getElem_self]
  rw [e];exact h.dg.set _ h0 ht
 ·rw [hp];rw [Int.add_mul,Int.one_mul] at g;omega
structure Bp (b:Int) (U v:List Int) (j n i:Nat) (U':List Int) (c:Int):Prop where
 len:U'.length=U.length
 dg:DG b (U'.set (j+n) 0)
 lo:U'.take j=U.take j
 hi:U'.drop (j+i)=U.drop (j+i)
 c0:0≤c
 c1:c≤1
 h:dv b U'+b^(j+i)*c=dv b U+b^j*dv b (v.take i)
theorem Bp.start {b:Int} {U v:List Int} {j n:Nat} (hU:DG b (U.set (j+n) 0)):Bp b U v j n 0 U 0 :=
 ⟨rfl,hU,rfl,rfl,Int.le_refl _,by omega,by simp⟩
theorem Bp.step {b:Int} {U v U':List Int} {j n i:Nat} {c x c':Int} (h:Bp b U v j n i U' c) (hi:i<n) (hj:j+n<U.length)
  (hx:0≤x∧x<b) (hc:0≤c'∧c'≤1) (e:x+b*c'=Qg U (j+i)+Qg v i+c):Bp b U v j n (i+1) (U'.set (j+i) x) c':=by
 obtain ⟨h1,h2,h3,h4,h5,h6,h7⟩:=h
 have hd:Qg U' (j+i)=Qg U (j+i):=ZR h4 (Nat.le_refl _)
 refine⟨by simpa using h1,?_,?_,?_,hc.1,hc.2,?_⟩
 ·rw [List.set_comm _ _ (by omega)];exact h2.set _ hx.1 hx.2
 ·rw [List.take_set_of_le (by omega)];exact h3
 ·rw [List.drop_set_of_lt (by omega),← Nat.add_assoc,← List.drop_drop,h4,List.drop_drop]
 ·rw [Wy b (by omega),hd,K9,← Nat.add_assoc,Int.pow_succ]
  have e':b^(j+i)*(x+b*c')=b^(j+i)*(Qg U (j+i)+Qg v i+c):=by rw [e]
  rw [Int.pow_add] at *
  generalize b^i=p at *
  generalize b^j=q at *
  grind
theorem Bp.Qg {b:Int} (hb:1<b) {U v U':List Int} {j n i:Nat} {c:Int} (h:Bp b U v j n i U' c) (hi:i<n):0≤Qg U' (j+i)∧Qg U' (j+i)<b:=by
 have:=h.dg.Qg (by omega) (j+i)
 by_cases g:j+n<U'.length
 ·rw [VW g,if_neg (by omega)] at this;exact this
 ·rw [List.set_eq_of_length_le (by omega)] at this;exact this
theorem Bp.xv {b:Int} (hb:1<b) {U v U1 U':List Int} {j n:Nat} {t top c:Int} (h:Bp b U1 v j n n U' c) (hs:R3 b U v j n t U1 top) (hU:DG b U) (hv:DG b v) (hn:v.length=n) (hz:dv b (U.drop (j+n+1))=0) (hj:j+n<U.length) (h0:top<0)
  (g:(t - 1)*dv b v≤dv b (U.drop j)):DG b (U'.set (j+n) (top+c))∧dv b ((U'.set (j+n) (top+c)).drop j)<dv b v∧dv b (U'.set (j+n) (top+c))=dv b U - b^j*((t - 1)*dv b v)∧0≤t - 1∧(U'.set (j+n) (top+c)).length=U.length:=by
 obtain ⟨lo,l0,l1,l2⟩:=hs.sign hb hz hj
 have hp:=hs.part (by omega)
 have hlen:=hs.len
 obtain ⟨a1,a2,a3,a4,a5,a6,a7⟩:=h
 have hd:Ig.Qg U' (j+n)=top:=by rw [ZR a4 (Nat.le_refl _),hs.tp]
 rw [List.take_of_length_le (by omega)] at a7
 have hv0:=Qs (b:=b) (by omega) hv
 have hv1:=Zw (b:=b) (by omega) hv
 rw [hn] at hv1
 have hB:=pow_pos (b:=b) (by omega) n
 have hw:dv b (U'.set (j+n) (top+c))=dv b U - b^j*((t - 1)*dv b v):=by
  rw [Wy b (by omega),hd]
  have e:=hs.h
  generalize b^(j+n)=p at *
  generalize b^j=q at *
  grind
 have hlo:(U'.set (j+n) (top+c)).take j=U.take j:=by
  rw [List.take_set_of_le (by omega),a3,hs.lo]
 have hpart:dv b ((U'.set (j+n) (top+c)).drop j)=dv b (U.drop j) - (t - 1)*dv b v:=by
  have e:=hw
  rw [X5 b _ j,X5 b U j,hlo] at e
  have hq:=pow_pos (b:=b) (by omega) j
  have e2:b^j*dv b ((U'.set (j+n) (top+c)).drop j)=b^j*(dv b (U.drop j) - (t - 1)*dv b v):=by
   rw [Int.mul_sub];generalize b^j*dv b ((U'.set (j+n) (top+c)).drop j)=x at *;generalize b^j*dv b (U.drop j)=y at *;omega
  exact Int.eq_of_mul_eq_mul_left (by omega) e2
 have hneg:dv b (U1.drop j)<0:=by
  rw [l2]
  have:b^n*top≤b^n*(-1):=Int.mul_le_mul_of_nonneg_left (by omega) (by omega)
  omega
 have hlt:dv b ((U'.set (j+n) (top+c)).drop j)<dv b v:=by
  rw [hpart,Int.sub_mul,Int.one_mul];omega
 have hge:0≤dv b ((U'.set (j+n) (top+c)).drop j):=by rw [hpart];omega
 have hsd:dv b ((U'.set (j+n) (top+c)).drop j)=dv b ((U'.drop j).take n)+b^n*(top+c):=by
  have hw2:=congrArg (dv b) (Db (l:=U'.set (j+n) (top+c)) (j:=j) (n:=n) (by simp;omega))
  have e3:(U'.set (j+n) (top+c)).drop (j+n+1)=U'.drop (j+n+1):=List.drop_set_of_lt (by omega)
  rw [ZI,YI,VW (show j+n<U'.length by omega),if_pos rfl,e3] at hw2
  have:dv b (U'.drop (j+n+1))=0:=by
   rw [← List.drop_drop,a4,List.drop_drop,hs.hi];exact hz
  have e2:((U'.set (j+n) (top+c)).drop j).take n=(U'.drop j).take n:=by
   rw [List.drop_set,if_neg (by omega),Nat.add_sub_cancel_left,List.take_set_of_le (Nat.le_refl _)]
  rw [this,e2,show((U'.drop j).take n).length=n by simp;omega] at hw2
  simpa using hw2
 have hdg:DG b ((U'.drop j).take n):=by
  have:=((a2.drop j).take n)
  rw [List.drop_set,if_neg (by omega),Nat.add_sub_cancel_left,List.take_set_of_le (Nat.le_refl _)] at this;exact this
 have d0:=Qs (b:=b) (by omega) hdg
 have d1:=Zw (b:=b) (by omega) hdg
 rw [show((U'.drop j).take n).length=n by simp;omega] at d1
 have ht0:top+c=0:=by
  rw [hsd] at hlt hge
  have q1:¬ 1≤top+c:=fun q=>by
   have:b^n*1≤b^n*(top+c):=Int.mul_le_mul_of_nonneg_left q (by omega)
   omega
  have q2:¬ top+c≤-1:=fun q=>by
   have:b^n*(top+c)≤b^n*(-1):=Int.mul_le_mul_of_nonneg_left q (by omega)
   omega
  omega
 refine⟨?_,hlt,hw,?_,by simp;omega⟩
 ·rw [ht0];exact a2
 ·rcases Int.lt_or_le (t - 1) 0 with q | q
  ·exfalso
   have u0:=Qs (b:=b) (by omega) (hU.drop j)
   have:t*dv b v≤0:=Int.mul_nonpos_of_nonpos_of_nonneg (by omega) hv0
   omega
  ·exact q
end Ig
namespace Go.Proofs.YtknegjaeoffnbaaGreatDoor
section
open Go.RowKit Ig
def el {α:Type} [Inhabited α] (l:List α) (i:Nat):α:=l.getD i default
theorem Za {α:Type} [Inhabited α] {l:List α} {i:Nat} (h:i<l.length):el l i=l[i]:=by simp [el,h]
theorem Jc {α:Type} [Inhabited α] {l:List α} {i:Nat} (h:i<l.length):el l i∈l:=by rw [Za h];exact List.getElem_mem h
theorem XM {α:Type} [Inhabited α] {f:α→List Value} {k:Nat} (hf:∀ x,(f x).length=k) {l:List α} {i j:Nat} {u:Value} (h:i<l.length) (hj:(f (el l i))[j]?=some u):(l.flatMap f)[i*k+j]?=some u:=by
 have hlt:j<k:=by
  rcases Nat.lt_or_ge j k with g | g
  ·exact g
  ·rw [List.getElem?_eq_none (by rw [hf];exact g)] at hj;cases hj
 rw [Rn hf l i j h hlt,← Za h];exact hj
theorem Mr {α:Type} [Inhabited α] {f:α→Value} {l:List α} {i:Nat} (h:i<l.length):(l.map f)[i*1]?=some (f (el l i)):=by
 rw [Nat.mul_one,List.getElem?_map,List.getElem?_eq_getElem h,Za h];rfl
theorem ZD {α:Type} [Inhabited α] {l:List α} {i:Nat} (h:i<l.length):l.take (i+1)=l.take i++[el l i]:=by
 rw [List.take_succ_eq_append_getElem h,Za h]
theorem Ec {α:Type} [Inhabited α] {l:List α} {i:Nat} (h:i<l.length):l.drop i=el l i::l.drop (i+1):=by
 rw [List.drop_eq_getElem_cons h,Za h]
theorem Xp {l:List Int} {i:Nat} (h:i<l.length):Qg l i=el l i:=by rw [ZJ h,Za h]
def xI (q:Option Addr):Nat:=(q.getD ⟨0,0,none⟩).block
def xH (q:Option Addr):Nat:=(q.getD ⟨0,0,none⟩).off
section
variable [Dr] [df:Df] {P:Program} {Q:Exit→Act→World→Prop} {N:Nat} {m:Sl} {E E0:Env} {ops:Array Oper} {l:List Oper} {w0:World} {F0:Gs} {bs:List (Nat×Obj)} {G:Gs→Prop} {ty:TypeId}
theorem Ja {T e:TypeId} {x y:Operand} {q:Option Addr} {n c sz sz':Nat} {g:Bool} {cs:List Value} (i:Nat) (hr:∀ F,G F→Q9 F q n sz' cs) (hx:ev m x=some (.slice q n c)) (hy:ev m y=some (.int .i64 (i:Int))) (hT:Hp P T=some e) (hs:Z9 P e=some (g,sz)) (hi:i<n) :
  Qt P N m (St ⟨w0,F0,bs,G⟩) (.indexAddr T x y) ty (.pointer (some ⟨xI q,xH q+i*sz,none⟩)):=fun a w _ _ _ _ ha hw=>by
 obtain ⟨F,hF⟩:=id hw
 obtain ⟨b,off,rfl⟩:=(hr F hF.hG).ptr (by omega)
 exact Qv hx hy hT hs hi a w _ _ _ _ ha hw
theorem Jk {T:TypeId} {x:Operand} {q:Option Addr} {n sz k:Nat} {cs:List Value} (j:Nat) {u:Value} (hr:∀ F,G F→Q9 F q n sz cs) (hn:0<n) (hx:ev m x=some (.pointer (some ⟨xI q,xH q+j,none⟩))) (ht:Z9 P T=some (false,k)) (hu:cs[j]?=some u) :
  Qt P N m (St ⟨w0,F0,bs,G⟩) (.load T x) ty u:=fun a w _ _ _ _ ha hw=>by
 obtain ⟨F,hF⟩:=id hw
 obtain ⟨b,off,rfl⟩:=(hr F hF.hG).ptr hn
 exact XR hx ht hr hn hu a w _ _ _ _ ha hw
theorem X2 {T:TypeId} {x:Operand} {q:Option Addr} {n sz k:Nat} {cs vs:List Value} (j:Nat) (hr:∀ F,G F→Q9 F q n sz cs) (hn:0<n) (hx:ev m x=some (.pointer (some ⟨xI q,xH q+j,none⟩))) (ht:Z9 P T=some (true,k)) (hl:vs.length=k) (hu:∀ i v,vs[i]?=some v→cs[j+i]?=some v) :
  Qt P N m (St ⟨w0,F0,bs,G⟩) (.load T x) ty (.agg vs.toArray):=fun a w _ _ _ _ ha hw=>by
 obtain ⟨F,hF⟩:=id hw
 obtain ⟨b,off,rfl⟩:=(hr F hF.hG).ptr hn
 exact B0 hx ht hr hn hl hu a w _ _ _ _ ha hw
theorem Yu.append {m:Sl}:∀ {k l:Sl},Yu m k→Yu m l→Yu m (k++l)
 |[],_,_,h=>h
 |(_,_)::_,_,⟨h1,h2⟩,h=>⟨h1,Yu.append h2 h⟩
theorem Jz {ι:Type} {c:Code} (K:Sl) (M:ι→Sl) (B:ι→List (Nat×Obj)) (R:ι→Gs→Prop) (μ:ι→Nat) (i0:ι)
  (hk:Yu m K) (hm:Yu m (M i0)) (hb:(B i0).Sublist bs) (hg:∀ F,G F→R i0 F)
  (round:∀ i,J P c (Exit.then (FI N w0 F0 (fun i=>K++M i) B (fun i F=>G F∧R i F) μ i) Q) N (K++M i) ⟨w0,F0,B i,fun F=>G F∧R i F⟩):J P (.loop c) Q N m ⟨w0,F0,bs,G⟩ :=
 XU (fun i=>K++M i) B (fun i F=>G F∧R i F) μ i0 (hk.append hm) hb (fun F h=>⟨h,hg F h⟩) round
theorem Z3 {ι:Type} {c:Code} (K:Sl) (M:ι→Sl) (μ:ι→Nat) (i0:ι) (hk:Yu m K) (hm:Yu m (M i0))
  (round:∀ i,J P c (Exit.then (FI N w0 F0 (fun i=>K++M i) (fun _=>bs) (fun _=>G) μ i) Q) N (K++M i) ⟨w0,F0,bs,G⟩):J P (.loop c) Q N m ⟨w0,F0,bs,G⟩ :=
 XU (fun i=>K++M i) (fun _=>bs) (fun _=>G) μ i0 (hk.append hm) subl_r (fun _ h=>h) round
theorem KZ {x y:Code} (K M:Sl) (hk:Yu m K) (h1:J P x (Xd (fun a w=>Jr N (K++M) a∧St ⟨w0,F0,bs,G⟩ w)) N m ⟨w0,F0,bs,G⟩) (h2:J P y Q N (K++M) ⟨w0,F0,bs,G⟩):J P (.seq x y) Q N m ⟨w0,F0,bs,G⟩ :=
 jz _ _ _ h1 h2
theorem T3 {ι:Type} {x y:Code} (K:Sl) (M:ι→Sl) (B:ι→List (Nat×Obj)) (R:ι→Gs→Prop) (hk:Yu m K) (h1:J P x (Xd (fun a w=>∃ i,Jr N (K++M i) a∧St ⟨w0,F0,B i,fun F=>G F∧R i F⟩ w)) N m ⟨w0,F0,bs,G⟩)
  (h2:∀ i,J P y Q N (K++M i) ⟨w0,F0,B i,fun F=>G F∧R i F⟩):J P (.seq x y) Q N m ⟨w0,F0,bs,G⟩ :=
 KY (fun i=>K++M i) B (fun i F=>G F∧R i F) h1 h2
end
end
section
open Go.RowKit Ig
theorem VV:(1:Int)<B9:=by decide
theorem RX {b:List Int} {n:Nat} (db:DG B9 b) (zb:NZ b) (hn:b.length=n+1):1≤Qg b n∧1≤B9 / (Qg b n+1)∧B9 / (Qg b n+1)<B9∧B9 / (Qg b n+1)*(Qg b n+1)≤B9:=by
 have hd:=db.Qg JE n
 have h1:1≤Qg b n:=by
  have hlt:n<b.length:=by omega
  have:Qg b n≠0:=by
   intro e
   refine zb ?_
   rw [List.getLast?_eq_getElem?,hn,Nat.add_sub_cancel,List.getElem?_eq_getElem hlt]
   rw [ZJ hlt] at e;rw [e]
  omega
 have h9:B9=1000000000:=rfl
 refine⟨h1,?_,?_,Int.ediv_mul_le _ (by omega)⟩
 ·exact(Int.le_ediv_iff_mul_le (by omega)).2 (by omega)
 ·exact Int.ediv_lt_of_lt_mul (by omega) (by rw [Int.mul_add];have:B9*1≤B9*Qg b n:=Int.mul_le_mul_of_nonneg_left h1 (by omega);omega)
theorem L4 {b v:List Int} {n:Nat} {f:Int} (db:DG B9 b) (zb:NZ b) (hn:b.length=n+1) (dv':DG B9 v) (zv:NZ v) (h:dv B9 v=dv B9 b*f) (h1:1≤f) (h2:f*(Qg b n+1)≤B9):v.length=n+1:=by
 have hlt:n<b.length:=by omega
 have e1:dv B9 b=dv B9 (b.take n)+B9^n*Qg b n:=by
  have:=K9 B9 b n
  rw [List.take_of_length_le (by omega)] at this;exact this
 have e2:=Zw JE (db.take n)
 rw [show(b.take n).length=n by simp;omega] at e2
 have hb0:B9^n≤dv B9 b:=by
  have:=BV JE db zb (by intro e;rw [e] at hn;simp at hn)
  rw [hn,Nat.add_sub_cancel] at this;exact this
 have hp:=pow_pos JE n
 have hup:dv B9 b<B9^n*(Qg b n+1):=by rw [Int.mul_add,Int.mul_one];omega
 have hv1:dv B9 v<B9^(n+1):=by
  rw [h,Int.pow_succ]
  have:dv B9 b*f<B9^n*(Qg b n+1)*f:=Int.mul_lt_mul_of_pos_right hup (by omega)
  have q:B9^n*(Qg b n+1)*f≤B9^n*B9:=by
   rw [Int.mul_assoc,Int.mul_comm (Qg b n+1)]
   exact Int.mul_le_mul_of_nonneg_left h2 (by omega)
  omega
 have hv0:B9^n≤dv B9 v:=by
  rw [h]
  have:dv B9 b*1≤dv B9 b*f:=Int.mul_le_mul_of_nonneg_left h1 (by omega)
  omega
 rcases Nat.lt_trichotomy v.length (n+1) with g | g | g
 ·have h3:=Zw JE dv'
  have h4:=KB (b:=B9) (by decide) (show v.length≤n by omega)
  omega
 ·exact g
 ·have h3:=BV JE dv' zv (by intro e;rw [e] at g;simp at g)
  have h4:=KB (b:=B9) (by decide) (show n+1≤v.length - 1 by omega)
  omega
theorem xe {b:Int} (hb:0<b) {U:List Int} {k:Nat} (hU:DG b U):b^k*dv b (U.drop k)≤dv b U:=by
 rw [X5 b U k]
 have:=Qs hb (hU.take k)
 omega
structure Bm (a v:List Int) (f:Int) (n:Nat) where
 k:Nat
 U:List Int
 Q:List Int
 le:k+n≤a.length+1
 lu:U.length=a.length+1
 lq:Q.length=a.length+1 - n
 du:DG B9 U
 dq:DG B9 Q
 lt:dv B9 (U.drop k)<dv B9 v
 h:dv B9 a*f=dv B9 v*(B9^k*dv B9 (Q.drop k))+dv B9 U
def Bm.start {a b v U:List Int} {f:Int} {n:Nat} (da:DG B9 a) (db:DG B9 b) (zb:NZ b) (hn:b.length=n+1) (hv:dv B9 v=dv B9 b*f) (h1:1≤f) (du:DG B9 U) (lu:U.length=a.length+1) (hU:dv B9 U=dv B9 a*f) (hl:n+1≤a.length+1):Bm a v f (n+1) where
 k:=a.length+1 - (n+1)
 U:=U
 Q:=List.replicate (a.length+1 - (n+1)) 0
 le:=by omega
 lu:=lu
 lq:=by simp
 du:=du
 dq:=DG.replicate JE _
 lt:=by
  have hb0:B9^n≤dv B9 b:=by
   have:=BV JE db zb (by intro e;rw [e] at hn;simp at hn)
   rw [hn,Nat.add_sub_cancel] at this;exact this
  have h2:=xe JE (k:=a.length - n) du
  have h3:=Zw JE da
  have h4:dv B9 a*f<B9^a.length*f:=Int.mul_lt_mul_of_pos_right h3 (by omega)
  have h5:B9^a.length*f=B9^(a.length - n)*(B9^n*f):=by rw [← Int.mul_assoc,← Int.pow_add];congr 2;omega
  rw [hU] at h2
  have h6:B9^(a.length - n)*dv B9 (U.drop (a.length - n))<B9^(a.length - n)*(B9^n*f):=by omega
  have h7:dv B9 (U.drop (a.length - n))<B9^n*f:=Int.lt_of_mul_lt_mul_left h6 (by have:=pow_pos JE (a.length - n);omega)
  have h8:B9^n*f≤dv B9 b*f:=Int.mul_le_mul_of_nonneg_right hb0 (by omega)
  rw [show a.length+1 - (n+1)=a.length - n by omega,hv]
  omega
 h:=by
  rw [List.drop_of_length_le (by simp),Tg,Int.mul_zero,Int.mul_zero,Int.zero_add,hU]
theorem Bm.zero {a v:List Int} {f:Int} {n:Nat} (i:Bm a v f n) (dv':DG B9 v) (hv:v.length=n):dv B9 (i.U.drop (i.k+n))=0:=by
 have:=Zw JE dv'
 rw [hv] at this
 exact Fw VV i.du (Int.lt_trans i.lt this)
theorem Bm.I7 {a v:List Int} {f:Int} {m:Nat} (i:Bm a v f (m+2)) (dv':DG B9 v) (zv:0<Qg v (m+1)) (hv:v.length=m+2) (hk:0<i.k):VF B9 ((i.U.drop (i.k - 1)).take (m+3)) v m∧dv B9 (i.U.drop (i.k - 1))=dv B9 ((i.U.drop (i.k - 1)).take (m+3)):=by
 have hz:=i.zero dv' hv
 have hle:=i.le
 have hlu:=i.lu
 have e:dv B9 (i.U.drop (i.k - 1))=dv B9 ((i.U.drop (i.k - 1)).take (m+3)):=by
  have:=X5 B9 (i.U.drop (i.k - 1)) (m+3)
  rw [List.drop_drop,show i.k - 1+(m+3)=i.k+(m+2) by omega,hz] at this
  simpa using this
 refine⟨⟨(i.du.drop _).take _,dv',by simp;omega,hv,zv,?_⟩,e⟩
 rw [← e,J4 (by omega),YI,show i.k - 1+1=i.k by omega]
 have hd:=i.du.Qg JE (i.k - 1)
 have hlt:=i.lt
 have:B9*dv B9 (i.U.drop i.k)≤B9*(dv B9 v - 1):=Int.mul_le_mul_of_nonneg_left (by omega) (by decide)
 rw [Int.mul_sub,Int.mul_one] at this
 omega
def Bm.next {a v:List Int} {f:Int} {n:Nat} (i:Bm a v f n) (hk:0<i.k) (hn:0<n) {U1:List Int} {t:Int} (t0:0≤t) (t1:t<B9) (h1:DG B9 U1) (h2:dv B9 (U1.drop (i.k - 1))<dv B9 v) (h3:dv B9 U1=dv B9 i.U - B9^(i.k - 1)*(t*dv B9 v)) (h4:U1.length=i.U.length):Bm a v f n where
 k:=i.k - 1
 U:=U1
 Q:=i.Q.set (i.k - 1) t
 le:=by have:=i.le;omega
 lu:=by rw [h4,i.lu]
 lq:=by rw [List.length_set,i.lq]
 du:=h1
 dq:=i.dq.set _ t0 t1
 lt:=h2
 h:=by
  have hle:=i.le
  have hlq:=i.lq
  rw [h3,J4 (l:=i.Q.set (i.k - 1) t) (by rw [List.length_set];omega),YI,VW (by omega),if_pos rfl,List.drop_set_of_lt (by omega),show i.k - 1+1=i.k by omega,i.h]
  have e:B9^i.k=B9^(i.k - 1)*B9:=by rw [← Int.pow_succ];congr 1;omega
  rw [e]
  generalize B9^(i.k - 1)=p
  generalize dv B9 (i.Q.drop i.k)=q
  generalize dv B9 i.U=u
  generalize dv B9 v=y
  generalize B9=B
  grind
theorem Bm.stop {a b v:List Int} {f:Int} {n:Nat} (i:Bm a v f n) (hk:i.k=0) (db:DG B9 b) (da:DG B9 a) (hv:dv B9 v=dv B9 b*f) (h1:1≤f) (hb:0<dv B9 b) (dv':DG B9 v) (lv:v.length=n) :
  dv B9 i.Q=dv B9 a / dv B9 b∧dv B9 (i.U.take n)=f*(dv B9 a%dv B9 b):=by
 have h:=i.h
 have lt:=i.lt
 rw [hk,List.drop_zero] at lt
 have hz:=i.zero dv' lv
 rw [hk,Nat.zero_add] at hz
 have e0:dv B9 (i.U.take n)=dv B9 i.U:=by
  rw [X5 B9 i.U n,hz];simp
 rw [hk,List.drop_zero,Int.pow_zero,Int.one_mul,hv] at h
 rw [hv] at lt
 have u0:=Qs JE i.du
 rw [e0]
 have e1:dv B9 i.U=f*(dv B9 a - dv B9 b*dv B9 i.Q):=by rw [Int.mul_sub];grind
 have lt2:f*(dv B9 a - dv B9 b*dv B9 i.Q)<f*dv B9 b:=by rw [← e1,Int.mul_comm f (dv B9 b)];exact lt
 have r1:dv B9 a - dv B9 b*dv B9 i.Q<dv B9 b:=Int.lt_of_mul_lt_mul_left lt2 (by omega)
 have r0:0≤dv B9 a - dv B9 b*dv B9 i.Q:=by
  rcases Int.lt_or_le (dv B9 a - dv B9 b*dv B9 i.Q) 0 with g | g
  ·have:f*(dv B9 a - dv B9 b*dv B9 i.Q)≤f*(-1):=Int.mul_le_mul_of_nonneg_left (by omega) (by omega)
   omega
  ·exact g
 have q:dv B9 a / dv B9 b=dv B9 i.Q:=Xo hb (by rw [Int.mul_comm];omega) (by rw [Int.add_mul,Int.one_mul,Int.mul_comm];omega)
 refine⟨q.symm,?_⟩
 rw [e1]
 have:=Int.emod_def (dv B9 a) (dv B9 b)
 rw [this,q]
end
section
open Go.RowKit Ig
section
variable [Dr] [df:Df] {P:Program} {Q:Exit→Act→World→Prop} {N:Nat} {m:Sl} {ops:Array Oper} {l:List Oper} {w0:World} {F0:Gs} {bs:List (Nat×Obj)} {G:Gs→Prop} {ty:TypeId} {pos:String} {aft:Array Edge}
theorem W8 {d:Nat} {t e:TypeId} {sz:Nat} {g:Bool} (ht:P.underlying t=some (.slice e)) (hs:Z9 P e=some (g,sz)) (k:∀ b,JS P ops Q l N ((d,.slice (some ⟨b,0,none⟩) 0 0)::m) ⟨w0,F0,(b,.cells #[] e (0,0))::bs,G⟩) (hu:WC e=true:=by rfl) (hd:J0 N (some d)=true:=by rfl) :
  JS P ops Q (⟨some d,.buildSlice t 0 #[],ty,pos,aft,none⟩::l) N m ⟨w0,F0,bs,G⟩:=fun a w ha hw=>wpList_plain rfl fun K hK=>by
 refine upon_value (v:=.slice (some ⟨w.heap.size,0,none⟩) 0 0) (w':=w.alloc (.cells #[] e)) ?_ (hK _ _ (k _ _ _ (ha.put hd _) (hw.alloc _ (Xc hu))))
 have hrun:(Instr.buildSlice t 0 #[]).run P w = .ok (.slice (some ⟨w.heap.size,0,none⟩) 0 0) (w.alloc (.cells #[] e)):=by
  have hf:Instr.fill (fun i=>some (i*sz,sz)) (Array.map (fun x=>(#[]:Array Value)[x%(#[]:Array Value).size]!) (Array.range 0)) []=some #[]:=by simp [Instr.fill]
  simp only [Instr.buildSlice,Sem.run_bind,run_underlying ht,Result.andThen_ok,YA hs,Nat.zero_mul,if_neg (show ¬ 0>2^24 by omega),Sem.run_pure,if_true,hf,newRow,run_newObj]
  rfl
 simp [execOp,hrun]
theorem Sq {T e e':TypeId} {sz n:Nat} {x:Operand} {v:Value} {cs:List Value} {ob:List (Nat×Obj)} {S:World→Prop} (hx:ev m x=some v) (hr:Q3 e' sz v n cs ob) (hT:Hp P T=some e):Qt P N m S (.call ⟨.builtin .len,#[x],#[T]⟩) ty (.int .i64 n):=by
 cases hr with
 |nil=>exact Ql hx hT
 |some=>exact Ql hx hT
theorem Q3.pR {T:TypeId} {sz n:Nat} {v:Value} {cs:List Value} {ob:List (Nat×Obj)} (hr:Q3 T sz v n cs ob) (hn:0<n):∃ b cap rest,v = .slice (Option.some ⟨b,0,Option.none⟩) n cap∧ob=[(b,.cells (cs++rest).toArray T (0,0))]∧n≤cap:=by
 cases hr with
 |nil=>exact absurd hn (Nat.lt_irrefl 0)
 |some h1 h2 h3 h4=>exact⟨_,_,_,rfl,rfl,h3⟩
theorem Src.gj {sz k b off c:Nat} {news:List Value} (hr:∀ F,G F→Q9 F (some ⟨b,off,none⟩) k sz news) (hk:0<k) (hl:news.length=k*sz):Src ⟨w0,F0,bs,G⟩ sz (.slice (.some ⟨b,off,none⟩) k c) k news :=
 ⟨hl,.inr ⟨_,_,rfl,fun w hw j v hv=>by rw [VE];exact Kj hw hr hk hv⟩⟩
end
theorem JP.own {F:Gs} {b n c:Nat} {l:List Int} {rest:List Value} {T:TypeId} (h:F b=some ((l.map Qx++rest).toArray,T)) (hl:l.length=n) (hn:n≤c):JP F ⟨some ⟨b,0,none⟩,n,c⟩ l:=by
 refine⟨⟨by simp [hl],fun _=>⟨b,0,_,T,rfl,h,fun j u hu=>?_⟩⟩,hl,hn⟩
 have hj:j<(l.map Qx).length:=by rcases Nat.lt_or_ge j (l.map Qx).length with g | g;exact g;rw [List.getElem?_eq_none g] at hu;cases hu
 rw [Nat.zero_add,List.getElem?_toArray,List.getElem?_append,if_pos hj];exact hu
theorem JP.gv {F:Gs} {b n c:Nat} {l:List Int} {T:TypeId} (h:F b=some ((l.map Qx).toArray,T)) (hl:l.length=n) (hn:n≤c):JP F ⟨some ⟨b,0,none⟩,n,c⟩ l:=JP.own (rest:=[]) (by rw [List.append_nil];exact h) hl hn
theorem JP.one {F:Gs} {b:Nat} {x:Int} {T:TypeId} (h:F b=some (([Value.int .i64 x]:List Value).toArray,T)):JP F ⟨some ⟨b,0,none⟩,1,1⟩ [x]:=⟨Q9.of h rfl,rfl,Nat.le_refl _⟩
theorem JP.take {F:Gs} {q:Option Addr} {n c k:Nat} {l:List Int} (h:JP F ⟨q,n,c⟩ l) (hk:k≤n):JP F ⟨q,k,c⟩ (l.take k):=by
 have hn:=h.2.1
 have hc:=h.2.2
 dsimp only at hn hc
 exact⟨h.1.take hn hk,by simp;omega,by show k≤c;omega⟩
theorem Ww {l m:List Int} (hl:DG B9 l) (hm:DG B9 m) (zl:NZ l) (h:dv B9 l≤dv B9 m):l.length≤m.length:=by
 rcases Nat.lt_or_ge m.length l.length with g | g
 ·have:=XT VV hm hl zl g;omega
 ·exact g
theorem Rr (x:Int):dv B9 [x]=x:=by simp [dv]
theorem LP {f x r t:Int} (hf:0<f) (h:f*x=f*r+t) (h0:0≤t) (h1:t<f):r=x:=by
 have e:t=f*(x - r):=by rw [Int.mul_sub];omega
 rcases Int.lt_trichotomy (x - r) 0 with g | g | g
 ·have:f*(x - r)≤f*(-1):=Int.mul_le_mul_of_nonneg_left (by omega) (by omega)
  omega
 ·omega
 ·have:f*1≤f*(x - r):=Int.mul_le_mul_of_nonneg_left (by omega) (by omega)
  omega
def j1 (a b:List Int) (c:(Sr×List Int)×(Sr×List Int)) (F:Gs):Prop :=
 (JP F c.1.1 c.1.2∧DG B9 c.1.2∧NZ c.1.2∧dv B9 c.1.2=dv B9 a / dv B9 b)∧(JP F c.2.1 c.2.2∧DG B9 c.2.2∧NZ c.2.2∧dv B9 c.2.2=dv B9 a%dv B9 b)
theorem Cl {F:Gs} {a b:List Int} (nb:b.length=1) (db:DG B9 b) (c:(Sr×List Int)×Int) {k:Nat}
  (h:JP F c.1.1 c.1.2∧DG B9 c.1.2∧NZ c.1.2∧0≤c.2∧c.2<Qg b 0∧dv B9 a=Qg b 0*dv B9 c.1.2+c.2∧c.1.2.length≤a.length) (h':JP F ⟨some ⟨k,0,none⟩,(Q2 [c.2]).length,1⟩ (Q2 [c.2])) :
  j1 a b ((c.1.1,c.1.2),(⟨some ⟨k,0,none⟩,(Q2 [c.2]).length,1⟩,Q2 [c.2])) F:=by
 obtain ⟨h1,h2,h3,h4,h5,h6,_⟩:=h
 have e:dv B9 b=Qg b 0:=by
  obtain ⟨x,rfl⟩:=List.length_eq_one_iff.1 nb
  simp [dv,Qg]
 have b0:=db.Qg JE 0
 refine⟨⟨h1,h2,h3,?_⟩,h',(DG.cons h4 (by omega) (DG.nil _)).Q2,Xa _,?_⟩
 ·show dv B9 c.1.2=_
  rw [e];exact(Xo (by omega) (by rw [Int.mul_comm];omega) (by rw [Int.add_mul,Int.one_mul,Int.mul_comm];omega)).symm
 ·show dv B9 (Q2 [c.2])=_
  rw [J7,Rr,e,Zd (q:=dv B9 c.1.2) (by rw [Int.mul_comm];omega) (by rw [Int.add_mul,Int.one_mul,Int.mul_comm];omega),Int.mul_comm];omega
structure dY (a:List Int) (f:Int) where
 U:List Int
 v:Value
 ob:List (Nat×Obj)
 le:U.length≤a.length+1
 du:DG B9 U
 h:dv B9 U=dv B9 a*f
 hr:Q3 3 1 v U.length (U.map Qx) ob
structure dV (U v:List Int) (j:Nat) (t:Int) where
 i:Nat
 U':List Int
 br:Int
 le:i≤v.length
 h:N0 B9 U v j t i U' br
structure dx (U v:List Int) (j n:Nat) where
 i:Nat
 U':List Int
 c:Int
 le:i≤n
 h:Bp B9 U v j n i U' c
@[reducible] def gY (c:(Sr×List Int)×(Sr×List Int)):Value:=.tuple #[.slice c.1.1.q c.1.1.n c.1.1.cap,.slice c.2.1.q c.2.1.n c.2.1.cap]
set_option maxHeartbeats 4000000 in
theorem GJ {w:World} {F:Gs} {ra rb:Sr} {a b:List Int} (hF:Fits F w) (hA:JP F ra a) (hB:JP F rb b) (da:DG B9 a) (db:DG B9 b) (za:NZ a) (zb:NZ b) (hb:0<dv B9 b) (la:a.length≤10000000) (lb:b.length≤10000000) :
  QS Tryz.prog 201 [ra.v,rb.v] w F gY (fun c F=>j1 a b c F):=by
 obtain ⟨q,n,c⟩:=ra
 obtain ⟨q',n',c'⟩:=rb
 have na:=hA.2.1
 have nb:=hB.2.1
 dsimp only at na nb
 have h9:B9=1000000000:=rfl
 have nb0:0<n':=by
  rcases Nat.eq_zero_or_pos n' with g | g
  ·rw [g] at nb;rw [List.eq_nil_of_length_eq_zero nb] at hb;simp at hb
  ·exact g
 dsimp only [Sr.v]
 refine QS.intro (G:=fun F=>JP F ⟨q,n,c⟩ a∧JP F ⟨q',n',c'⟩ b) Tryz.func201 rfl (by rfl) rfl rfl hF (fun F' hF'=>⟨hA.le hF',hB.le hF'⟩)<|J_sr<|JS_as rfl<|JS_as rfl<|JS_nt<|QG<|J_sr<|JS_mv rfl<|JS_mv rfl<|QI rfl (fun w F hF ⟨hA,hB⟩=>GK hF (ra:=⟨q,n,c⟩) (rb:=⟨q',n',c'⟩) hA (hB) (da) (db) (za) (zb) (by omega) (by omega)) (fun _=>QA (QV rfl rfl rfl)<|QE<|QC ?_)
 refine QR rfl (fun hc=>?_) (fun hc=>?_)
 ·
  have hlt:dv B9 a<dv B9 b:=by have:=dec_t hc;unfold ZO at this;split at this;assumption;split at this<;>omega
  refine J_sr<|JS_mv rfl<|JS_as rfl<|JS_as rfl<|JS_nt<|QT ?_
  exact JY (((⟨none,0,0⟩,[]),(⟨q,n,c⟩,a)):(Sr×List Int)×(Sr×List Int)) rfl (.tmp rfl (.tmp rfl .nil)) (rfl) (fun F ⟨⟨hA,hB⟩,_⟩=>⟨⟨⟨Q9.nil F _ _,rfl,Nat.le_refl _⟩,DG.nil _,by simp [NZ],by rw [Tg];exact(Int.ediv_eq_zero_of_lt (Qs JE da) hlt).symm⟩,hA,da,za,(Int.emod_eq_of_lt (Qs JE da) hlt).symm⟩)
 ·
  have hge:dv B9 b≤dv B9 a:=by have:=dec_f hc;unfold ZO at this;split at this;exact absurd this (by decide);omega
  refine QP<|QC<|QG<|J_sr<|JS_mv rfl<|QA (Ql rfl Qf)<|QA (QV rfl rfl rfl)<|QE<|QC ?_
  refine QR rfl (fun hc=>?_) (fun hc=>?_)
  ·
   have hn1:n'=1:=by have:=dec_t hc;omega
   subst hn1
   obtain ⟨f1,_⟩:=RX (n:=0) db zb nb
   have bx:=db.Qg JE 0
   have d0:=bx.2
   refine J_sr<|JS_mv rfl<|JS_mv rfl<|QA (Ja (n:=1) (0) (fun F ⟨⟨hA,hB⟩,_⟩=>(hB).1) rfl (congrArg (fun z:Int=>some (Value.int .i64 z)) (by omega)) Qf Qp (by omega))<|QA (Jk (n:=1) ((0)*1) (fun F ⟨⟨hA,hB⟩,_⟩=>(hB).1) (by omega) rfl Qp (JO (o:=b) (by omega)))<|QI rfl (fun w F hF ⟨⟨hA,hB⟩,_⟩=>Di hF (ra:=⟨q,n,c⟩) hA (da) (by omega) (by omega) (d0)) (fun c37=>JS_mv rfl<|QA (QM rfl rfl)<|QA (QM rfl rfl)<|JS_as rfl<|JS_as rfl<|JS_nt<|QG<|Xz _ (fun w F hF ⟨⟨⟨hA,hB⟩,_⟩,h37⟩=>h37.2) (fun p37=>QB<|JS_mv rfl<|JS_mv rfl<|QU rfl (Q6 Qf) Qp VQ rfl rfl (fun b42=>QI rfl (fun w F hF ⟨⟨⟨⟨hA,hB⟩,_⟩,h37⟩,hs42⟩=>We hF (r:=⟨some ⟨b42,0,none⟩,1,1⟩) (JP.one hs42) (by simp)) (fun c43=>JS_as rfl<|JS_as rfl<|QE<|QC ?_))))
   refine QT ?_
   exact JY (((c37.1.1,c37.1.2),(⟨some ⟨b42,0,none⟩,(Q2 [c37.2]).length,1⟩,Q2 [c37.2])):(Sr×List Int)×(Sr×List Int)) rfl (.tmp rfl (.tmp rfl .nil)) (rfl) (fun F ⟨⟨⟨⟨⟨hA,hB⟩,_⟩,h37⟩,hs42⟩,h43⟩=>Cl nb db c37 h37 h43)
  ·
   have hn2:n'≠1:=fun e=>dec_f hc (by omega)
   obtain ⟨m,rfl⟩:∃ m,n'=m+2:=⟨n' - 2,by omega⟩
   obtain ⟨f1,f2,f3,f4⟩:=RX (n:=m+1) db zb nb
   have bx:=db.Qg JE (m+1)
   rw [h9] at bx f2 f3 f4
   have d1f:DG B9 [1000000000 / (Qg b (m+1)+1)]:=DG.cons (by omega) f3 (DG.nil _)
   refine QP<|QC<|J_sr<|JS_mv rfl<|JS_mv rfl<|QA (Ql rfl Qf)<|QA (J6 rfl rfl (by omega))<|QA (Ja (n:=(m+2)) (m+1) (fun F ⟨⟨hA,hB⟩,_⟩=>(hB).1) rfl (congrArg (fun z:Int=>some (Value.int .i64 z)) (by omega)) Qf Qp (by omega))<|QA (Jk (n:=(m+2)) ((m+1)*1) (fun F ⟨⟨hA,hB⟩,_⟩=>(hB).1) (by omega) rfl Qp (JO (o:=b) (by omega)))<|QA (Qu rfl rfl (by omega))<|QA (Wb rfl rfl (by omega) (by omega) (by omega))<|QU rfl (Q6 Qf) Qp VQ rfl rfl (fun b52=>JS_as rfl<|JS_nt<|J_sr<|JS_mv rfl<|JS_mv rfl ?_)
   refine QI rfl (fun w F hF ⟨⟨⟨hA,hB⟩,_⟩,hs52⟩=>GI hF (ra:=⟨q',m+2,c'⟩) (rb:=⟨some ⟨b52,0,none⟩,1,1⟩) hB (JP.one hs52) (db) (d1f) (by omega) (by first | omega | (simp;done) | (simp;omega))) (fun c55=>?_);rcases c55 with ⟨v55,l55⟩;dsimp only
   refine JK _ (fun w F hF ⟨⟨⟨⟨hA,hB⟩,_⟩,hs52⟩,⟨h55,h55p⟩⟩=>And.intro h55.2 h55p) (fun p55=>JS_as rfl<|JS_nt<|QG ?_)
   obtain ⟨⟨n55,c55⟩,d55,e55,z55,m55⟩:=p55
   rw [Rr] at e55
   have l55l:l55.length=m+2:=L4 db zb nb d55 z55 e55 f2 f4
   obtain ⟨qv,nv,cv⟩:=v55
   dsimp only at n55 c55 ⊢
   obtain rfl:nv=m+2:=by omega
   have zv:0<Qg l55 (m+1):=by have:=(RX (n:=m+1) d55 z55 l55l).1;omega
   have hlab:b.length≤a.length:=Ww db da zb hge
   refine QB<|JS_mv rfl<|QA (Ql rfl Qf)<|JS_as rfl<|JS_nt<|J_sr<|W8 (Q6 Qf) Qp (fun b58=>JS_mv rfl<|JS_mv rfl ?_)
   refine QI rfl (fun w F hF ⟨⟨⟨⟨hA,hB⟩,_⟩,hs52⟩,⟨h55,h55p⟩⟩=>GI hF (ra:=⟨q,n,c⟩) (rb:=⟨some ⟨b52,0,none⟩,1,1⟩) hA (JP.one hs52) (da) (d1f) (by omega) (by first | omega | (simp;done) | (simp;omega))) (fun c61=>?_);rcases c61 with ⟨v61,l61⟩;dsimp only
   refine JK _ (fun w F hF ⟨⟨⟨⟨⟨hA,hB⟩,_⟩,hs52⟩,⟨h55,h55p⟩⟩,⟨h61,h61p⟩⟩=>And.intro h61.2 h61p) (fun p61=>?_)
   obtain ⟨⟨n61,c61⟩,d61,e61,z61,m61⟩:=p61
   rw [Rr] at e61
   have hpos:0<l61.length:=by
    rcases Nat.eq_zero_or_pos l61.length with g | g
    ·rw [List.eq_nil_of_length_eq_zero g,Tg] at e61
     have:0<dv B9 a*(1000000000 / (Qg b (m+1)+1)):=Int.mul_pos (by omega) (by omega)
     omega
    ·exact g
   obtain ⟨qa,na',ca⟩:=v61
   dsimp only at n61 c61 ⊢
   refine JK _ (fun w F hF h=>h.2.1.1.ptr (by dsimp only;omega)) (fun hq=>?_)
   obtain ⟨qab,qao,hq⟩:=hq
   dsimp only at hq
   subst hq
   simp only [List.length_singleton] at m61
   refine VI (bs1:=[]) (ob:=[(b58,.cells #[] 3 (0,0))]) (n:=0) (k:=na') (sz:=1) (olds:=[]) (news:=l61.map Qx) rfl rfl Qf Qp VQ rfl DF (Q3.some (l:=[]) (rest:=[]) rfl rfl (Nat.le_refl _) (Nat.zero_le _)) (Src.gj (fun F h=>h.2.1.1) (by omega) (by simp;omega)) (by omega) (by omega) (fun v hv=>by obtain ⟨x,_,rfl⟩:=List.mem_map.1 hv;rfl) (fun v62 ob62 hr62=>JS_as rfl<|JS_nt<|QG<|Qa<|Jz (ι:=dY a (1000000000 / (Qg b (m+1)+1))) [(0,_),(8,_),(9,_),(10,_)] (fun i=>[(11,i.v)]) (fun i=>i.ob) (fun i F=>True) (fun i=>a.length+1 - i.U.length) (⟨l61,v62,ob62,by omega,d61,e61,by rw [n61];simpa using hr62⟩) ⟨rfl,rfl,rfl,rfl,trivial⟩ ⟨rfl,trivial⟩ subl_r (fun _ _=>trivial) (fun i=>?_))
   simp only [List.cons_append,List.nil_append]
   have hle:=i.le
   refine QG<|J_sr<|JS_mv rfl<|QA (Sq rfl i.hr Qf)<|JS_mv rfl<|QA (Ql rfl Qf)<|QA (Qu rfl rfl (by omega))<|QA (QV rfl rfl rfl)<|QE<|QC ?_
   refine QR rfl (fun hc=>?_) (fun hc=>?_)
   ·
    refine QP<|QC<|Qa<|QB<|JS_mv rfl<|QU rfl (Q6 Qf) Qp VQ rfl rfl (fun b70=>?_)
    refine VI (bs1:=[]) (ob:=i.ob) (k:=1) (sz:=1) (news:=[.int .i64 0]) rfl rfl Qf Qp VQ rfl DF i.hr (Src.row (off:=0) (fun F ⟨⟨⟨⟨⟨⟨⟨hA,hB⟩,_⟩,hs52⟩,⟨h55,h55p⟩⟩,⟨h61,h61p⟩⟩,_⟩,hs70⟩=>hs70) (fun j v hv=>by rw [Nat.zero_add];show([.int .i64 0].toArray)[j]?=some v;rw [List.getElem?_toArray];exact hv) rfl) (by omega) (by omega) (Zp ⟨rfl,trivial⟩) (fun v71 ob71 hr71=>?_)
    refine JS_as rfl<|QE<|Qk ?_
    exact Qo (⟨i.U++[0],v71,ob71,by have:=dec_t hc;simp;omega,i.du.append (DG.cons (by decide) (by decide) (DG.nil _)),by rw [XN,i.h];simp,by simpa [Qx] using hr71⟩) (by have:=dec_t hc;show a.length+1 - (i.U++[0]).length<a.length+1 - i.U.length;rw [List.length_append,List.length_singleton];omega) ⟨rfl,rfl,rfl,rfl,rfl,trivial⟩ subl_r (fun F h=>⟨h.1.1,trivial⟩)
   ·
    refine Q5 ?_
    repeat (first | refine Qd ?_ | refine QW (by rfl) ?_)
    refine Qe<|QC<|QG ?_
    have hle0:=i.le
    have hU:i.U.length=a.length+1:=by have:=dec_f hc;omega
    obtain ⟨U0,vU,obU,hle0,du0,hU0,hr0⟩:=i
    dsimp only at hU hle0 hU0 ⊢
    rw [hU] at hr0
    obtain ⟨bu,cu,rest,rfl,rfl,hcu⟩:=hr0.pR (by omega)
    refine QB<|JS_mv rfl<|QA (Ql rfl Qf)<|JS_mv rfl<|QA (J6 rfl rfl (by omega))<|R9 (n:=a.length+1 - (m+2)) (bytes:=8) (congrArg (fun z:Int=>some (Value.int .i64 z)) (by omega)) (congrArg (fun z:Int=>some (Value.int .i64 z)) (by omega)) Qf Qp VQ rfl DF (by omega) (by omega) (fun bq=>?_)
    rw [show ZS [Value.int .i64 0] (a.length+1 - (m+2))=(List.replicate (a.length+1 - (m+2)) (0:Int)).map Qx by rw [Kv];simp [Qx]]
    refine X7 (List.Perm.swap _ _ _)<|JS_as rfl<|JS_nt<|QG<|J_sr<|JS_mv rfl<|QA (Ql rfl Qf)<|JS_mv rfl<|QA (J6 rfl rfl (by omega))<|QA (J6 rfl rfl (by omega))<|JS_as rfl<|JS_nt<|Qa<|Jz (ι:=Bm a l55 (1000000000 / (Qg b (m+1)+1)) (m+2)) [(8,_),(9,_),(10,_),(11,_),(12,_)] (fun i2=>[(13,.int .i64 ((i2.k:Int) - 1))]) (fun i2=>[(bu,.cells (i2.U.map Qx++rest).toArray 3 (0,0)),(bq,.cells (i2.Q.map Qx).toArray 3 (0,0))]) (fun i2 F=>True) (fun i2=>i2.k) (Bm.start da db zb nb e55 f2 du0 hU hU0 (by omega)) ⟨rfl,rfl,rfl,rfl,rfl,trivial⟩ ⟨(congrArg (fun z:Int=>some (Value.int .i64 z)) (by simp only [Bm.start];omega)),trivial⟩ subl_r (fun _ _=>trivial) (fun i2=>?_)
    simp only [List.cons_append,List.nil_append]
    have hle2:=i2.le
    have lu2:=i2.lu
    have lq2:=i2.lq
    refine QG<|J_sr<|JS_mv rfl<|QA (QV rfl rfl rfl)<|QE<|QC ?_
    refine QR rfl (fun hc=>?_) (fun hc=>?_)
    ·
     have hk0:0<i2.k:=by have:=dec_t hc;omega
     rw [show((i2.k:Int) - 1)=((i2.k - 1:Nat):Int) by omega]
     obtain ⟨hst,hwe⟩:=i2.I7 d55 zv l55l hk0
     have hz0:=i2.zero d55 l55l
     refine QP<|QC<|QG<|Qa<|J_sr<|JS_mv rfl<|JS_mv rfl<|JS_mv rfl<|XJ (bs1:=_) rfl (List.Perm.refl _) (LO (rest:=rest) (U:=i2.U) (v:=l55) (j:=(i2.k - 1)) (m:=m) (rv:=⟨qv,m+2,cv⟩) lu2 (by omega) (by omega) (fun F ⟨⟨⟨⟨⟨⟨⟨hA,hB⟩,_⟩,hs52⟩,⟨h55,h55p⟩⟩,⟨h61,h61p⟩⟩,_⟩,_⟩=>h55) hst) (fun t89=>JK _ (fun w F hF h=>h.2) (fun g89=>?_))
     obtain ⟨t0,t1,t2,t3⟩:=g89
     rw [← hwe] at t2 t3
     refine JS_as rfl<|JS_nt<|J_sr<|JS_as rfl<|JS_nt<|QG<|J_sr<|JS_as rfl<|JS_nt<|Qa<|Jz (ι:=dV i2.U l55 (i2.k - 1) t89) [(8,_),(9,_),(10,_),(11,_),(12,_),(13,_),(14,_)] (fun i3=>[(15,.int .i64 (i3.br)),(16,.int .i64 ((i3.i:Nat):Int))]) (fun i3=>[(bu,.cells (i3.U'.map Qx++rest).toArray 3 (0,0)),(bq,.cells (i2.Q.map Qx).toArray 3 (0,0))]) (fun i3 F=>True) (fun i3=>l55.length - i3.i) (⟨0,i2.U,0,Nat.zero_le _,N0.start (by decide) i2.du _ _⟩) ⟨rfl,rfl,rfl,rfl,rfl,rfl,rfl,trivial⟩ ⟨rfl,rfl,trivial⟩ subl_r (fun _ _=>trivial) (fun i3=>?_)
     simp only [List.cons_append,List.nil_append]
     have hle3:=i3.le
     have lU3:=i3.h.len
     have dM:=i3.h.dM
     have gK:=i3.h.gK
     rw [h9] at gK
     refine QG<|J_sr<|JS_mv rfl<|JS_mv rfl<|QA (QV rfl rfl rfl)<|QE<|QC ?_
     refine QR rfl (fun hc=>?_) (fun hc=>?_)
     ·
      have hi3:i3.i<m+2:=by have:=dec_t hc;omega
      have bd:=CO VV ⟨t0,t1⟩ (d55.Qg JE i3.i) ⟨i3.h.dM,i3.h.gK⟩
      simp only [h9] at bd
      have bu3:=i3.h.dg.Qg JE ((i2.k - 1)+i3.i)
      rw [h9] at bu3
      have hd3:Qg i3.U' ((i2.k - 1)+i3.i)=Qg i2.U ((i2.k - 1)+i3.i):=ZR i3.h.hi (Nat.le_refl _)
      refine QP<|QC<|QG<|Qa<|J_sr<|JS_mv rfl<|JS_mv rfl<|JS_mv rfl<|QA (Ja (n:=(m+2)) (i3.i) (fun F ⟨⟨⟨⟨⟨⟨⟨⟨⟨hA,hB⟩,_⟩,hs52⟩,⟨h55,h55p⟩⟩,⟨h61,h61p⟩⟩,_⟩,_⟩,hg89⟩,_⟩=>(h55).1) rfl rfl Qf Qp (by omega))<|QA (Jk (n:=(m+2)) ((i3.i)*1) (fun F ⟨⟨⟨⟨⟨⟨⟨⟨⟨hA,hB⟩,_⟩,hs52⟩,⟨h55,h55p⟩⟩,⟨h61,h61p⟩⟩,_⟩,_⟩,hg89⟩,_⟩=>(h55).1) (by omega) rfl Qp (JO (o:=l55) (by omega)))<|QA (Ga rfl rfl (by omega))<|JS_mv rfl<|QA (Qu rfl rfl (by omega))<|JS_as rfl<|JS_nt<|J_sr<|JS_mv rfl<|JS_mv rfl<|JS_mv rfl<|QA (Qu rfl rfl (by omega))<|QA (Qv (i:=(i2.k - 1)+i3.i) rfl (congrArg (fun z:Int=>some (Value.int .i64 z)) (by omega)) Qf Qp (by omega))<|QA (YG (c:=(i3.U').map Qx++rest) (T':=3) rfl Qp .here (Ze (by first | omega | (simp only [List.length_set];omega)))) ?_
      refine JS_mv rfl<|QA (Kc rfl rfl (by omega) (by omega))<|QA (J6 rfl rfl (by omega))<|JS_as rfl<|JS_nt<|J_sr<|JS_mv rfl<|QA (Wb rfl rfl (by omega) (by omega) (by omega))<|JS_as rfl<|JS_nt<|QG<|J_sr<|JS_mv rfl<|QA (QV rfl rfl rfl)<|QE<|QC ?_
      refine QR rfl (fun hc=>?_) (fun hc=>?_)
      ·
       have hx:=dec_t hc
       refine J_sr<|JS_mv rfl<|QA (Qu rfl rfl (by omega))<|JS_as rfl<|JS_nt<|QB<|JS_mv rfl<|QA (Qu rfl rfl (by omega))<|JS_as rfl<|JS_nt<|QB<|JS_mv rfl<|JS_mv rfl<|JS_mv rfl<|QA (Qu rfl rfl (by omega))<|JS_mv rfl<|QA (Qv (i:=(i2.k - 1)+i3.i) rfl (congrArg (fun z:Int=>some (Value.int .i64 z)) (by omega)) Qf Qp (by omega))<|QN (vs:=[_]) rfl rfl rfl Qp rfl .here (K4 (by first | omega | (simp only [List.length_set];omega)) (((Qg (i3.U') ((i2.k - 1)+i3.i) - (((t89*Qg l55 (i3.i))+i3.br)%1000000000))+1000000000))) ⟨rfl,trivial⟩<|QE<|Qk<|QC<|QB ?_
       refine JS_mv rfl<|QA (Qu rfl rfl (by omega))<|JS_as rfl<|QE ?_
       exact Qo (⟨i3.i+1,((i3.U').set ((i2.k - 1)+i3.i) (((Qg (i3.U') ((i2.k - 1)+i3.i) - (((t89*Qg l55 (i3.i))+i3.br)%1000000000))+1000000000))),((((t89*Qg l55 (i3.i))+i3.br) / 1000000000)+1),by omega,i3.h.step (by omega) (by rw [h9];omega) (by rw [h9];omega) (by rw [h9,← hd3];omega)⟩) (by show l55.length - (i3.i+1)<l55.length - i3.i;omega) ⟨rfl,rfl,rfl,rfl,rfl,rfl,rfl,rfl,rfl,trivial⟩ subl_r (fun F h=>⟨h.1,trivial⟩)
      ·
       have hx:=dec_f hc
       refine QP<|QC<|QB<|JS_mv rfl<|JS_mv rfl<|JS_mv rfl<|QA (Qu rfl rfl (by omega))<|JS_mv rfl<|QA (Qv (i:=(i2.k - 1)+i3.i) rfl (congrArg (fun z:Int=>some (Value.int .i64 z)) (by omega)) Qf Qp (by omega))<|QN (vs:=[_]) rfl rfl rfl Qp rfl .here (K4 (by first | omega | (simp only [List.length_set];omega)) ((Qg (i3.U') ((i2.k - 1)+i3.i) - (((t89*Qg l55 (i3.i))+i3.br)%1000000000)))) ⟨rfl,trivial⟩<|QE<|Qk<|QC<|QB<|JS_mv rfl<|QA (Qu rfl rfl (by omega))<|JS_as rfl<|QE ?_
       exact Qo (⟨i3.i+1,((i3.U').set ((i2.k - 1)+i3.i) ((Qg (i3.U') ((i2.k - 1)+i3.i) - (((t89*Qg l55 (i3.i))+i3.br)%1000000000)))),(((t89*Qg l55 (i3.i))+i3.br) / 1000000000),by omega,i3.h.step (by omega) (by rw [h9];omega) (by rw [h9];omega) (by rw [h9,← hd3];omega)⟩) (by show l55.length - (i3.i+1)<l55.length - i3.i;omega) ⟨rfl,rfl,rfl,rfl,rfl,rfl,rfl,rfl,rfl,trivial⟩ subl_r (fun F h=>⟨h.1,trivial⟩)
     ·
      have hi3:i3.i=m+2:=by have:=dec_f hc;omega
      refine Q5 ?_
      repeat (first | refine Qd ?_ | refine QW (by rfl) ?_)
      refine Qe<|QC<|QG ?_
      have hs3:N0 B9 i2.U l55 (i2.k - 1) t89 (m+2) i3.U' i3.br:=by have:=i3.h;rw [hi3] at this;exact this
      have hd3:Qg i3.U' ((i2.k - 1)+(m+2))=Qg i2.U ((i2.k - 1)+(m+2)):=ZR hs3.hi (Nat.le_refl _)
      have hS:=hs3.stop VV l55l (by omega)
      rw [← hd3] at hS
      have bu4:=i2.du.Qg JE ((i2.k - 1)+(m+2))
      rw [h9,← hd3] at bu4
      have htp:=hS.tp
      have hz1:dv B9 (i2.U.drop ((i2.k - 1)+(m+2)+1))=0:=by rw [show(i2.k - 1)+(m+2)+1=i2.k+(m+2) by omega];exact hz0
      refine QB<|JS_mv rfl<|JS_mv rfl<|JS_mv rfl<|QA (Qu rfl rfl (by omega))<|JS_mv rfl<|JS_mv rfl<|JS_mv rfl<|QA (Qu rfl rfl (by omega))<|QA (Qv (i:=(i2.k - 1)+(m+2)) rfl (congrArg (fun z:Int=>some (Value.int .i64 z)) (by omega)) Qf Qp (by omega))<|QA (YG (c:=(i3.U').map Qx++rest) (T':=3) rfl Qp .here (Ze (by first | omega | (simp only [List.length_set];omega))))<|JS_mv rfl<|QA (J6 rfl rfl (by omega))<|QA (Qv (i:=(i2.k - 1)+(m+2)) rfl (congrArg (fun z:Int=>some (Value.int .i64 z)) (by omega)) Qf Qp (by omega))<|QN (vs:=[_]) rfl rfl rfl Qp rfl .here (K4 (by first | omega | (simp only [List.length_set];omega)) ((Qg (i3.U') ((i2.k - 1)+(m+2)) - i3.br))) ⟨rfl,trivial⟩<|JS_nt<|QG<|J_sr<|JS_mv rfl<|JS_mv rfl<|JS_mv rfl<|QA (Qu rfl rfl (by omega))<|QA (Qv (i:=(i2.k - 1)+(m+2)) rfl (congrArg (fun z:Int=>some (Value.int .i64 z)) (by omega)) Qf Qp (by omega)) ?_
      refine QA (YG (c:=(((i3.U').set ((i2.k - 1)+(m+2)) ((Qg (i3.U') ((i2.k - 1)+(m+2)) - i3.br)))).map Qx++rest) (T':=3) rfl Qp .here (Ze (by first | omega | (simp only [List.length_set];omega))))<|QA (QV rfl rfl rfl)<|QE<|QC ?_
      refine QR rfl (fun hc=>?_) (fun hc=>?_)
      ·
       have hneg:Qg i3.U' ((i2.k - 1)+(m+2)) - i3.br<0:=by have:=dec_t hc;rw [htp] at this;exact this
       refine J_sr<|JS_mv rfl<|QA (J6 rfl rfl (by omega))<|JS_as rfl<|JS_nt<|J_sr<|JS_as rfl<|JS_nt<|QG<|J_sr<|JS_as rfl<|JS_nt<|Qa<|Jz (ι:=dx (i3.U'.set ((i2.k - 1)+(m+2)) (Qg i3.U' ((i2.k - 1)+(m+2)) - i3.br)) l55 (i2.k - 1) (m+2)) [(8,_),(9,_),(10,_),(11,_),(12,_),(13,_),(14,_)] (fun i4=>[(19,.int .i64 (i4.c)),(20,.int .i64 ((i4.i:Nat):Int))]) (fun i4=>[(bu,.cells (i4.U'.map Qx++rest).toArray 3 (0,0)),(bq,.cells (i2.Q.map Qx).toArray 3 (0,0))]) (fun i4 F=>True) (fun i4=>m+2 - i4.i) (⟨0,_,0,Nat.zero_le _,Bp.start hS.dg⟩) ⟨rfl,rfl,rfl,rfl,rfl,rfl,rfl,trivial⟩ ⟨rfl,rfl,trivial⟩ subl_r (fun _ _=>trivial) (fun i4=>?_)
       simp only [List.cons_append,List.nil_append]
       have hle4:=i4.le
       have lU4:=i4.h.len
       rw [List.length_set] at lU4
       have c40:=i4.h.c0
       have c41:=i4.h.c1
       refine QG<|J_sr<|JS_mv rfl<|JS_mv rfl<|QA (QV rfl rfl rfl)<|QE<|QC ?_
       refine QR rfl (fun hc=>?_) (fun hc=>?_)
       ·
        have hi4:i4.i<m+2:=by have:=dec_t hc;omega
        have bu5:=i4.h.Qg VV hi4
        have bv5:=d55.Qg JE i4.i
        rw [h9] at bu5 bv5
        have hd4:=ZR i4.h.hi (Nat.le_refl _)
        refine QP<|QC<|QG<|Qa<|QG<|JN subl_r mixed (by kernel_rfl)<|QK (QD rfl)<|QK (QD rfl)<|QK (QD rfl)<|QK (Qu rfl rfl (by omega))<|QK (Qv (i:=(i2.k - 1)+i4.i) rfl (congrArg (fun z:Int=>some (Value.int .i64 z)) (by omega)) Qf Qp (by omega))<|QK (YG (c:=(i4.U').map Qx++rest) (T':=3) rfl Qp .here (Ze (by first | omega | (simp only [List.length_set];omega))))<|QK (QD rfl)<|QK (QD rfl)<|QK (Ja (n:=(m+2)) (i4.i) (fun F ⟨⟨⟨⟨⟨⟨⟨⟨⟨⟨hA,hB⟩,_⟩,hs52⟩,⟨h55,h55p⟩⟩,⟨h61,h61p⟩⟩,_⟩,_⟩,hg89⟩,_⟩,_⟩=>(h55).1) rfl rfl Qf Qp (by omega))<|QK (Jk (n:=(m+2)) ((i4.i)*1) (fun F ⟨⟨⟨⟨⟨⟨⟨⟨⟨⟨hA,hB⟩,_⟩,hs52⟩,⟨h55,h55p⟩⟩,⟨h61,h61p⟩⟩,_⟩,_⟩,hg89⟩,_⟩,_⟩=>(h55).1) (by omega) rfl Qp (JO (o:=l55) (by omega)))<|QK (Qu rfl rfl (by omega))<|QK (QD rfl)<|QK (Qu rfl rfl (by omega))<|QK (QF rfl)<|Q4<|QC<|J_sr<|JS_mv rfl ?_
        refine JS_mv rfl<|JS_mv rfl<|QA (Qu rfl rfl (by omega))<|JS_mv rfl<|QA (Kc rfl rfl (by omega) (by omega))<|QA (Qv (i:=(i2.k - 1)+i4.i) rfl (congrArg (fun z:Int=>some (Value.int .i64 z)) (by omega)) Qf Qp (by omega))<|QN (vs:=[_]) rfl rfl rfl Qp rfl .here (K4 (by first | omega | (simp only [List.length_set];omega)) ((((Qg (i4.U') ((i2.k - 1)+i4.i)+Qg l55 (i4.i))+i4.c)%1000000000))) ⟨rfl,trivial⟩<|JS_nt<|QB<|JS_mv rfl<|QA (Wb rfl rfl (by omega) (by omega) (by omega))<|JS_as rfl<|QE<|Qk<|QC<|QB<|JS_mv rfl<|QA (Qu rfl rfl (by omega))<|JS_as rfl<|QE ?_
        exact Qo (⟨i4.i+1,((i4.U').set ((i2.k - 1)+i4.i) ((((Qg (i4.U') ((i2.k - 1)+i4.i)+Qg l55 (i4.i))+i4.c)%1000000000))),(((Qg (i4.U') ((i2.k - 1)+i4.i)+Qg l55 (i4.i))+i4.c) / 1000000000),by omega,i4.h.step hi4 (by rw [List.length_set];omega) (by rw [h9];omega) (by omega) (by rw [h9,← hd4];omega)⟩) (by show m+2 - (i4.i+1)<m+2 - i4.i;omega) ⟨rfl,rfl,rfl,rfl,rfl,rfl,rfl,rfl,rfl,trivial⟩ subl_r (fun F h=>⟨h.1,trivial⟩)
       ·
        have hi4:i4.i=m+2:=by have:=dec_f hc;omega
        refine Q5 ?_
        repeat (first | refine Qd ?_ | refine QW (by rfl) ?_)
        refine Qe<|QC ?_
        have hA4:Bp B9 (i3.U'.set ((i2.k - 1)+(m+2)) (Qg i3.U' ((i2.k - 1)+(m+2)) - i3.br)) l55 (i2.k - 1) (m+2) (m+2) i4.U' i4.c:=by have:=i4.h;rw [hi4] at this;exact this
        have hd5:Qg i4.U' ((i2.k - 1)+(m+2))=Qg i3.U' ((i2.k - 1)+(m+2)) - i3.br:=by rw [ZR hA4.hi (Nat.le_refl _)];exact htp
        have hS5:R3 B9 i2.U l55 (i2.k - 1) (m+2) t89 (i3.U'.set ((i2.k - 1)+(m+2)) (Qg i3.U' ((i2.k - 1)+(m+2)) - i3.br)) (Qg i4.U' ((i2.k - 1)+(m+2))):=by rw [hd5];exact hS
        obtain ⟨g1,g2,g3,g4,g5⟩:=hA4.xv VV hS5 i2.du d55 l55l hz1 (by omega) (by rw [hd5];exact hneg) t2
        have lU4:=i4.h.len
        rw [List.length_set] at lU4
        have b5:Qg i4.U' ((i2.k - 1)+(m+2))=Qg i3.U' ((i2.k - 1)+(m+2)) - i3.br:=hd5
        refine QB<|JS_mv rfl<|JS_mv rfl<|JS_mv rfl<|QA (Qu rfl rfl (by omega))<|JS_mv rfl<|JS_mv rfl<|JS_mv rfl<|QA (Qu rfl rfl (by omega))<|QA (Qv (i:=(i2.k - 1)+(m+2)) rfl (congrArg (fun z:Int=>some (Value.int .i64 z)) (by omega)) Qf Qp (by omega))<|QA (YG (c:=(i4.U').map Qx++rest) (T':=3) rfl Qp .here (Ze (by first | omega | (simp only [List.length_set];omega))))<|JS_mv rfl<|QA (Qu rfl rfl (by omega))<|QA (Qv (i:=(i2.k - 1)+(m+2)) rfl (congrArg (fun z:Int=>some (Value.int .i64 z)) (by omega)) Qf Qp (by omega))<|QN (vs:=[_]) rfl rfl rfl Qp rfl .here (K4 (by first | omega | (simp only [List.length_set];omega)) ((Qg (i4.U') ((i2.k - 1)+(m+2))+i4.c))) ⟨rfl,trivial⟩<|JS_nt<|QB<|JS_mv rfl<|JS_mv rfl<|JS_mv rfl<|QA (Qv (i:=(i2.k - 1)) rfl (congrArg (fun z:Int=>some (Value.int .i64 z)) (by omega)) Qf Qp (by omega))<|QN (vs:=[_]) rfl rfl rfl Qp rfl (.there .here) (GM (by first | omega | (simp only [List.length_set];omega)) ((t89 - 1))) ⟨rfl,trivial⟩<|QE<|Qk ?_
        refine QC<|QB<|JS_mv rfl<|QA (J6 rfl rfl (by omega))<|JS_as rfl<|QE ?_
        exact Qo (i2.next hk0 (by omega) (t:=t89 - 1) g4 (by omega) g1 g2 g3 g5) (by show i2.k - 1<i2.k;omega) ⟨rfl,rfl,rfl,rfl,rfl,rfl,trivial⟩ subl_r (fun F h=>⟨h.1.1.1.1,trivial⟩)
      ·
       have hneg:0≤Qg i3.U' ((i2.k - 1)+(m+2)) - i3.br:=by have:=dec_f hc;rw [htp] at this;omega
       obtain ⟨g1,g2,g3⟩:=hS.xv VV (by omega) hneg (by rw [h9];omega) t3
       refine QP<|QC<|QB<|JS_mv rfl<|JS_mv rfl<|JS_mv rfl<|QA (Qv (i:=(i2.k - 1)) rfl (congrArg (fun z:Int=>some (Value.int .i64 z)) (by omega)) Qf Qp (by omega))<|QN (vs:=[_]) rfl rfl rfl Qp rfl (.there .here) (GM (by first | omega | (simp only [List.length_set];omega)) (t89)) ⟨rfl,trivial⟩<|QE<|Qk<|QC<|QB<|JS_mv rfl<|QA (J6 rfl rfl (by omega))<|JS_as rfl<|QE ?_
       exact Qo (i2.next hk0 (by omega) (t:=t89) t0 t1 g1 g2 g3 hS.len) (by show i2.k - 1<i2.k;omega) ⟨rfl,rfl,rfl,rfl,rfl,rfl,trivial⟩ subl_r (fun F h=>⟨h.1.1.1,trivial⟩)
    ·
     have hk0:i2.k=0:=by have:=dec_f hc;omega
     refine Q5 ?_
     repeat (first | refine Qd ?_ | refine QW (by rfl) ?_)
     refine Qe<|QC<|QG ?_
     obtain ⟨s1,s2⟩:=i2.stop hk0 db da e55 f2 hb d55 l55l
     have lt40:=Xq (i2.U.take (m+2))
     rw [List.length_take] at lt40
     refine NQ (b:=bu) .here<|NQ (b:=bq) .here<|JN subl_r mixed (by kernel_rfl)<|QK (QD rfl)<|QK (QD rfl)<|QK (LV (m+2) rfl rfl rfl Qf Qp (by omega))<|QY rfl (fun w F hF ⟨⟨⟨⟨⟨⟨⟨⟨⟨hA,hB⟩,_⟩,hs52⟩,⟨h55,h55p⟩⟩,⟨h61,h61p⟩⟩,_⟩,_⟩,hu40⟩,hq40⟩=>We hF (r:=⟨some ⟨bu,0,none⟩,m+2,cu⟩) ((JP.own hu40 i2.lu hcu).take (by omega)) (by rw [List.length_take];omega)) (fun c196=>QK (QD rfl)<|QK (Ja (n:=1) (0) (fun F ⟨⟨⟨⟨⟨⟨⟨⟨⟨hA,hB⟩,_⟩,hs52⟩,⟨h55,h55p⟩⟩,⟨h61,h61p⟩⟩,_⟩,_⟩,hu40⟩,hq40⟩=>(Q9.of (n:=1) (sz:=1) hs52 rfl)) rfl (congrArg (fun z:Int=>some (Value.int .i64 z)) (by omega)) Qf Qp (by omega))<|QK (Jk (n:=1) ((0)*1) (fun F ⟨⟨⟨⟨⟨⟨⟨⟨⟨hA,hB⟩,_⟩,hs52⟩,⟨h55,h55p⟩⟩,⟨h61,h61p⟩⟩,_⟩,_⟩,hu40⟩,hq40⟩=>(Q9.of (n:=1) (sz:=1) hs52 rfl)) (by omega) rfl Qp rfl)<|QY rfl (fun w F hF ⟨⟨⟨⟨⟨⟨⟨⟨⟨⟨hA,hB⟩,_⟩,hs52⟩,⟨h55,h55p⟩⟩,⟨h61,h61p⟩⟩,_⟩,_⟩,hu40⟩,hq40⟩,h196⟩=>Di hF (a:=Q2 (i2.U.take (m+2))) (ra:=⟨some ⟨bu,0,none⟩,(Q2 (i2.U.take (m+2))).length,cu⟩) h196 ((i2.du.take _).Q2) (by omega) (f2) (f3)) (fun c200=>QK (QD rfl)<|QK (QM rfl rfl)<|QK (QM rfl rfl)<|QK (QF rfl)<|QK (QF rfl)<|Q4<|QC<|J_sr<|JS_mv rfl<|QI rfl (fun w F hF ⟨⟨⟨⟨⟨⟨⟨⟨⟨⟨⟨hA,hB⟩,_⟩,hs52⟩,⟨h55,h55p⟩⟩,⟨h61,h61p⟩⟩,_⟩,_⟩,hu40⟩,hq40⟩,h196⟩,h200⟩=>We hF (r:=⟨some ⟨bq,0,none⟩,a.length+1 - (m+2),a.length+1 - (m+2)⟩) (JP.gv hq40 i2.lq (Nat.le_refl _)) (by omega)) (fun c204=>JS_mv rfl<|JS_as rfl<|JS_as rfl ?_)))
     refine JS_nt<|QT ?_
     exact JY (((⟨some ⟨bq,0,none⟩,(Q2 i2.Q).length,a.length+1 - (m+2)⟩,Q2 i2.Q),(c200.1.1,c200.1.2)):(Sr×List Int)×(Sr×List Int)) rfl (.tmp rfl (.tmp rfl .nil)) (rfl) (fun F ⟨⟨⟨⟨⟨⟨⟨⟨⟨⟨⟨⟨hA,hB⟩,_⟩,hs52⟩,⟨h55,h55p⟩⟩,⟨h61,h61p⟩⟩,_⟩,_⟩,hu40⟩,hq40⟩,h196⟩,h200⟩,h204⟩=>⟨⟨h204,i2.dq.Q2,Xa _,by show dv B9 (Q2 i2.Q)=_;rw [J7];exact s1⟩,h200.1,h200.2.1,h200.2.2.1,LP (by omega) (by rw [← s2,← J7];exact h200.2.2.2.2.2.1) h200.2.2.2.1 h200.2.2.2.2.1⟩)
end
section
open Go.RowKit Ig
structure Ri where
 neg:Bool
 r:Sr
 l:List Int
@[reducible] def Ri.v (x:Ri):Value:=.agg #[.bool x.neg,.slice x.r.q x.r.n x.r.cap]
def G9 (neg:Bool) (l:List Int):Int:=if neg=true then -dv B9 l else dv B9 l
def VP (F:Gs) (x:Ri) (z:Int):Prop:=JP F x.r x.l∧DG B9 x.l∧NZ x.l∧z=G9 x.neg x.l∧(x.neg=true→0<dv B9 x.l)
theorem VP.le {F F':Gs} {x:Ri} {z:Int} (h:VP F x z) (k:Gs.le F F'):VP F' x z:=⟨h.1.le k,h.2⟩
abbrev G2 (P:Program) (f:FuncId) (args:List Value) (w:World) (F:Gs) (z:Int):Prop:=QS P f args w F Ri.v (fun x F=>VP F x z)
structure Vw (neg:Bool) (l:List Int) (z:Int):Prop where
 dg:DG B9 l
 nz:NZ l
 e:z=G9 neg l
 ng:neg=true→0<dv B9 l
theorem VP.p {F:Gs} {x:Ri} {z:Int} (h:VP F x z):Vw x.neg x.l z:=⟨h.2.1,h.2.2.1,h.2.2.2.1,h.2.2.2.2⟩
theorem Vw.v0 {neg:Bool} {l:List Int} {z:Int} (h:Vw neg l z):0≤dv B9 l:=Qs JE h.dg
theorem Vw.abs {neg:Bool} {l:List Int} {z:Int} (h:Vw neg l z):(z.natAbs:Int)=dv B9 l:=by
 have:=h.v0
 rw [h.e,G9];split<;>omega
theorem dF {l:List Int} (h:DG B9 l) (z:NZ l):l.length≤sz (dv B9 l):=by
 rcases Nat.eq_zero_or_pos l.length with g | g
 ·omega
 ·have h1:=BV JE h z (by intro e;rw [e] at g;simp at g)
  have h2:=Gl (dv B9 l)
  have h3:=Qs JE h
  rcases Nat.lt_or_ge (sz (dv B9 l)) l.length with q | q
  ·exfalso
   have h4:(2:Int)^(l.length - 1)≤B9^(l.length - 1):=by
    have:∀ n:Nat,(2:Int)^n≤B9^n:=by
     intro n
     induction n with
     |zero=>simp
     |succ n ih =>
      rw [Int.pow_succ,Int.pow_succ]
      exact Int.mul_le_mul ih (by decide) (by decide) (Int.le_of_lt (pow_pos JE n))
    exact this _
   have h5:(2:Int)^sz (dv B9 l)≤2^(l.length - 1):=KB (by decide) (by omega)
   have h6:((dv B9 l).natAbs:Int)<((2^sz (dv B9 l):Nat):Int):=Int.ofNat_lt.2 h2
   rw [Int.natCast_pow] at h6
   have:((2:Nat):Int)=2:=rfl
   rw [this] at h6
   omega
  ·exact q
theorem Vw.len {neg:Bool} {l:List Int} {z:Int} (h:Vw neg l z):l.length≤sz z:=by
 have:=dF h.dg h.nz
 have e:sz (dv B9 l)=sz z:=by
  rw [← h.abs];unfold sz;simp
 omega
theorem Vw.neg {neg:Bool} {l:List Int} {z:Int} (h:Vw neg l z):neg=decide (z<0):=by
 have h0:=h.v0
 cases neg with
 |true=>have:=h.ng rfl;have e:=h.e;simp only [G9,if_true] at e;symm;rw [decide_eq_true_eq];omega
 |false=>have e:=h.e;simp only [G9] at e;symm;rw [decide_eq_false_iff_not];simp at e;omega
theorem Vw.zero {neg:Bool} {l:List Int} {z:Int} (h:Vw neg l z):l=[]↔z=0:=by
 have:=Yh VV h.dg h.nz
 have e:=h.abs
 rw [← this];omega
theorem Iw {l:List Int} (h:DG B9 l):(0<(Q2 l).length)↔0<dv B9 l:=by
 have h1:=Yh VV h.Q2 (Xa l)
 rw [J7] at h1
 have h2:=Qs JE h
 rw [← List.length_eq_zero_iff] at h1
 omega
theorem Zy {w:World} {F:Gs} {r:Sr} {l:List Int} {neg:Bool} (hF:Fits F w) (hR:JP F r l) (dg:DG B9 l) (hl:l.length≤1000000000):G2 Tryz.prog 233 [.bool neg,r.v] w F (G9 neg l):=by
 obtain ⟨q,n,c⟩:=r
 have hn:=hR.2.1
 dsimp only [Sr.v] at hn ⊢
 have hlz:=Xq l
 have htp:=Iw dg
 have hv0:=Qs JE dg
 refine QS.intro (G:=fun F=>JP F ⟨q,n,c⟩ l) Tryz.func233 rfl (by rfl) rfl rfl hF (fun F' hF'=>hR.le hF')<|J_sr<|Qb Z6 (fun b4=>JS_nt<|J_sr<|JS_mv rfl<|QI rfl (fun w F hF hR=>We hF (r:=⟨q,n,c⟩) hR (hl)) (fun c6=>JS_as rfl<|JS_nt<|J_sr<|JS_mv rfl<|JS_mv rfl ?_))
 refine Qn (t:=8) rfl (fun hb8=>?_) (fun hb8=>?_)
 ·
  refine QL rfl rfl<|JS_mv rfl<|QL rfl rfl<|QA (Ql rfl Qf)<|QL rfl rfl<|QA (QV rfl rfl rfl)<|QA (Qi rfl rfl rfl)<|JS_mv rfl<|QA (Qy rfl Lp Z6 (.cons (vs:=[_]) rfl rfl rfl (.here .nil) (.cons (vs:=[_]) rfl rfl rfl (.skip (.here .nil)) .nil)))<|QN (vs:=[_,_]) rfl rfl rfl JH rfl .here (.here (.here .nil)) ⟨rfl,rfl,trivial⟩<|JS_nt<|QT ?_
  exact QQ ((⟨decide ((((Q2 l).length:Nat):Int)>0),⟨q,(Q2 l).length,c⟩,Q2 l⟩:Ri)) rfl (.JU (c:=[_,_]) rfl JH .here .nil) (rfl) (fun F ⟨hR,h6⟩=>⟨h6,dg.Q2,Xa _,by show G9 neg l=G9 (decide ((((Q2 l).length:Nat):Int)>0)) (Q2 l);rw [G9,G9,J7];cases neg<;>simp_all<;>omega,fun hh=>by show 0<dv B9 (Q2 l);rw [J7];simp_all⟩)
 ·
  refine QO rfl rfl rfl<|QO rfl rfl rfl<|QO rfl rfl rfl<|QA (Qh rfl rfl rfl)<|JS_mv rfl<|QA (Qy rfl Lp Z6 (.cons (vs:=[_]) rfl rfl rfl (.here .nil) (.cons (vs:=[_]) rfl rfl rfl (.skip (.here .nil)) .nil)))<|QN (vs:=[_,_]) rfl rfl rfl JH rfl .here (.here (.here .nil)) ⟨rfl,rfl,trivial⟩<|JS_nt<|QT ?_
  exact QQ ((⟨false,⟨q,(Q2 l).length,c⟩,Q2 l⟩:Ri)) rfl (.JU (c:=[_,_]) rfl JH .here .nil) (rfl) (fun F ⟨hR,h6⟩=>⟨h6,dg.Q2,Xa _,by show G9 neg l=G9 false (Q2 l);rw [G9,G9,J7];cases neg<;>simp_all<;>omega,fun hh=>by show 0<dv B9 (Q2 l);rw [J7];simp_all⟩)
theorem ju {x y:Int} (h:¬ ZO x y≥0):x≤y:=by
 unfold ZO at h;split at h
 ·omega
 ·split at h<;>omega
theorem F2 {a b:Int} (hb:0<b):(-a) / b=if 0<a%b then -(a / b+1) else -(a / b):=by
 have h1:=Int.emod_add_mul_ediv a b
 have h2:=Int.emod_nonneg a (Int.ne_of_gt hb)
 have h3:=Int.emod_lt_of_pos a hb
 split
 ·refine Xo hb ?_ ?_
  ·rw [Int.neg_mul,Int.add_mul,Int.one_mul,Int.mul_comm (a / b)];omega
  ·rw [Int.add_mul,Int.one_mul,Int.neg_mul,Int.add_mul,Int.one_mul,Int.mul_comm (a / b)];omega
 ·refine Xo hb ?_ ?_
  ·rw [Int.neg_mul,Int.mul_comm (a / b)];omega
  ·rw [Int.add_mul,Int.one_mul,Int.neg_mul,Int.mul_comm (a / b)];omega
end
section
open Go.RowKit Ig
theorem Ie {w:World} {F:Gs} {x y:Ri} {zx zy:Int} (hF:Fits F w) (hx:VP F x zx) (hy:VP F y zy) (hp:0<zy) (hzx:sz zx≤1000000) (hzy:sz zy≤1000000):G2 Tryz.prog 193 [x.v,y.v] w F (zx / zy):=by
 obtain ⟨xn,⟨xq,xm,xc⟩,xl⟩:=x
 have px:=hx.p
 have lx:=px.len
 have kx:=hx.1.2.1
 have vx:=px.v0
 dsimp only at px lx kx vx
 obtain ⟨yn,⟨yq,ym,yc⟩,yl⟩:=y
 have py:=hy.p
 have ly:=py.len
 have ky:=hy.1.2.1
 have vy:=py.v0
 dsimp only at py ly ky vy
 dsimp only [Ri.v]
 have hyv:dv B9 yl=zy:=by have:=py.abs;omega
 have hd0:0<dv B9 yl:=by omega
 refine QS.intro (G:=fun F=>VP F ⟨xn,⟨xq,xm,xc⟩,xl⟩ zx∧VP F ⟨yn,⟨yq,ym,yc⟩,yl⟩ zy) Tryz.func193 rfl (by rfl) rfl rfl hF (fun F' hF'=>⟨hx.le hF',hy.le hF'⟩)<|J_sr<|Qw rfl (vs:=[_,_]) rfl (fun b2=>Qw rfl (vs:=[_,_]) rfl (fun b3=>Qb Z6 (fun b4=>JS_nt<|J_sr<|QA (QH rfl Z1 Qz)<|QA (Qj rfl Qz (.there (.there .here)) (.skip (.here .nil)))<|QA (QH rfl Z1 Qz)<|QA (Qj rfl Qz (.there .here) (.skip (.here .nil)))<|QI rfl (fun w F hF ⟨hx,hy⟩=>GJ hF (a:=xl) (b:=yl) (ra:=⟨xq,xm,xc⟩) (rb:=⟨yq,ym,yc⟩) hx.1 (hy.1) (px.dg) (py.dg) (px.nz) (py.nz) (hd0) (by omega) (by omega)) (fun c12=>JS_mv rfl<|QA (QM rfl rfl)<|QA (QM rfl rfl)<|JS_as rfl<|JS_as rfl<|JS_nt<|QG<|QG<|Xz _ (fun w F hF h=>And.intro h.2.1.2 (And.intro h.2.2.2 (And.intro h.2.1.1.2.1 h.2.2.1.2.1))) (fun p12=>?_)))))
 obtain ⟨p12,q12,n12,o12⟩:=p12
 have lq:c12.1.2.length≤xl.length:=Ww p12.1 px.dg p12.2.1 (by rw [p12.2.2];exact Int.ediv_le_self _ vx)
 have hr0:(0<c12.2.1.n)↔0<dv B9 xl%dv B9 yl:=by
  have h1:=Yh VV q12.1 q12.2.1
  have h2:=Qs JE q12.1
  rw [q12.2.2] at h1 h2
  rw [← List.length_eq_zero_iff] at h1
  omega
 have hf:=F2 (a:=dv B9 xl) hd0
 refine QB<|QA (QH rfl KO Vy)<|QA (Qj rfl Vy (.there (.there .here)) (.here .nil))<|JS_mv rfl ?_
 refine Qn (t:=17) rfl (fun hb17=>?_) (fun hb17=>?_)
 ·
  refine QL rfl rfl<|JS_mv rfl<|QL rfl rfl<|QA (Ql rfl Qf)<|QL rfl rfl<|QA (QV rfl rfl rfl)<|QA (Qi rfl rfl rfl)<|QE<|QC ?_
  refine QR rfl (fun hc=>?_) (fun hc=>?_)
  ·
   refine QB<|JS_mv rfl<|QU rfl (Q6 Qf) Qp VQ rfl rfl (fun b23=>?_)
   refine QI rfl (fun w F hF ⟨⟨⟨hx,hy⟩,h12⟩,hs23⟩=>EV hF (a:=c12.1.2) (ra:=c12.1.1) (rb:=⟨some ⟨b23,0,none⟩,1,1⟩) h12.1.1 (JP.one hs23) (p12.1) (DG.cons (by decide) (by decide) (DG.nil _)) (by omega) (by first | omega | (simp;done) | (simp;omega))) (fun c24=>?_);rcases c24 with ⟨v24,l24⟩;dsimp only
   refine JK _ (fun w F hF ⟨⟨⟨⟨hx,hy⟩,h12⟩,hs23⟩,⟨h24,h24p⟩⟩=>And.intro h24.2 h24p) (fun p24=>JS_as rfl<|JS_nt<|J_sr<|QA (QH rfl KO Vy)<|QA (Qj rfl Vy (.there (.there .here)) (.here .nil))<|JS_mv rfl ?_)
   have m24:=p24.2.2.2
   simp only [List.length_singleton] at m24
   have eqn:zx / zy=G9 xn l24:=by
    have e24:=p24.2.2.1
    rw [Rr,p12.2.2] at e24
    rw [px.e,hb17,← hyv];unfold G9;simp only [if_true]
    rw [hf,if_pos (by have:=dec_t hc;omega),e24]
   refine QI rfl (fun w F hF ⟨⟨⟨⟨hx,hy⟩,h12⟩,hs23⟩,⟨h24,h24p⟩⟩=>Zy hF (r:=v24) (l:=l24) (neg:=xn) h24 (p24.2.1) (by omega)) (fun c28=>QN (vs:=[_,_]) rfl rfl rfl JH rfl .here (.here (.here .nil)) ⟨rfl,rfl,trivial⟩<|JS_nt<|QT ?_)
   exact QQ (c28) rfl (.JU (c:=[_,_]) rfl JH .here .nil) (rfl) (fun F ⟨⟨⟨⟨⟨hx,hy⟩,h12⟩,hs23⟩,⟨h24,h24p⟩⟩,h28⟩=>(by rw [eqn];exact h28))
  ·
   refine QP<|QC<|J_sr<|QA (QH rfl KO Vy)<|QA (Qj rfl Vy (.there (.there .here)) (.here .nil))<|JS_mv rfl ?_
   have eqn:zx / zy=G9 xn c12.1.2:=by
    rw [px.e,hb17,← hyv];unfold G9;simp only [if_true]
    rw [hf,if_neg (by have:=dec_f hc;omega),p12.2.2]
   refine QI rfl (fun w F hF ⟨⟨hx,hy⟩,h12⟩=>Zy hF (r:=c12.1.1) (l:=c12.1.2) (neg:=xn) h12.1.1 (p12.1) (by omega)) (fun c28=>QN (vs:=[_,_]) rfl rfl rfl JH rfl .here (.here (.here .nil)) ⟨rfl,rfl,trivial⟩<|JS_nt<|QT ?_)
   exact QQ (c28) rfl (.JU (c:=[_,_]) rfl JH .here .nil) (rfl) (fun F ⟨⟨⟨hx,hy⟩,h12⟩,h28⟩=>(by rw [eqn];exact h28))
 ·
  refine QO rfl rfl rfl<|QO rfl rfl rfl<|QO rfl rfl rfl<|QA (Qh rfl rfl rfl)<|JS_nt<|Z8 rfl<|QP<|QC<|J_sr<|QA (QH rfl KO Vy)<|QA (Qj rfl Vy (.there (.there .here)) (.here .nil))<|JS_mv rfl ?_
  have eqn:zx / zy=G9 xn c12.1.2:=by
   rw [px.e,hb17,← hyv];unfold G9;simp only [Bool.false_eq_true,if_false]
   rw [p12.2.2]
  refine QI rfl (fun w F hF ⟨⟨hx,hy⟩,h12⟩=>Zy hF (r:=c12.1.1) (l:=c12.1.2) (neg:=xn) h12.1.1 (p12.1) (by omega)) (fun c28=>QN (vs:=[_,_]) rfl rfl rfl JH rfl .here (.here (.here .nil)) ⟨rfl,rfl,trivial⟩<|JS_nt<|QT ?_)
  exact QQ (c28) rfl (.JU (c:=[_,_]) rfl JH .here .nil) (rfl) (fun F ⟨⟨⟨hx,hy⟩,h12⟩,h28⟩=>(by rw [eqn];exact h28))
structure pJ (A B:Int) where
 ra:Sr
 rb:Sr
 a:List Int
 b:List Int
 da:DG B9 a
 db:DG B9 b
 za:NZ a
 zb:NZ b
 la:a.length≤10000000
 lb:b.length≤10000000
 nb:b.length=rb.n
 h:Int.gcd (dv B9 a) (dv B9 b)=Int.gcd A B
end
section
open Go.RowKit Ig
section
variable {P:Program} {N:Nat} {m:Sl} {S:World→Prop} {ty:TypeId}
theorem LX {T yT:TypeId} {x y:Operand} {a b:Int} (hx:ev m x=some (.int .i64 a)) (hy:ev m y=some (.int .i64 b)) (h:1<b) (h0 : -9223372036854775808≤a) (h1:a≤9223372036854775807):Qt P N m S (.binOp .quo T x y yT) ty (.int .i64 (a.tdiv b)):=by
 have:=Ih (P:=P) (N:=N) (m:=m) (S:=S) (ty:=ty) (T:=T) (yT:=yT) hx hy (by omega)
 have e:=Int.natAbs_tdiv a b
 have e2:a.natAbs.div b.natAbs≤a.natAbs:=Nat.div_le_self _ _
 have e3:a.natAbs.div b.natAbs≤a.natAbs / 2:=Nat.div_le_div_left (by omega) (by decide)
 rw [IntWalk.i64_in _ (by omega)] at this;exact this
end
def RD (neg:Bool) (m:Nat):Int:=if neg=true then -(m:Int) else(m:Int)
theorem CQ (neg:Bool) (m:Nat):(RD neg m).tmod 1000000000=RD neg (m%1000000000):=by
 unfold RD;split
 ·rw [Int.neg_tmod];exact congrArg Neg.neg (Int.ofNat_tmod m 1000000000).symm
 ·exact(Int.ofNat_tmod m 1000000000).symm
theorem Ab (neg:Bool) (m:Nat):(RD neg m).tdiv 1000000000=RD neg (m / 1000000000):=by
 unfold RD;split
 ·rw [Int.neg_tdiv];exact congrArg Neg.neg (Int.ofNat_tdiv m 1000000000).symm
 ·exact(Int.ofNat_tdiv m 1000000000).symm
theorem LF (n:Int):n=RD (decide (n<0)) n.natAbs:=by
 unfold RD;by_cases h:n<0
 ·simp [h];omega
 ·simp [h];omega
theorem By (neg:Bool) (m:Nat):RD neg m=m∨RD neg m = -(m:Int):=by
 unfold RD;split
 ·exact .inr rfl
 ·exact .inl rfl
structure dR (M:Nat) where
 m:Nat
 out:List Int
 v:Value
 ob:List (Nat×Obj)
 le:m≤M
 l3:out.length≤3
 dg:DG B9 out
 h:dv B9 out+B9^out.length*(m:Int)=M
 hr:Q3 3 1 v out.length (out.map Qx) ob
theorem dR.two {M:Nat} (i:dR M) (hM:M≤9223372036854775808) (h0:0<i.m):i.out.length≤2:=by
 rcases Nat.lt_or_ge 2 i.out.length with g | g
 ·exfalso
  have e:i.out.length=3:=by have:=i.l3;omega
  have h:=i.h
  have h1:=Qs JE i.dg
  rw [e] at h
  have h2:B9^3*1≤B9^3*(i.m:Int):=Int.mul_le_mul_of_nonneg_left (by omega) (by decide)
  have h3:B9^3=1000000000000000000000000000:=by decide
  rw [h3] at h2 h
  omega
 ·exact g
theorem AR {l:List Int} {m M:Nat} (h:dv B9 l+B9^l.length*(m:Int)=M):dv B9 (l++[((m%1000000000:Nat):Int)])+B9^(l++[((m%1000000000:Nat):Int)]).length*((m / 1000000000:Nat):Int)=M:=by
 rw [XN,List.length_append,List.length_singleton,Int.pow_succ,Int.mul_assoc,Int.add_assoc,← Int.mul_add,← h]
 have e:((m%1000000000:Nat):Int)+B9*((m / 1000000000:Nat):Int)=m:=by
  have h9:B9=1000000000:=rfl
  rw [h9];omega
 rw [e]
theorem E6 {w:World} {F:Gs} {n:Int} (hF:Fits F w) (hn : -9223372036854775808≤n∧n≤9223372036854775807):G2 Tryz.prog 176 [.int .i64 n] w F n:=by
 refine QS.intro (G:=fun F=>True) Tryz.func176 rfl (by rfl) rfl rfl hF (fun F' hF'=>trivial)<|J_sr<|Qb Z6 (fun b2=>JS_nt<|J_sr<|JS_as rfl<|JS_nt<|J_sr<|JS_mv rfl<|QA (QV rfl rfl rfl)<|JS_as rfl<|JS_nt<|QG<|Qa<|Jz (ι:=dR n.natAbs) [(2,_),(4,_)] (fun i=>[(0,.int .i64 (RD (decide (n<0)) i.m)),(3,i.v)]) (fun i=>(b2,.cells [.bool false,.slice none 0 0].toArray 143 (0,0))::i.ob) (fun i F=>True) (fun i=>i.m) (⟨n.natAbs,[],.slice none 0 0,[],Nat.le_refl _,by simp,DG.nil _,by simp,.nil⟩) ⟨rfl,rfl,trivial⟩ ⟨congrArg (fun z:Int=>some (Value.int .i64 z)) (LF n),rfl,trivial⟩ subl_r (fun _ _=>trivial) (fun i=>?_))
 simp only [List.cons_append,List.nil_append]
 have hle:=i.le
 have hM:n.natAbs≤9223372036854775808:=by omega
 have hcs:=By (decide (n<0)) i.m
 have hsr : -9223372036854775808≤RD (decide (n<0)) i.m∧RD (decide (n<0)) i.m≤9223372036854775807:=by unfold RD;split<;>rename_i g<;>simp at g<;>omega
 refine QG<|J_sr<|JS_mv rfl<|QA (QV rfl rfl rfl)<|QE<|QC ?_
 refine QR rfl (fun hc=>?_) (fun hc=>?_)
 ·
  have h9:B9=1000000000:=rfl
  have hm0:0<i.m:=by
   rcases Nat.eq_zero_or_pos i.m with g | g
   ·rw [g] at hc;cases hd:decide (n<0)<;>simp [RD,hd] at hc
   ·exact g
  have l2:=i.two hM hm0
  refine QP<|QC<|Qa<|J_sr<|JS_mv rfl<|QA (jP rfl rfl (by decide)) ?_
  rw [CQ]
  refine JS_as rfl<|JS_nt<|QG<|J_sr<|JS_mv rfl<|QA (QV rfl rfl rfl)<|QE<|QC ?_
  refine QR rfl (fun hc=>?_) (fun hc=>?_)
  ·
   have e1:RD (decide (n<0)) (i.m%1000000000) = -(((i.m%1000000000):Nat):Int):=by
    have:=dec_t hc
    rcases By (decide (n<0)) (i.m%1000000000) with g | g<;>omega
   rw [e1]
   refine QB<|JS_mv rfl<|QA (J6 rfl rfl (by omega))<|JS_as rfl<|JS_nt<|J_sr<|JS_mv rfl<|JS_mv rfl<|QU rfl (Q6 Qf) Qp VQ rfl rfl (fun b18=>X7 (bs':=[(b2,.cells [.bool false,.slice none 0 0].toArray 143 (0,0))]++i.ob) (List.Perm.refl _) ?_)
   refine VI (ob:=i.ob) (k:=1) (sz:=1) (news:=[.int .i64 (0 - -(((i.m%1000000000):Nat):Int))]) rfl rfl Qf Qp VQ rfl DF i.hr (Src.row (off:=0) (fun F ⟨⟨hT,_⟩,hs18⟩=>hs18) (fun j v hv=>by rw [Nat.zero_add];show([.int .i64 (0 - -(((i.m%1000000000):Nat):Int))].toArray)[j]?=some v;rw [List.getElem?_toArray];exact hv) rfl) (by omega) (by omega) (Zp ⟨rfl,trivial⟩) (fun v19 ob19 hr19=>?_)
   refine JS_as rfl<|JS_nt<|QB<|JS_mv rfl<|QA (LX rfl rfl (by decide) (by omega) (by omega)) ?_
   rw [Ab]
   refine JS_as rfl<|QE<|Qk ?_
   exact Qo (⟨i.m / 1000000000,i.out++[(((i.m%1000000000):Nat):Int)],v19,ob19,by omega,by rw [List.length_append,List.length_singleton];omega,i.dg.append (DG.cons (by omega) (by show _<B9;rw [h9];omega) (DG.nil _)),AR i.h,by simpa [Qx] using hr19⟩) (by show i.m / 1000000000<i.m;omega) ⟨rfl,rfl,rfl,rfl,trivial⟩ subl_r (fun F h=>⟨h.1.1,trivial⟩)
  ·
   have e1:RD (decide (n<0)) (i.m%1000000000)=(((i.m%1000000000):Nat):Int):=by
    have:=dec_f hc
    rcases By (decide (n<0)) (i.m%1000000000) with g | g<;>omega
   rw [e1]
   refine QP<|QC<|J_sr<|JS_mv rfl<|JS_mv rfl<|QU rfl (Q6 Qf) Qp VQ rfl rfl (fun b18=>X7 (bs':=[(b2,.cells [.bool false,.slice none 0 0].toArray 143 (0,0))]++i.ob) (List.Perm.refl _) ?_)
   refine VI (ob:=i.ob) (k:=1) (sz:=1) (news:=[.int .i64 ((((i.m%1000000000):Nat):Int))]) rfl rfl Qf Qp VQ rfl DF i.hr (Src.row (off:=0) (fun F ⟨⟨hT,_⟩,hs18⟩=>hs18) (fun j v hv=>by rw [Nat.zero_add];show([.int .i64 ((((i.m%1000000000):Nat):Int))].toArray)[j]?=some v;rw [List.getElem?_toArray];exact hv) rfl) (by omega) (by omega) (Zp ⟨rfl,trivial⟩) (fun v19 ob19 hr19=>?_)
   refine JS_as rfl<|JS_nt<|QB<|JS_mv rfl<|QA (LX rfl rfl (by decide) (by omega) (by omega)) ?_
   rw [Ab]
   refine JS_as rfl<|QE<|Qk ?_
   exact Qo (⟨i.m / 1000000000,i.out++[(((i.m%1000000000):Nat):Int)],v19,ob19,by omega,by rw [List.length_append,List.length_singleton];omega,i.dg.append (DG.cons (by omega) (by show _<B9;rw [h9];omega) (DG.nil _)),AR i.h,by simpa [Qx] using hr19⟩) (by show i.m / 1000000000<i.m;omega) ⟨rfl,rfl,rfl,rfl,trivial⟩ subl_r (fun F h=>⟨h.1.1,trivial⟩)
 ·
  have hm0:i.m=0:=by
   rcases hcs with g | g
   ·rw [g] at hc;simp at hc;exact hc
   ·rw [g] at hc;simp at hc;exact hc
  refine Q5 ?_
  repeat (first | refine Qd ?_ | refine QW (by rfl) ?_)
  refine Qe<|QC<|QG ?_
  have hfin:=i.h
  rw [hm0] at hfin
  have l3:=i.l3
  obtain ⟨r,hv,hrn,hrc,hfix⟩:=Q3.fix (w0:=w) (F0:=F) (bs1:=[(b2,.cells [.bool false,.slice none 0 0].toArray 143 (0,0))]) (G:=fun F=>True∧True) i.hr
  refine T9 hfix ?_
  rw [hv]
  refine QB<|JS_mv rfl<|JS_mv rfl<|QI rfl (fun w F hF ⟨⟨hT,_⟩,hX⟩=>Zy hF (r:=r) (l:=i.out) (neg:=decide (n<0)) ⟨by rw [hrn];exact hX,by rw [hrn],by omega⟩ (i.dg) (by omega)) (fun c24=>QN (vs:=[_,_]) rfl rfl rfl JH rfl .here (.here (.here .nil)) ⟨rfl,rfl,trivial⟩<|JS_nt<|QT ?_)
  have e:n=G9 (decide (n<0)) i.out:=by
   have e2:=LF n
   unfold G9;unfold RD at e2
   split at e2<;>rename_i hs<;>simp only [hs]<;>simp<;>omega
  exact QQ (c24) rfl (.JU (c:=[_,_]) rfl JH .here .nil) (rfl) (fun F ⟨⟨⟨hT,_⟩,hX⟩,h24⟩=>(by rw [← e] at h24;exact h24))
end
section
open Go.RowKit Ig
theorem Pr {n:Nat} (h:0<n):NU n 1=Lib.decDigits n:=by
 have hne:(Lib.decDigits n).length≠0:=fun e=>Ki n (List.eq_nil_of_length_eq_zero e)
 unfold NU hd VM
 rw [if_neg (by omega),show 1 - (Lib.decDigits n).length=0 by omega]
 rfl
theorem Ps (n:Nat):NU n 9=VM 9 (Lib.decDigits n):=by
 unfold NU hd
 split
 ·rename_i h;subst h;rw [Zt];decide
 ·rfl
theorem DX {n:Nat} (h:n<1000000000):(NU n 9).length=9:=by
 rw [Ps,S0]
 have:=ZU (u:=n) (k:=9) (by omega) (by decide)
 rw [Lib.decDigits_length];exact this
structure qh (l:List Int) where
 k:Nat
 s:List UInt8
 le:k<l.length
 ps:0<dv B9 (l.drop k)
 sl:s.length≤20+9*(l.length - k)
 h:s=Lib.decDigits (dv B9 (l.drop k)).toNat
theorem Gz {l:List Int} (hd:DG B9 l) (hz:NZ l) (h0:0<l.length):dv B9 (l.drop (l.length - 1))=Qg l (l.length - 1)∧0<Qg l (l.length - 1):=by
 have e:=J4 (l:=l) (k:=l.length - 1) (by omega)
 rw [List.drop_of_length_le (i:=l.length - 1+1) (by omega)] at e
 refine⟨by rw [e];simp [dv],?_⟩
 obtain ⟨h1,_⟩:=RX (n:=l.length - 1) hd hz (by omega)
 omega
def qh.start {l:List Int} (hd:DG B9 l) (hz:NZ l) (h0:0<l.length):qh l:=⟨l.length - 1,NU (Qg l (l.length - 1)).toNat 1,by omega,by rw [(Gz hd hz h0).1];exact(Gz hd hz h0).2,by
  have b:=hd.Qg JE (l.length - 1)
  have h9:B9=1000000000:=rfl
  rw [Pr (by have:=(Gz hd hz h0).2;omega),Lib.decDigits_length]
  have:=ZU (u:=(Qg l (l.length - 1)).toNat) (k:=9) (by rw [h9] at b;omega) (by decide)
  omega,by
  rw [Pr (by have:=(Gz hd hz h0).2;omega),(Gz hd hz h0).1]⟩
theorem qh.add {l:List Int} (i:qh l) (hd:DG B9 l) (hk:0<i.k):dv B9 (l.drop (i.k - 1))=Qg l (i.k - 1)+B9*dv B9 (l.drop i.k):=by
 have hle:=i.le
 rw [J4 (by omega),YI,show i.k - 1+1=i.k by omega]
def qh.next {l:List Int} (i:qh l) (hd:DG B9 l) (hk:0<i.k):qh l:=⟨i.k - 1,i.s++NU (Qg l (i.k - 1)).toNat 9,by have:=i.le;omega,by
  rw [i.add hd hk]
  have b:=hd.Qg JE (i.k - 1)
  have p:=i.ps
  have:B9*1≤B9*dv B9 (l.drop i.k):=Int.mul_le_mul_of_nonneg_left (by omega) (by decide)
  have h9:B9=1000000000:=rfl
  omega,by
  have b:=hd.Qg JE (i.k - 1)
  have h9:B9=1000000000:=rfl
  rw [h9] at b
  have hle:=i.le
  have hsl:=i.sl
  rw [List.length_append,DX (by omega)]
  omega,by
  have b:=hd.Qg JE (i.k - 1)
  have h9:B9=1000000000:=rfl
  rw [h9] at b
  have p:=i.ps
  have e:=KT (q:=(dv B9 (l.drop i.k)).toNat) (by omega) 9 (Qg l (i.k - 1)).toNat (by decide) (by omega)
  rw [Ps,i.h,← e,i.add hd hk]
  congr 1
  generalize dv B9 (l.drop i.k)=D at *
  rw [h9]
  omega⟩
end
section
open Go.RowKit Ig
structure ph (s:List UInt8) where
 s':List UInt8
 out:List Int
 v:Value
 ob:List (Nat×Obj)
 dg:DG B9 out
 al:XF s'=true
 ll:s'.length+9*out.length≤s.length
 h:(Q8 s':Int)*B9^out.length+dv B9 out=Q8 s
 hr:Q3 3 1 v out.length (out.map Qx) ob
theorem S6:((10^9:Nat):Int)=B9:=by decide
theorem Ch {s:List UInt8} {out:List Int} {z:Int} (h:(Q8 s:Int)*B9^out.length+dv B9 out=z) (hl:9≤s.length):(Q8 (s.take (s.length - 9)):Int)*B9^(out++[(Q8 (s.drop (s.length - 9)):Int)]).length+dv B9 (out++[(Q8 (s.drop (s.length - 9)):Int)])=z:=by
 have e:=Zz (s.take (s.length - 9)) (s.drop (s.length - 9))
 rw [List.take_append_drop,List.length_drop,show s.length - (s.length - 9)=9 by omega] at e
 rw [XN,List.length_append,List.length_singleton,Int.pow_succ,← h,e,Int.natCast_add,Int.natCast_mul,S6]
 generalize B9^out.length=p
 generalize ((Q8 (s.take (s.length - 9)):Nat):Int)=a
 generalize ((Q8 (s.drop (s.length - 9)):Nat):Int)=b
 generalize B9=B
 grind
theorem Mc {s:List UInt8} (h:Lib.hasPrefix s [45]=true):1≤s.length:=by
 rcases Nat.eq_zero_or_pos s.length with g | g
 ·rw [List.eq_nil_of_length_eq_zero g] at h;simp [Lib.hasPrefix] at h
 ·omega
theorem DN {P:Program} {Q:Exit→Act→World→Prop} {ops:Array Oper} {l:List Oper} {N:Nat} {m:Sl} {E E':Env} (h:∀ w,St E w→St E' w) (k:JS P ops Q l N m E'):JS P ops Q l N m E:=fun a w ha hw=>k a w ha (h w hw)
theorem xT {s t:List UInt8} {out:List Int} (h:(Q8 t:Int)*B9^out.length+dv B9 out=Q8 (Lib.trimPrefix s [45])):G9 (Lib.hasPrefix s [45]) (out++[(Q8 t:Int)])=Zv s:=by
 have e:dv B9 (out++[(Q8 t:Int)])=Q8 (Lib.trimPrefix s [45]):=by
  rw [XN,← h,Int.mul_comm];omega
 unfold G9 Zv
 rw [e]
 unfold Lib.trimPrefix
 cases Lib.hasPrefix s [45]<;>simp
theorem PG {s:List UInt8} (h:XF s=true) (hl:s.length≤9):(Q8 s:Int)<B9:=by
 have h1:=Vm h
 have h2:10^s.length≤10^9:=Nat.pow_le_pow_right (by decide) hl
 have h3:=S6
 omega
theorem Gp {w:World} {F:Gs} {s:List UInt8} (hF:Fits F w) (hs:XF (Lib.trimPrefix s [45])=true) (hl:s.length≤1000000):G2 Tryz.prog 167 [tx s] w F (Zv s):=by
 refine QS.intro (G:=fun F=>True) Tryz.func167 rfl (by rfl) rfl rfl hF (fun F' hF'=>trivial)<|J_sr<|Qb Z6 (fun b2=>QE<|QC ?_)
 refine KZ [(0,_),(2,_)] [(3,.bool (Lib.hasPrefix s [45]))] ⟨rfl,rfl,trivial⟩ ?_ ?_
 ·
  refine QB<|JS_mv rfl<|QA (J9 rfl Xh)<|QA (QV rfl rfl rfl)<|JS_mv rfl ?_
  refine Qn (t:=8) rfl (fun hb8=>?_) (fun hb8=>?_)
  ·
   refine QL rfl rfl<|JS_mv rfl<|QL rfl rfl<|QA (Vn (i:=0) rfl rfl Xh (by have:=dec_t hb8;omega))<|QL rfl rfl<|QA (QV rfl rfl rfl)<|QA (Qi rfl rfl rfl)<|JS_as rfl<|QE ?_
   exact X0 ⟨rfl,rfl,(congrArg (fun b=>some (Value.bool b)) (by have h0:0<s.length:=(by have:=dec_t hb8;omega);rw [Wr h0];exact MD rfl)),trivial⟩ subl_r (fun _ h=>h)
  ·
   refine QO rfl rfl rfl<|QO rfl rfl rfl<|QO rfl rfl rfl<|QA (Qh rfl rfl rfl)<|JS_as rfl<|QE ?_
   exact X0 ⟨rfl,rfl,(congrArg (fun b=>some (Value.bool b)) (by have h0:s.length=0:=(by have:=dec_f hb8;omega);rw [List.eq_nil_of_length_eq_zero h0];rfl)),trivial⟩ subl_r (fun _ h=>h)
 ·
  simp only [List.cons_append,List.nil_append]
  refine KZ [(2,_),(3,_)] [(0,tx (Lib.trimPrefix s [45]))] ⟨rfl,rfl,trivial⟩ ?_ ?_
  ·
   refine J_sr<|JS_mv rfl<|QE<|QC ?_
   refine QR rfl (fun hc=>?_) (fun hc=>?_)
   ·
    refine QB<|JS_mv rfl<|QA (Kd (1) rfl rfl Xh rfl (Mc hc))<|JS_as rfl<|QE ?_
    exact X0 ⟨rfl,rfl,(congrArg (fun l=>some (tx l)) (by unfold Lib.trimPrefix;rw [if_pos hc];rfl)),trivial⟩ subl_r (fun _ h=>h)
   ·
    refine QP ?_
    exact X0 ⟨rfl,rfl,(congrArg (fun l=>some (tx l)) (by unfold Lib.trimPrefix;rw [hc];rfl)),trivial⟩ subl_r (fun _ h=>h)
  ·
   simp only [List.cons_append,List.nil_append]
   have hln:(Lib.trimPrefix s [45]).length≤s.length:=DZ _ _
   refine J_sr<|JS_as rfl<|JS_nt<|QG<|Qa<|Jz (ι:=ph (Lib.trimPrefix s [45])) [(2,_),(3,_)] (fun i=>[(0,tx i.s'),(4,i.v)]) (fun i=>(b2,.cells [.bool false,.slice none 0 0].toArray 143 (0,0))::i.ob) (fun i F=>True) (fun i=>i.s'.length) (⟨Lib.trimPrefix s [45],[],.slice none 0 0,[],DG.nil _,hs,by simp,by simp,.nil⟩) ⟨rfl,rfl,trivial⟩ ⟨rfl,rfl,trivial⟩ subl_r (fun _ _=>trivial) (fun i=>?_)
   simp only [List.cons_append,List.nil_append]
   have hll:=i.ll
   refine QG<|J_sr<|JS_mv rfl<|QA (J9 rfl Xh)<|QA (QV rfl rfl rfl)<|QE<|QC ?_
   refine QR rfl (fun hc=>?_) (fun hc=>?_)
   ·
    have h9:9<i.s'.length:=by have:=dec_t hc;omega
    refine QP<|QC<|Qa<|J_sr<|JS_mv rfl<|JS_mv rfl<|JS_mv rfl<|QA (J9 rfl Xh)<|QA (J6 rfl rfl (by omega))<|QA (Kd (i.s'.length - 9) rfl rfl Xh (congrArg (fun z:Int=>some (Value.int .i64 z)) (by omega)) (by omega))<|QI rfl (fun w F hF ⟨hT,_⟩=>MU hF (DH i.al _) (by rw [List.length_drop];omega)) (fun _=>QU rfl (Q6 Qf) Qp VQ rfl rfl (fun b26=>X7 (bs':=[(b2,.cells [.bool false,.slice none 0 0].toArray 143 (0,0))]++i.ob) (List.Perm.refl _) ?_))
    refine VI (ob:=i.ob) (k:=1) (sz:=1) (news:=[.int .i64 ((Q8 (i.s'.drop (i.s'.length - 9)):Int))]) rfl rfl Qf Qp VQ rfl DF i.hr (Src.row (off:=0) (fun F ⟨⟨⟨hT,_⟩,_⟩,hs26⟩=>hs26) (fun j v hv=>by rw [Nat.zero_add];show([.int .i64 ((Q8 (i.s'.drop (i.s'.length - 9)):Int))].toArray)[j]?=some v;rw [List.getElem?_toArray];exact hv) rfl) (by omega) (by omega) (Zp ⟨rfl,trivial⟩) (fun v27 ob27 hr27=>?_)
    refine JS_as rfl<|JS_nt<|QB<|JS_mv rfl<|JS_mv rfl<|QA (J9 rfl Xh)<|QA (J6 rfl rfl (by omega))<|QA (Gx (i.s'.length - 9) rfl rfl Xh (congrArg (fun z:Int=>some (Value.int .i64 z)) (by omega)) (by omega))<|JS_as rfl<|QE<|Qk ?_
    exact Qo (⟨i.s'.take (i.s'.length - 9),i.out++[(Q8 (i.s'.drop (i.s'.length - 9)):Int)],v27,ob27,i.dg.append (DG.cons (by omega) (PG (DH i.al _) (by rw [List.length_drop];omega)) (DG.nil _)),GW i.al _,by rw [List.length_take,List.length_append,List.length_singleton];omega,Ch i.h (by omega),by simpa [Qx] using hr27⟩) (by show(i.s'.take (i.s'.length - 9)).length<i.s'.length;rw [List.length_take];omega) ⟨rfl,rfl,rfl,rfl,trivial⟩ subl_r (fun F h=>⟨h.1.1.1,trivial⟩)
   ·
    have h9:i.s'.length≤9:=by have:=dec_f hc;omega
    refine Q5 ?_
    repeat (first | refine Qd ?_ | refine QW (by rfl) ?_)
    refine Qe<|QC<|J_sr<|JS_mv rfl<|JS_mv rfl<|JS_mv rfl<|QI rfl (fun w F hF ⟨hT,_⟩=>MU hF (i.al) (by omega)) (fun _=>QU rfl (Q6 Qf) Qp VQ rfl rfl (fun b37=>X7 (bs':=[(b2,.cells [.bool false,.slice none 0 0].toArray 143 (0,0))]++i.ob) (List.Perm.refl _) ?_))
    refine VI (ob:=i.ob) (k:=1) (sz:=1) (news:=[.int .i64 ((Q8 i.s':Int))]) rfl rfl Qf Qp VQ rfl DF i.hr (Src.row (off:=0) (fun F ⟨⟨⟨hT,_⟩,_⟩,hs37⟩=>hs37) (fun j v hv=>by rw [Nat.zero_add];show([.int .i64 ((Q8 i.s':Int))].toArray)[j]?=some v;rw [List.getElem?_toArray];exact hv) rfl) (by omega) (by omega) (Zp ⟨rfl,trivial⟩) (fun v38 ob38 hr38=>?_)
    obtain ⟨r,hv,hrn,hrc,hfix⟩:=Q3.fix (w0:=w) (F0:=F) (bs1:=[(b2,.cells [.bool false,.slice none 0 0].toArray 143 (0,0))]) (G:=_) hr38
    refine DN hfix ?_
    rw [hv]
    refine QI rfl (fun w F hF ⟨⟨⟨⟨hT,_⟩,_⟩,hs37⟩,hX⟩=>Zy hF (r:=r) (l:=i.out++[(Q8 i.s':Int)]) (neg:=Lib.hasPrefix s [45]) ⟨by rw [hrn];simpa [Qx] using hX,by rw [hrn];simp,by omega⟩ (i.dg.append (DG.cons (by omega) (PG i.al h9) (DG.nil _))) (by first | omega | (simp;omega))) (fun c39=>QN (vs:=[_,_]) rfl rfl rfl JH rfl .here (.here (.here .nil)) ⟨rfl,rfl,trivial⟩<|JS_nt<|QT ?_)
    exact QQ (c39) rfl (.JU (c:=[_,_]) rfl JH .here .nil) (rfl) (fun F ⟨⟨⟨⟨⟨hT,_⟩,_⟩,hs37⟩,hX⟩,h39⟩=>(by rw [xT i.h] at h39;exact h39))
end
section
open Go.RowKit Ig
theorem DV (z:Int):(Xu z).length≤sz z+2:=by
 have h:(Lib.decDigits z.natAbs).length≤sz z+1:=by
  rw [Lib.decDigits_length]
  refine ZU ?_ (by omega)
  have h1:=Gl z
  have h2:2^sz z≤10^sz z:=Nat.pow_le_pow_left (by decide) _
  have h3:10^sz z≤10^(sz z+1):=Nat.pow_le_pow_right (by decide) (by omega)
  omega
 rcases Int.lt_or_le z 0 with g | g
 ·rw [YB g,List.length_cons];omega
 ·rw [Jx g];omega
theorem T1 (n:Nat):(Lib.decDigits n).length≤sz (n:Int)+1:=by
 rw [Lib.decDigits_length]
 refine ZU ?_ (by omega)
 have h1:=Gl (n:Int)
 have h2:2^sz (n:Int)≤10^sz (n:Int):=Nat.pow_le_pow_left (by decide) _
 have h3:10^sz (n:Int)≤10^(sz (n:Int)+1):=Nat.pow_le_pow_right (by decide) (by omega)
 simp at h1
 omega
theorem Gy (x:Rat):(JQ x).length≤2*JL x+4:=by
 have h1:=DV x.num
 have h2:=T1 x.den
 have h3:=Jf x
 have h4:=Jb x
 unfold JQ
 split
 ·omega
 ·rw [List.length_append,List.length_cons];omega
theorem Py {l:List UInt8} (h:l.contains 47=false):l.all (fun c=>!XS c)=true:=by
 rw [List.all_eq_true]
 intro c hc
 have:c≠47:=by rintro rfl;simp [hc] at h
 simp [XS,this]
theorem PS (z:Int):(Xu z).contains 47=false:=BE z (by decide) (by decide)
theorem Ni {x:Rat} (h:x.den=1):JQ x=Xu x.num∧ahead XS (JQ x)=(JQ x).length:=by
 have e:JQ x=Xu x.num:=by unfold JQ;rw [if_pos h]
 exact⟨e,by rw [e];exact P0 (Py (PS _))⟩
theorem G7 {x:Rat} (h:x.den≠1):ahead XS (JQ x)=(Xu x.num).length∧ahead XS (JQ x)<(JQ x).length∧(JQ x).take (ahead XS (JQ x))=Xu x.num∧(JQ x).drop (ahead XS (JQ x)+1)=Lib.decDigits x.den:=by
 have e:JQ x=Xu x.num++47::Lib.decDigits x.den:=by unfold JQ;rw [if_neg h]
 have h1:ahead XS (JQ x)=(Xu x.num).length:=by
  refine Pz (by rw [e];simp) ?_ ?_
  ·rw [e,List.take_append_of_le_length (Nat.le_refl _),List.take_length];exact Py (PS _)
  ·simp [e,XS]
 rw [h1]
 refine⟨rfl,by rw [e];simp,?_,?_⟩
 ·rw [e];simp
 ·rw [e,List.drop_append];simp
theorem Nj (x:Rat):(ahead XS (JQ x)=(JQ x).length)↔x.den=1:=by
 constructor
 ·intro h
  by_cases g:x.den=1
  ·exact g
  ·have:=(G7 g).2.1;omega
 ·intro h;exact(Ni h).2
theorem PR (z:Int):XF (Lib.trimPrefix (Xu z) [45])=true:=by rw [GC];exact Jh _
theorem IA (n:Nat):XF (Lib.trimPrefix (Lib.decDigits n) [45])=true:=by rw [ZQ (Jh n)];exact Jh _
theorem FV (n:Nat):Zv (Lib.decDigits n)=n:=by rw [XI (Jh n),X1]
@[reducible] def Ri.v2 (c:Ri×Ri):Value:=.tuple #[c.1.v,c.2.v]
theorem Wn {w:World} {F:Gs} {x:Rat} (hF:Fits F w) (hl:JL x≤100000):QS Tryz.prog 119 [tx (JQ x)] w F Ri.v2 (fun c F=>VP F c.1 x.num∧VP F c.2 x.den):=by
 have hlen:=Gy x
 refine QS.intro (G:=fun F=>True) Tryz.func119 rfl (by rfl) rfl rfl hF (fun F' hF'=>trivial)<|J_sr<|Qb Z6 (fun b2=>Qb Z6 (fun b3=>JS_nt<|J_sr<|JS_mv rfl<|JS_as rfl<|JS_nt<|J_sr<|JS_mv rfl<|QI rfl (fun w F hF hT=>BA hF (by omega)) (fun _=>JS_as rfl<|JS_nt<|QG<|J_sr<|JS_mv rfl<|JS_mv rfl ?_)))
 refine QA (J9 rfl Xh)<|QA (QV rfl rfl rfl)<|QE<|QC ?_
 refine QR rfl (fun hc=>?_) (fun hc=>?_)
 ·
  have hd:x.den=1:=(Nj x).1 (by have:(ahead XS (JQ x):Int)=((JQ x).length:Int):=(by simpa using hc);omega)
  rw [(Ni hd).1]
  refine J_sr<|JS_mv rfl<|QI rfl (fun w F hF ⟨hT,_⟩=>Gp hF (PR _) (by have:=DV x.num;have:=Jf x;omega)) (fun c14=>QI rfl (fun w F hF ⟨⟨hT,_⟩,h14⟩=>E6 hF (by decide)) (fun c15=>QN (vs:=[_,_]) rfl rfl rfl JH rfl (.there .here) (.here (.here .nil)) ⟨rfl,rfl,trivial⟩<|QN (vs:=[_,_]) rfl rfl rfl JH rfl .here (.here (.here .nil)) ⟨rfl,rfl,trivial⟩<|JS_nt<|QT ?_))
  exact JY ((c14,c15):Ri×Ri) rfl (.JU (c:=[_,_]) rfl JH (.there .here) (.JU (c:=[_,_]) rfl JH .here .nil)) (rfl) (fun F ⟨⟨⟨hT,_⟩,h14⟩,h15⟩=>⟨by rw [Yo] at h14;exact h14,by have e:(x.den:Int)=1:=(by rw [hd];rfl);rw [e];exact h15⟩)
 ·
  have hd:¬ x.den=1:=fun g=>by have:=(Nj x).2 g;rw [this] at hc;simp at hc
  obtain ⟨k1,k2,k3,k4⟩:=G7 hd
  refine QP<|QC<|QG<|JN (.cons _ (.cons _ .slnil)) mixed (by kernel_rfl)<|QK (QD rfl)<|QK (QD rfl)<|QK (Gx (ahead XS (JQ x)) rfl rfl Xh rfl (by omega)) ?_
  rw [k3]
  refine QY rfl (fun w F hF ⟨hT,_⟩=>Gp hF (PR _) (by have:=DV x.num;have:=Jf x;omega)) (fun c19=>QK (QD rfl)<|QK (QD rfl)<|QK (Qu rfl rfl (by omega))<|QK (Kd ((ahead XS (JQ x)+1)) rfl rfl Xh (congrArg (fun z:Int=>some (Value.int .i64 z)) (by omega)) (by omega)) ?_)
  rw [k4]
  refine QY rfl (fun w F hF ⟨⟨hT,_⟩,VV⟩=>Gp hF (IA _) (by have:=T1 x.den;have:=Jb x;omega)) (fun c24=>Q7 (vs:=[_,_]) rfl rfl rfl JH rfl (.there .here) (.cons _ .slnil) (fun _ h=>h.1.1) (.here (.here .nil)) ⟨rfl,rfl,trivial⟩<|Q7 (vs:=[_,_]) rfl rfl rfl JH rfl .here (.cons _ .slnil) (fun _ h=>h.1.1) (.here (.here .nil)) ⟨rfl,rfl,trivial⟩<|Q4<|QC<|QT ?_)
  exact JY ((c19,c24):Ri×Ri) rfl (.JU (c:=[_,_]) rfl JH (.there .here) (.JU (c:=[_,_]) rfl JH .here .nil)) (rfl) (fun F ⟨⟨⟨hT,_⟩,VV⟩,h24⟩=>⟨by rw [Yo] at VV;exact VV,by rw [FV] at h24;exact h24⟩)
end
section
open Go.RowKit Ig
structure pH (zx zy:Int) where
 n:Ri
 d:Ri
 zn:Int
 zd:Int
 h:0<zd
 e:Rat.divInt zn zd=Rat.divInt zx zy
 sn:sz zn≤500000
 sd:sz zd≤500000
end
section
open Go.RowKit Ig
def Wg (x:Rat):Rat:=if x.num<0 then -x else x
theorem q9 (x:Rat):JL (Wg x)=JL x:=by
 unfold Wg;split
 ·exact Hv x
 ·rfl
def zo (x:Rat) (c:Int×Int×Bool):Prop:=c.2.2=true→c.1=x.num∧c.2.1=(x.den:Int)∧x.num.natAbs<1000000000∧x.den<1000000000
end
section
open Go.RowKit Ig
theorem PI:JQ 0=[48]:=by
 have h:(0:Rat).num=0:=rfl
 unfold JQ
 rw [if_pos (by rfl),h,Jx (by decide)];exact Zt
end
section
open Go.RowKit Ig
def Ii (s:List UInt8):Bool:=!XV ((Lib.trimPrefix s [45]).take (ahead XS (Lib.trimPrefix s [45])))||(Lib.hasPrefix s [45]&&(Lib.trimPrefix s [45]).take (ahead XS (Lib.trimPrefix s [45]))==[48])
def Nu (s:List UInt8):List UInt8:=(Lib.trimPrefix s [45]).drop (ahead XS (Lib.trimPrefix s [45])+1)
def PC (s:List UInt8):Bool:=decide (ahead XS (Lib.trimPrefix s [45])<(Lib.trimPrefix s [45]).length)
def IN (s:List UInt8):Bool:=PC s&&(!XV (Nu s)||(Nu s==[48]||Nu s==[49]))
def Oi (s:List UInt8):Bool:=decide (600<ahead XS (Lib.trimPrefix s [45]))||decide (600<(Nu s).length)
def OS (s:List UInt8):Bool:=PC s&&!(Nat.gcd (Q8 ((Lib.trimPrefix s [45]).take (ahead XS (Lib.trimPrefix s [45])))) (Q8 (Nu s))==1)
def Rz (s:List UInt8):Int:=if Ii s=true then 1 else if IN s=true then 1 else if Oi s=true then 4 else if OS s=true then 1 else 0
end
section
open Go.RowKit Ig
structure Yj {α:Type} (l:List α) (f:α→Int) where
 i:Nat
 le:i≤l.length
 h:Qm (l.map f)=Qm ((l.map f).drop i)
section
variable {α:Type} [Inhabited α] {l:List α} {f:α→Int}
theorem Rb {i:Nat} (hi:i<l.length):(l.map f)[i]'(by simpa using hi)=f (el l i):=by rw [List.getElem_map,Za hi]
def Yj.next (s:Yj l f) (hi:s.i<l.length) (h:f (el l s.i)=0):Yj l f:=⟨s.i+1,hi,by
 rw [s.h,KD (by simpa using hi) (by rw [Rb hi];exact h)]⟩
theorem Yj.hit (s:Yj l f) (hi:s.i<l.length) (h:f (el l s.i)≠0):Qm (l.map f)=f (el l s.i):=by
 rw [s.h,WH (by simpa using hi) (by rw [Rb hi];exact h),Rb hi]
theorem Yj.stop (s:Yj l f) (hi:l.length≤s.i):Qm (l.map f)=0:=by
 rw [s.h,List.drop_of_length_le (by simpa using hi)];rfl
end
def Yj.start {α:Type} (l:List α) (f:α→Int):Yj l f:=⟨0,Nat.zero_le _,rfl⟩
structure SC {α:Type} (l:List α) (p:α→Bool) where
 i:Nat
 le:i≤l.length
 h:l.all p=(l.drop i).all p
section
variable {α:Type} [Inhabited α] {l:List α} {p:α→Bool}
def SC.next (s:SC l p) (hi:s.i<l.length) (h:p (el l s.i)=true):SC l p:=⟨s.i+1,hi,by rw [s.h,Ec hi,List.all_cons,h,Bool.true_and]⟩
theorem SC.hit (s:SC l p) (hi:s.i<l.length) (h:p (el l s.i)=false):l.all p=false:=by rw [s.h,Ec hi,List.all_cons,h,Bool.false_and]
theorem SC.stop (s:SC l p) (hi:l.length≤s.i):l.all p=true:=by rw [s.h,List.drop_of_length_le hi];rfl
end
def SC.start {α:Type} (l:List α) (p:α→Bool):SC l p:=⟨0,Nat.zero_le _,rfl⟩
def pQ (a:List UInt8) (d:Int):Bool:=decide ((a.length:Int)≤2*d+2)&&(Jy a==0&&(decide (((O4 (numOf a)).length:Int)≤d)&&decide (((T8 a).length:Int)≤d)))
end
section
open Go.RowKit Ig
def PZ (x y:Rat):Rat:=if Vg x y≤0 then x else y
def Np (x y:Rat):Rat:=if Vg x y≥0 then x else y
@[reducible] def I8 (a:Rat×Rat):Value:=.agg #[tx (JQ a.1),tx (JQ a.2)]
def CM (k:Nat) (a:Rat×Rat):Prop:=JL a.1≤k∧JL a.2≤k
end
section
open Go.RowKit Ig
def jk (s:Rat×Rat) (l:List (Rat×Rat)):Rat×Rat:=l.foldl (fun s p=>(PZ s.1 p.1,Np s.2 p.2)) s
def gi (p:Rat×Rat):List Value:=[tx (JQ p.1),tx (JQ p.2)]
theorem yy (p:Rat×Rat):(gi p).length=2:=rfl
structure po (l:List (Rat×Rat)) where
 i:Nat
 s:Rat×Rat
 le:i≤l.length
 sz:CM 20000 s
 h:jk s (l.drop i)=jk (el l 0) (l.drop 1)
end
section
open Go Go.RowKit
section
variable [Dr] [df:Df]
def Wa (l:List Oper) (r:List Nat) (i:Nat):Bool:=match l[i]? with
 |some o=>o.after.all fun e=>!(Region.binds .any e)||!(r.contains e.on)
 |none=>false
def UW (l:List Oper) (i:Nat):Bool:=match l[i]? with
 |some o=>Jo o.op
 |none=>false
def Nb (l:List Oper) (r:List Nat):Option Nat:=r.find? fun i=>UW l i&&Wa l r i
def MJ (l:List Oper):Bool :=
 Region.noSelect l.toArray&&KC .any l.toArray l.length&&(List.range l.length).all fun j=>match l[j]? with
  |none=>false
  |some oj=>(List.range j).all fun i=>match l[i]? with
   |none=>false
   |some oi=>if Jo oi.op||Jo oj.op then(Region.waitsFor .any l.toArray j i||oi.apart l.toArray oj) else true
theorem MI {l:List Oper} (h:MJ l=true) {i j:Nat} (hij:i<j) {oi oj:Oper} (hi:l[i]?=some oi) (hj:l[j]?=some oj) (hq:(Jo oi.op||Jo oj.op)=true):(Region.waitsFor .any l.toArray j i||oi.apart l.toArray oj)=true:=by
 simp only [MJ,Bool.and_eq_true] at h
 have hjl:j<l.length:=by rcases Nat.lt_or_ge j l.length with g | g;exact g;rw [List.getElem?_eq_none g] at hj;cases hj
 have h1:=List.all_eq_true.1 h.2 j (List.mem_range.2 hjl)
 rw [hj] at h1
 have h2:=List.all_eq_true.1 h1 i (List.mem_range.2 hij)
 rw [hi] at h2
 simp only at h2
 rw [if_pos hq] at h2;exact h2
section
variable {P:Program} {Q:Exit→Act→World→Prop} {S:World→Prop}
def EC (P:Program) (l:List Oper) (Q:Exit→Act→World→Prop) (S:World→Prop):Nat→List Nat→Act→World→Prop
 |0,_,a,w=>Q .normal a w
 |n+1,r,a,w=>match Nb l r with
  |some i=>∃ o v,l[i]?=some o∧YieldsIf P l.toArray S o v a∧EC P l Q S n (r.erase i) (a.put o.dst v) w
  |none=>∀ i∈r,Wa l r i=true→wpOp P l.toArray (fun _ _ _=>False) i (fun a' w'=>S w'∧EC P l Q S n (r.erase i) a' w') a w
theorem Ix {l:List Oper} (hB:MJ l=true) (hQ:∀ c a d v w,Q (.panic c) (Act.put a d v) w→Q (.panic c) a w) :
  ∀ (m:Nat) (r:List Nat) (listed:Array Bool) (a:Act) (w:World),r.length=m→r.Pairwise (·<·)→(∀ i,i∈r↔i<l.length∧listed.getD i true=false)→listed.size=l.length →
   (∀ j oj,l.toArray[j]?=some oj→listed.getD j false=true→∀ e∈oj.after,Region.binds .any e=true→listed.getD e.on false=true)→S w→EC P l Q S m r a w→wpAnyH P .any l.toArray Q S m listed a w:=by
 have hB':=hB
 simp only [MJ,Bool.and_eq_true] at hB'
 obtain ⟨⟨hns,hord⟩,_⟩:=hB'
 have hsel:=Region.noSelect_spec hns
 intro m
 induction m with
 |zero =>
  intro r listed a w hm hs hr hsz hcl hS h
  have:r=[]:=List.length_eq_zero_iff.1 hm
  subst this
  refine⟨?_,h⟩
  rw [List.eq_nil_iff_forall_not_mem]
  intro i hi
  obtain ⟨h1,o,ho,_⟩:=mem_ready.1 hi
  have hlt:i<l.length:=by have:=(Array.getElem?_eq_some_iff.1 ho).1;simpa using this
  have:=(hr i).2 ⟨hlt,h1⟩
  cases this
 |succ m ih =>
  intro r listed a w hm hs hr hsz hcl hS h
  have hready:∀ j,j∈Region.ready .any l.toArray listed↔j∈r∧Wa l r j=true:=by
   intro j
   rw [mem_ready,hr j]
   constructor
   ·rintro ⟨h1,o,ho,h2⟩
    have hlt:j<l.length:=by have:=(Array.getElem?_eq_some_iff.1 ho).1;simpa using this
    refine⟨⟨hlt,h1⟩,?_⟩
    unfold Wa
    have ho':l[j]?=some o:=by simpa using ho
    rw [ho']
    rw [Array.all_eq_true_iff_forall_mem]
    intro e he
    cases hb:Region.binds .any e with
    |false=>rfl
    |true =>
     have:=h2 e he hb
     simp only [Bool.not_true,Bool.false_or,Bool.not_eq_true',List.contains_eq_mem,decide_eq_false_iff_not]
     intro hmem
     have h3:=((hr e.on).1 hmem).2
     rw [getD_both h3] at this;cases this
   ·rintro ⟨⟨hlt,h1⟩,h2⟩
    obtain ⟨o,ho,hed⟩:=Xl hord hlt
    refine⟨h1,o,ho,fun e he hb=>?_⟩
    unfold Wa at h2
    have ho':l[j]?=some o:=by simpa using ho
    rw [ho',Array.all_eq_true_iff_forall_mem] at h2
    have:=h2 e he
    rw [hb] at this
    simp only [Bool.not_true,Bool.false_or,Bool.not_eq_true',List.contains_eq_mem,decide_eq_false_iff_not] at this
    cases hv:listed.getD e.on false with
    |true=>rfl
    |false =>
     have hel:=hed e he hb
     exact absurd ((hr e.on).2 ⟨by omega,getD_in (by omega) hv⟩) this
  have next:∀ j,j∈Region.ready .any l.toArray listed→∀ a' w',S w'→EC P l Q S m (r.erase j) a' w'→wpAnyH P .any l.toArray Q S m (listed.setIfInBounds j true) a' w':=by
   intro j hj a' w' hS' h'
   have hjr:=((hready j).1 hj).1
   have hjsz:j<listed.size:=by rw [hsz];exact((hr j).1 hjr).1
   refine ih (r.erase j) _ a' w' (by rw [List.length_erase_of_mem hjr];omega) (hs.sublist List.erase_sublist) (fun k=>?_) (by simpa using hsz) (fun k ok hk hl e he hb=>?_) hS' h'
   ·rw [List.Nodup.mem_erase_iff (hs.imp (fun h=>Nat.ne_of_lt h)),hr k]
    by_cases hjk:j=k
    ·subst hjk;simp [hjsz]
    ·rw [getD_set_ne true hjk];simp [Ne.symm hjk]
   ·by_cases hjk:j=k
    ·subst hjk
     obtain ⟨_,oj,hoj,hall⟩:=mem_ready.1 hj
     have:ok=oj:=Option.some.inj (hk.symm.trans hoj)
     subst this
     exact getD_set_true (hall e he hb)
    ·rw [getD_set_ne false hjk] at hl
     exact getD_set_true (hcl k ok hk hl e he hb)
  unfold EC at h
  cases hp:Nb l r with
  |some j =>
   rw [hp] at h
   obtain ⟨oj,v,hoj0,hy,h'⟩:=h
   have hoj:l.toArray[j]?=some oj:=by simpa using hoj0
   have hjr:j∈r:=List.mem_of_find?_eq_some hp
   have hqr:=List.find?_some hp
   simp only [Bool.and_eq_true] at hqr
   have hq:Jo oj.op=true:=by have:=hqr.1;unfold UW at this;rw [hoj0] at this;exact this
   have hj:j∈Region.ready .any l.toArray listed:=(hready j).2 ⟨hjr,hqr.2⟩
   have hjs:=mem_ready.1 hj
   have happ:∀ k ok,l.toArray[k]?=some ok→k≠j→listed.getD k true=false→(∀ e∈ok.after,Region.binds .any e=true→e.on≠j)→oj.apart l.toArray ok=true:=by
    intro k ok hok hkj hun hno
    have hnw:Region.waitsFor .any l.toArray k j=false:=by
     cases hv:Region.waitsFor .any l.toArray k j with
     |false=>rfl
     |true =>
      obtain ⟨o',ho',e,he,hb,hon⟩:=Region.waitsFor_spec hv
      have:o'=ok:=Option.some.inj (ho'.symm.trans hok)
      subst this
      exact absurd hon (hno e he hb)
    have hnw2:Region.waitsFor .any l.toArray j k=false:=by
     cases hv:Region.waitsFor .any l.toArray j k with
     |false=>rfl
     |true =>
      obtain ⟨o',ho',e,he,hb,hon⟩:=Region.waitsFor_spec hv
      obtain ⟨_,o2,ho2,hall⟩:=hjs
      have:o'=o2:=Option.some.inj (ho'.symm.trans ho2)
      subst this
      have:=hall e he hb
      rw [hon,getD_both hun] at this;cases this
    rcases Nat.lt_or_gt_of_ne hkj with hlt | hgt
    ·have:=MI hB hlt (by simpa using hok) (by simpa using hoj) (by simp [hq])
     rw [hnw2] at this
     exact NL (by simpa using this)
    ·have:=MI hB hgt (by simpa using hoj) (by simpa using hok) (by simp [hq])
     rw [hnw] at this
     simpa using this
   exact wpAnyH_first hoj hsel (fun c a w h=>hQ c a _ v w h) m listed a w happ hj hy hS (next j hj _ w hS h')
  |none =>
   rw [hp] at h
   match r,hm,hs,hr,h,hready,next with
   |i::r,hm,hs,hr,h,hready,next =>
    have hil:=(hr i).1 (by simp)
    have hmin:∀ j,j<i→listed.getD j false=true:=by
     intro j hj
     cases hv:listed.getD j false with
     |true=>rfl
     |false =>
      have hjl:j<l.length:=by omega
      have:=(hr j).2 ⟨hjl,getD_in (by omega) hv⟩
      rcases List.mem_cons.1 this with e | e
      ·omega
      ·have:=(List.pairwise_cons.1 hs).1 j e;omega
    obtain ⟨oi,hoi,hed⟩:=Xl hord hil.1
    have hri:i∈Region.ready .any l.toArray listed:=mem_ready.2 ⟨hil.2,oi,hoi,fun e he hb=>hmin _ (hed e he hb)⟩
    refine⟨fun h0=>(by rw [h0] at hri;cases hri),fun j hj=>?_⟩
    have hj':=(hready j).1 hj
    exact SJ (wpOp_mono (fun a' w' h=>⟨h.1,next j hj a' w' h.1 h.2⟩) (h j hj'.1 hj'.2))
theorem Nf {l:List Oper} {Q':Exit→Act→World→Prop} (hB:MJ l=true) (hQ:∀ c a w,¬ Q' (.panic c) a w) {a:Act} {w:World} (hS:S w) (h:EC P l Q' S l.length (List.range' 0 l.length) a w) :
  wpAny P .any l.toArray Q' l.length (Array.replicate l.length false) a w:=by
 refine wpAny_of_held _ _ _ _ (Ix hB (fun c a d v w h=>absurd h (hQ c _ w)) l.length (List.range' 0 l.length) _ a w (by simp) List.pairwise_lt_range' (fun i=>?_) (by simp) (fun j oj _ hl=>(by rw [getD_replicate_false] at hl;cases hl)) hS h)
 rw [List.mem_range'_1]
 constructor
 ·intro h
  have:i<l.length:=by omega
  simp [this]
 ·intro h;omega
theorem MB {id:Nat} {a:Act} {w:World} {l:List Oper} (hm:P.follows .mixedOrders=true) (hB:MJ l=true) (hS:S { w with drawn:=w.drawn+1 })
  (h:EC P l (Xd (Q .normal)) S l.length (List.range' 0 l.length) a { w with drawn:=w.drawn+1 }):(Code.region id l.toArray true).wp P Q a w:=by
 refine wp_region_any hm ?_
 have:=Nf (P:=P) (Q':=Xd (Q .normal)) hB (fun c a w h=>h) hS h
 simpa using VR (Q':=Q) (fun e a w h=>by cases e<;>first | exact h | exact h.elim) _ _ _ _ this
end
section
variable {P:Program} {Q:Exit→Act→World→Prop} {N:Nat} {m:Sl} {E E0:Env} {l:List Oper} {r r':List Nat} {w0:World} {F0:Gs} {bs:List (Nat×Obj)} {G:Gs→Prop}
def JT (P:Program) (l:List Oper) (Q:Exit→Act→World→Prop) (E0:Env) (r:List Nat) (N:Nat) (m:Sl) (E:Env):Prop:=(∀ w,St E w→St E0 w)→∀ a w,Jr N m a→St E w→EC P l Q (St E0) r.length r a w
def GZ (P:Program) (l:List Oper) (Q:Exit→Act→World→Prop) (E0:Env) (r:List Nat):Act→World→Prop:=fun a w=>EC P l Q (St E0) r.length r a w
theorem XE (h:JT P l Q E0 r N m E):JD P l.toArray (Xd (GZ P l Q E0 r)) E0 [] N m E:=fun hE a w ha hw=>h hE a w ha hw
theorem Pm {i:Nat} (h:i∈r):r.length=(r.erase i).length+1:=by
 rw [List.length_erase_of_mem h]
 have:=List.length_pos_of_mem h
 omega
theorem AH (i:Nat) {o:Oper} (hp:Nb l r=some i) (ho:l[i]?=some o) (he:r.erase i=r') (h:JD P l.toArray (Xd (GZ P l Q E0 r')) E0 [o] N m E):JT P l Q E0 r N m E:=by
 intro hE a w ha hw
 subst he
 have hi:i∈r:=List.mem_of_find?_eq_some hp
 rw [Pm hi]
 unfold EC
 rw [hp]
 have hq:Jo o.op=true:=by
  have:=List.find?_some hp
  simp only [Bool.and_eq_true] at this
  have:=this.1;unfold UW at this;rw [ho] at this;exact this
 rcases h hE a w ha hw with ⟨_,v,h1,h2⟩ | ⟨h1,_⟩
 ·exact⟨o,v,ho,h1,h2⟩
 ·rw [hq] at h1;cases h1
theorem UB {i:Nat} {o:Oper} (ho:l[i]?=some o) (hq:Jo o.op=false) (h:JD P l.toArray (Xd (GZ P l Q E0 r')) E0 [o] N m E) (hE:∀ w,St E w→St E0 w) {a:Act} {w:World} (ha:Jr N m a) (hw:St E w) :
  wpOp P l.toArray (fun _ _ _=>False) i (fun a' w'=>St E0 w'∧GZ P l Q E0 r' a' w') a w:=by
 have ho':l.toArray[i]?=some o:=by simpa using ho
 unfold wpOp
 simp only [ho']
 rcases h hE a w ha hw with ⟨h1,_⟩ | ⟨_,h2⟩
 ·rw [hq] at h1;cases h1
 ·split
  ·rename_i g
   rw [if_pos g] at h2
   exact .inl h2
  ·rename_i g
   rw [if_neg g] at h2
   exact h2
theorem yV (hp:Nb l r=none) (h:∀ i∈r.filter (Wa l r),∃ o,l[i]?=some o∧Jo o.op=false∧JD P l.toArray (Xd (GZ P l Q E0 (r.erase i))) E0 [o] N m E) (hr:r≠[]:=by decide):JT P l Q E0 r N m E:=by
 intro hE a w ha hw
 obtain ⟨x,s,rfl⟩:=List.exists_cons_of_ne_nil hr
 show EC P l Q (St E0) (s.length+1) (x::s) a w
 unfold EC
 rw [hp]
 intro i hi hrd
 obtain ⟨o,ho,hq,hj⟩:=h i (List.mem_filter.2 ⟨hi,hrd⟩)
 have:=UB ho hq hj hE ha hw
 refine wpOp_mono (fun a' w' h=>⟨h.1,?_⟩) this
 have h2:=h.2
 unfold GZ at h2
 rw [show s.length=((x::s).erase i).length by have:=Pm hi;simp at this;omega]
 exact h2
theorem XY (i:Nat) {o:Oper} (hp:Nb l r=none) (hl:r.filter (Wa l r)=[i]) (ho:l[i]?=some o) (hq:Jo o.op=false) (he:r.erase i=r') (h:JD P l.toArray (Xd (GZ P l Q E0 r')) E0 [o] N m E) (hr:r≠[]:=by decide):JT P l Q E0 r N m E :=
 yV hp (fun k hk=>by rw [hl] at hk;cases List.mem_singleton.1 hk;exact⟨o,ho,hq,he ▸ h⟩) hr
theorem ER (i j:Nat) {o u:Oper} {r2:List Nat} (hp:Nb l r=none) (hl:r.filter (Wa l r)=[i,j]) (ho:l[i]?=some o) (hu:l[j]?=some u) (hq:Jo o.op=false) (hq2:Jo u.op=false) (he:r.erase i=r') (he2:r.erase j=r2)
  (h:JD P l.toArray (Xd (GZ P l Q E0 r')) E0 [o] N m E) (h2:JD P l.toArray (Xd (GZ P l Q E0 r2)) E0 [u] N m E) (hr:r≠[]:=by decide):JT P l Q E0 r N m E :=
 yV hp (fun k hk=>by
  rw [hl] at hk
  simp only [List.mem_cons,List.not_mem_nil,or_false] at hk
  rcases hk with rfl | rfl
  ·exact⟨o,ho,hq,he ▸ h⟩
  ·exact⟨u,hu,hq2,he2 ▸ h2⟩) hr
theorem qk {id:Nat} {bs0:List (Nat×Obj)} (hb0:bs0.Sublist bs) (hm:P.follows .mixedOrders=true) (hB:MJ l=true) (hr:List.range' 0 l.length=r) (h:JT P l (Xd (Q .normal)) ⟨w0,F0,bs0,G⟩ r N m ⟨w0,F0,bs,G⟩):J P (.region id l.toArray true) Q N m ⟨w0,F0,bs,G⟩:=fun a w ha hw=>by
 subst hr
 refine MB hm hB ((hw.imp hb0 fun _ h=>h).drew) ?_
 have:=h (fun _ h=>h.imp hb0 fun _ h=>h) a _ ha hw.drew
 simpa using this
theorem Ym (h:Fin Q .normal N m E):JT P l (Xd (Q .normal)) E0 [] N m E:=fun _=>h
end
end
end
section
open Go.RowKit Ig
def Vx (a:Rat×Rat) (n:Int):Rat×Rat:=(if(decide (n>0)&&(decide (n%2=0)&&(decide (EP a.1.num<0)&&decide (EP a.2.num>0))))=true then 0 else(Y7 (a.1^n.toNat) [a.2^n.toNat]).1,(Y7 (a.1^n.toNat) [a.2^n.toNat]).2)
theorem SV {w:World} {F:Gs} {x:Sp} {a:Rat×Rat} {n:Int} (hF:Fits F w) (h:Xy F x a) (hn:0≤n∧n≤12) (hz:JL a.1≤1000000∧JL a.2≤1000000):KP Tryz.prog 149 [x.v,.int .i64 n] w F (Vx a n):=by
 obtain ⟨z1,z2⟩:=hz
 have p1:=Vj a.1 n.toNat
 have p2:=Vj a.2 n.toNat
 have m1:n.toNat*JL a.1≤12*1000000:=Nat.mul_le_mul (by omega) z1
 have m2:n.toNat*JL a.2≤12*1000000:=Nat.mul_le_mul (by omega) z2
 dsimp only [Sp.v]
 refine QS.intro (G:=fun F=>Xy F x a) Tryz.func149 rfl (by rfl) rfl rfl hF (fun F' hF'=>h.le hF')<|QG<|QB ?_
 refine Qw rfl (vs:=[_,_,_,_,_,_,_,_]) rfl (fun b2=>?_)
 refine Qb ZA (fun b4=>?_)
 refine QE<|QC ?_
 refine T3 (ι:=Nat×Sp) [(1,_),(2,_),(4,_)] (fun i=>[(5,.pointer (some ⟨i.1,0,none⟩))]) (fun i=>[(i.1,.cells [.int .i64 i.2.lo.n.s,.slice i.2.lo.n.q i.2.lo.n.n i.2.lo.n.cap,.int .i64 i.2.lo.d.s,.slice i.2.lo.d.q i.2.lo.d.n i.2.lo.d.cap,.int .i64 i.2.hi.n.s,.slice i.2.hi.n.q i.2.hi.n.n i.2.hi.n.cap,.int .i64 i.2.hi.d.s,.slice i.2.hi.d.q i.2.hi.d.n i.2.hi.d.cap].toArray 138 (0,0)),(b4,.cells [.int .i64 0,.slice none 0 0,.int .i64 0,.slice none 0 0,.int .i64 0,.slice none 0 0,.int .i64 0,.slice none 0 0].toArray 138 (0,0)),(b2,.cells [.int .i64 x.lo.n.s,.slice x.lo.n.q x.lo.n.n x.lo.n.cap,.int .i64 x.lo.d.s,.slice x.lo.d.q x.lo.d.n x.lo.d.cap,.int .i64 x.hi.n.s,.slice x.hi.n.q x.hi.n.n x.hi.n.cap,.int .i64 x.hi.d.s,.slice x.hi.d.q x.hi.d.n x.hi.d.cap].toArray 138 (0,0))]) (fun i F=>Xy F i.2 (Y7 (a.1^n.toNat) [a.2^n.toNat])) ⟨rfl,rfl,rfl,trivial⟩ ?_ ?_
 ·
  refine qk (r:=[0,1,2,3,4,5,6,7,8,9,10,11]) (.cons_cons _ (.cons_cons _ .slnil)) mixed (by kernel_rfl) rfl<|AH 0 (by kernel_rfl) rfl rfl<|QK (QH rfl ZE Qc)<|XE<|AH 1 (by kernel_rfl) rfl rfl<|QK (QJ (vs:=[_,_,_,_]) rfl Qc (.there .here) (.here (.here (.here (.here .nil)))) rfl)<|XE<|AH 2 (by kernel_rfl) rfl rfl<|QK (QD rfl)<|XE<|AH 4 (by kernel_rfl) rfl rfl<|QK (QH rfl ZV Qc)<|XE<|AH 5 (by kernel_rfl) rfl rfl<|QK (QJ (vs:=[_,_,_,_]) rfl Qc (.there .here) (.skip (.skip (.skip (.skip (.here (.here (.here (.here .nil)))))))) rfl)<|XE<|AH 6 (by kernel_rfl) rfl rfl<|QK (QD rfl)<|XE ?_
  refine ER 3 10 (by kernel_rfl) (by kernel_rfl) rfl rfl rfl rfl rfl rfl ?_ ?_
  ·
   refine QY rfl (fun w F hF ⟨⟨h1,h2⟩,⟨h3,h4⟩⟩=>M0 hF ⟨by assumption,by assumption⟩ (hn.1) (by omega) (by omega)) (fun x9=>?_)
   refine XE ?_
   refine ER 7 10 (by kernel_rfl) (by kernel_rfl) rfl rfl rfl rfl rfl rfl ?_ ?_
   ·
    refine QY rfl (fun w F hF ⟨⟨⟨h1,h2⟩,⟨h3,h4⟩⟩,⟨h9,h9_⟩⟩=>M0 hF ⟨by assumption,by assumption⟩ (hn.1) (by omega) (by omega)) (fun x13=>?_)
    refine XE ?_
    refine ER 8 10 (by kernel_rfl) (by kernel_rfl) rfl rfl rfl rfl rfl rfl ?_ ?_
    ·
     refine Jp rfl (Q6 G8) Qc Xw rfl rfl (fun b14=>?_) (fun w h=>h.imp (.cons_cons _ (.cons_cons _ .slnil)) (fun F h=>h.1.1))
     refine XE ?_
     refine ER 9 10 (by kernel_rfl) (by kernel_rfl) rfl rfl rfl rfl rfl rfl ?_ ?_
     ·
      refine QY rfl (fun w F hF ⟨⟨⟨⟨⟨h1,h2⟩,⟨h3,h4⟩⟩,⟨h9,h9_⟩⟩,⟨h13,h13_⟩⟩,hs14⟩=>KG hF (⟨h9,h9_⟩) (ps:=[(x13,a.2^n.toNat)]) (Q9.of (n:=1) (sz:=4) hs14 rfl) (fun p hp=>by simp only [List.mem_singleton] at hp;subst hp;exact⟨h13,h13_⟩) rfl (by omega) (⟨by omega,fun p hp=>by simp only [List.mem_singleton] at hp;subst hp;show JL (a.2^n.toNat)≤50000000;omega⟩)) (fun x15=>?_)
      refine XE<|XY 10 (by kernel_rfl) (by kernel_rfl) rfl rfl rfl ?_
      refine X8 ZA (fun b5=>?_)
      refine XE<|XY 11 (by kernel_rfl) (by kernel_rfl) rfl rfl rfl<|Q7 (vs:=[_,_,_,_,_,_,_,_]) rfl rfl rfl Jj rfl .here (.cons_cons _ (.cons_cons _ .slnil)) (fun _ h=>h.1.1.1.1) (.here (.here (.here (.here (.here (.here (.here (.here .nil)))))))) ⟨rfl,rfl,rfl,rfl,rfl,rfl,rfl,rfl,trivial⟩<|XE<|Ym ?_
      exact Jt ((b5,x15)) ⟨rfl,rfl,rfl,rfl,trivial⟩ subl_r (fun F ⟨⟨⟨⟨⟨⟨h1,h2⟩,⟨h3,h4⟩⟩,⟨h9,h9_⟩⟩,⟨h13,h13_⟩⟩,hs14⟩,⟨⟨h15,h15_⟩,⟨h15a,h15b⟩⟩⟩=>⟨⟨⟨h1,h2⟩,⟨h3,h4⟩⟩,⟨⟨h15,h15_⟩,⟨h15a,h15b⟩⟩⟩)
     ·
      refine X8 ZA (fun b5=>?_)
      refine XE<|XY 9 (by kernel_rfl) (by kernel_rfl) rfl rfl rfl ?_
      refine QY rfl (fun w F hF ⟨⟨⟨⟨⟨h1,h2⟩,⟨h3,h4⟩⟩,⟨h9,h9_⟩⟩,⟨h13,h13_⟩⟩,hs14⟩=>KG hF (⟨h9,h9_⟩) (ps:=[(x13,a.2^n.toNat)]) (Q9.of (n:=1) (sz:=4) hs14 rfl) (fun p hp=>by simp only [List.mem_singleton] at hp;subst hp;exact⟨h13,h13_⟩) rfl (by omega) (⟨by omega,fun p hp=>by simp only [List.mem_singleton] at hp;subst hp;show JL (a.2^n.toNat)≤50000000;omega⟩)) (fun x15=>?_)
      refine XE<|XY 11 (by kernel_rfl) (by kernel_rfl) rfl rfl rfl<|Q7 (vs:=[_,_,_,_,_,_,_,_]) rfl rfl rfl Jj rfl .here (.cons_cons _ (.cons_cons _ .slnil)) (fun _ h=>h.1.1.1.1) (.here (.here (.here (.here (.here (.here (.here (.here .nil)))))))) ⟨rfl,rfl,rfl,rfl,rfl,rfl,rfl,rfl,trivial⟩<|XE<|Ym ?_
      exact Jt ((b5,x15)) ⟨rfl,rfl,rfl,rfl,trivial⟩ subl_r (fun F ⟨⟨⟨⟨⟨⟨h1,h2⟩,⟨h3,h4⟩⟩,⟨h9,h9_⟩⟩,⟨h13,h13_⟩⟩,hs14⟩,⟨⟨h15,h15_⟩,⟨h15a,h15b⟩⟩⟩=>⟨⟨⟨h1,h2⟩,⟨h3,h4⟩⟩,⟨⟨h15,h15_⟩,⟨h15a,h15b⟩⟩⟩)
    ·
     refine X8 ZA (fun b5=>?_)
     refine XE<|XY 8 (by kernel_rfl) (by kernel_rfl) rfl rfl rfl ?_
     refine Jp rfl (Q6 G8) Qc Xw rfl rfl (fun b14=>?_) (fun w h=>h.imp (.cons _ (.cons_cons _ (.cons_cons _ .slnil))) (fun F h=>h.1.1))
     refine XE<|XY 9 (by kernel_rfl) (by kernel_rfl) rfl rfl rfl ?_
     refine QY rfl (fun w F hF ⟨⟨⟨⟨⟨h1,h2⟩,⟨h3,h4⟩⟩,⟨h9,h9_⟩⟩,⟨h13,h13_⟩⟩,hs14⟩=>KG hF (⟨h9,h9_⟩) (ps:=[(x13,a.2^n.toNat)]) (Q9.of (n:=1) (sz:=4) hs14 rfl) (fun p hp=>by simp only [List.mem_singleton] at hp;subst hp;exact⟨h13,h13_⟩) rfl (by omega) (⟨by omega,fun p hp=>by simp only [List.mem_singleton] at hp;subst hp;show JL (a.2^n.toNat)≤50000000;omega⟩)) (fun x15=>?_)
     refine XE<|XY 11 (by kernel_rfl) (by kernel_rfl) rfl rfl rfl<|Q7 (vs:=[_,_,_,_,_,_,_,_]) rfl rfl rfl Jj rfl .here (.cons_cons _ (.cons_cons _ .slnil)) (fun _ h=>h.1.1.1.1) (.here (.here (.here (.here (.here (.here (.here (.here .nil)))))))) ⟨rfl,rfl,rfl,rfl,rfl,rfl,rfl,rfl,trivial⟩<|XE<|Ym ?_
     exact Jt ((b5,x15)) ⟨rfl,rfl,rfl,rfl,trivial⟩ subl_r (fun F ⟨⟨⟨⟨⟨⟨h1,h2⟩,⟨h3,h4⟩⟩,⟨h9,h9_⟩⟩,⟨h13,h13_⟩⟩,hs14⟩,⟨⟨h15,h15_⟩,⟨h15a,h15b⟩⟩⟩=>⟨⟨⟨h1,h2⟩,⟨h3,h4⟩⟩,⟨⟨h15,h15_⟩,⟨h15a,h15b⟩⟩⟩)
   ·
    refine X8 ZA (fun b5=>?_)
    refine XE<|XY 7 (by kernel_rfl) (by kernel_rfl) rfl rfl rfl ?_
    refine QY rfl (fun w F hF ⟨⟨⟨h1,h2⟩,⟨h3,h4⟩⟩,⟨h9,h9_⟩⟩=>M0 hF ⟨by assumption,by assumption⟩ (hn.1) (by omega) (by omega)) (fun x13=>?_)
    refine XE<|XY 8 (by kernel_rfl) (by kernel_rfl) rfl rfl rfl ?_
    refine Jp rfl (Q6 G8) Qc Xw rfl rfl (fun b14=>?_) (fun w h=>h.imp (.cons _ (.cons_cons _ (.cons_cons _ .slnil))) (fun F h=>h.1.1))
    refine XE<|XY 9 (by kernel_rfl) (by kernel_rfl) rfl rfl rfl ?_
    refine QY rfl (fun w F hF ⟨⟨⟨⟨⟨h1,h2⟩,⟨h3,h4⟩⟩,⟨h9,h9_⟩⟩,⟨h13,h13_⟩⟩,hs14⟩=>KG hF (⟨h9,h9_⟩) (ps:=[(x13,a.2^n.toNat)]) (Q9.of (n:=1) (sz:=4) hs14 rfl) (fun p hp=>by simp only [List.mem_singleton] at hp;subst hp;exact⟨h13,h13_⟩) rfl (by omega) (⟨by omega,fun p hp=>by simp only [List.mem_singleton] at hp;subst hp;show JL (a.2^n.toNat)≤50000000;omega⟩)) (fun x15=>?_)
    refine XE<|XY 11 (by kernel_rfl) (by kernel_rfl) rfl rfl rfl<|Q7 (vs:=[_,_,_,_,_,_,_,_]) rfl rfl rfl Jj rfl .here (.cons_cons _ (.cons_cons _ .slnil)) (fun _ h=>h.1.1.1.1) (.here (.here (.here (.here (.here (.here (.here (.here .nil)))))))) ⟨rfl,rfl,rfl,rfl,rfl,rfl,rfl,rfl,trivial⟩<|XE<|Ym ?_
    exact Jt ((b5,x15)) ⟨rfl,rfl,rfl,rfl,trivial⟩ subl_r (fun F ⟨⟨⟨⟨⟨⟨h1,h2⟩,⟨h3,h4⟩⟩,⟨h9,h9_⟩⟩,⟨h13,h13_⟩⟩,hs14⟩,⟨⟨h15,h15_⟩,⟨h15a,h15b⟩⟩⟩=>⟨⟨⟨h1,h2⟩,⟨h3,h4⟩⟩,⟨⟨h15,h15_⟩,⟨h15a,h15b⟩⟩⟩)
  ·
   refine X8 ZA (fun b5=>?_)
   refine XE<|XY 3 (by kernel_rfl) (by kernel_rfl) rfl rfl rfl ?_
   refine QY rfl (fun w F hF ⟨⟨h1,h2⟩,⟨h3,h4⟩⟩=>M0 hF ⟨by assumption,by assumption⟩ (hn.1) (by omega) (by omega)) (fun x9=>?_)
   refine XE<|XY 7 (by kernel_rfl) (by kernel_rfl) rfl rfl rfl ?_
   refine QY rfl (fun w F hF ⟨⟨⟨h1,h2⟩,⟨h3,h4⟩⟩,⟨h9,h9_⟩⟩=>M0 hF ⟨by assumption,by assumption⟩ (hn.1) (by omega) (by omega)) (fun x13=>?_)
   refine XE<|XY 8 (by kernel_rfl) (by kernel_rfl) rfl rfl rfl ?_
   refine Jp rfl (Q6 G8) Qc Xw rfl rfl (fun b14=>?_) (fun w h=>h.imp (.cons _ (.cons_cons _ (.cons_cons _ .slnil))) (fun F h=>h.1.1))
   refine XE<|XY 9 (by kernel_rfl) (by kernel_rfl) rfl rfl rfl ?_
   refine QY rfl (fun w F hF ⟨⟨⟨⟨⟨h1,h2⟩,⟨h3,h4⟩⟩,⟨h9,h9_⟩⟩,⟨h13,h13_⟩⟩,hs14⟩=>KG hF (⟨h9,h9_⟩) (ps:=[(x13,a.2^n.toNat)]) (Q9.of (n:=1) (sz:=4) hs14 rfl) (fun p hp=>by simp only [List.mem_singleton] at hp;subst hp;exact⟨h13,h13_⟩) rfl (by omega) (⟨by omega,fun p hp=>by simp only [List.mem_singleton] at hp;subst hp;show JL (a.2^n.toNat)≤50000000;omega⟩)) (fun x15=>?_)
   refine XE<|XY 11 (by kernel_rfl) (by kernel_rfl) rfl rfl rfl<|Q7 (vs:=[_,_,_,_,_,_,_,_]) rfl rfl rfl Jj rfl .here (.cons_cons _ (.cons_cons _ .slnil)) (fun _ h=>h.1.1.1.1) (.here (.here (.here (.here (.here (.here (.here (.here .nil)))))))) ⟨rfl,rfl,rfl,rfl,rfl,rfl,rfl,rfl,trivial⟩<|XE<|Ym ?_
   exact Jt ((b5,x15)) ⟨rfl,rfl,rfl,rfl,trivial⟩ subl_r (fun F ⟨⟨⟨⟨⟨⟨h1,h2⟩,⟨h3,h4⟩⟩,⟨h9,h9_⟩⟩,⟨h13,h13_⟩⟩,hs14⟩,⟨⟨h15,h15_⟩,⟨h15a,h15b⟩⟩⟩=>⟨⟨⟨h1,h2⟩,⟨h3,h4⟩⟩,⟨⟨h15,h15_⟩,⟨h15a,h15b⟩⟩⟩)
 ·intro i
  simp only [List.cons_append,List.nil_append]
  refine QG ?_
  refine KZ [(4,_),(5,_)] [(34,.bool ((decide (n>0)&&(decide (n%2=0)&&(decide (EP a.1.num<0)&&decide (EP a.2.num>0))))))] ⟨rfl,rfl,trivial⟩ ?_ ?_
  ·
   refine QB<|JS_mv rfl<|QA (QV rfl rfl rfl)<|JS_mv rfl ?_
   refine Qn (t:=18) rfl (fun hb18=>?_) (fun hb18=>?_)
   ·
    refine QL rfl rfl<|JS_mv rfl<|QL rfl rfl<|QA (Kc rfl rfl (by omega) (by omega))<|QL rfl rfl<|QA (QV rfl rfl rfl)<|QA (Qi rfl rfl rfl)<|JS_mv rfl ?_
    refine Qn (t:=23) rfl (fun hb23=>?_) (fun hb23=>?_)
    ·
     refine QL rfl rfl<|QA (QH rfl ZE Qc)<|QL rfl rfl<|QA (QJ (vs:=[_,_,_,_]) rfl Qc (.there (.there .here)) (.here (.here (.here (.here .nil)))) rfl)<|QL rfl rfl ?_
     refine QI rfl (fun w F hF ⟨⟨⟨h1,h2⟩,⟨h3,h4⟩⟩,⟨⟨k1,k2⟩,⟨k3,k4⟩⟩⟩=>GP hF ⟨by assumption,by assumption⟩) (fun _=>?_)
     refine QL rfl rfl<|QA (QV rfl rfl rfl)<|QA (Qi rfl rfl rfl)<|JS_mv rfl ?_
     refine Qn (t:=29) rfl (fun hb29=>?_) (fun hb29=>?_)
     ·
      refine QL rfl rfl<|QA (QH rfl ZV Qc)<|QL rfl rfl<|QA (QJ (vs:=[_,_,_,_]) rfl Qc (.there (.there .here)) (.skip (.skip (.skip (.skip (.here (.here (.here (.here .nil)))))))) rfl)<|QL rfl rfl ?_
      refine QI rfl (fun w F hF ⟨⟨⟨⟨h1,h2⟩,⟨h3,h4⟩⟩,⟨⟨k1,k2⟩,⟨k3,k4⟩⟩⟩,_⟩=>GP hF ⟨by assumption,by assumption⟩) (fun _=>?_)
      refine QL rfl rfl<|QA (QV rfl rfl rfl)<|QA (Qi rfl rfl rfl)<|QE ?_
      exact X0 ⟨rfl,rfl,(congrArg (fun b=>some (Value.bool b)) (by rw [Bool.eq_iff_iff];simp_all<;>(intros;omega))),trivial⟩ subl_r (fun _ h=>h.1.1)
     ·
      refine QO rfl rfl rfl<|QO rfl rfl rfl<|QO rfl rfl rfl<|QO rfl rfl rfl<|QA (Qh rfl rfl rfl)<|QE ?_
      exact X0 ⟨rfl,rfl,(congrArg (fun b=>some (Value.bool b)) (by rw [Bool.eq_iff_iff];simp_all<;>(intros;omega))),trivial⟩ subl_r (fun _ h=>h.1)
    ·
     refine QO rfl rfl rfl<|QO rfl rfl rfl<|QO rfl rfl rfl<|QO rfl rfl rfl<|QA (Qh rfl rfl rfl)<|JS_mv rfl<|QO rfl rfl rfl<|QO rfl rfl rfl<|QO rfl rfl rfl<|QO rfl rfl rfl<|QA (Qh rfl rfl rfl)<|QE ?_
     exact X0 ⟨rfl,rfl,(congrArg (fun b=>some (Value.bool b)) (by rw [Bool.eq_iff_iff];simp_all<;>(intros;omega))),trivial⟩ subl_r (fun _ h=>h)
   ·
    refine QO rfl rfl rfl<|QO rfl rfl rfl<|QO rfl rfl rfl<|QA (Qh rfl rfl rfl)<|JS_mv rfl<|QO rfl rfl rfl<|QO rfl rfl rfl<|QO rfl rfl rfl<|QO rfl rfl rfl<|QA (Qh rfl rfl rfl)<|JS_mv rfl<|QO rfl rfl rfl<|QO rfl rfl rfl<|QO rfl rfl rfl<|QO rfl rfl rfl<|QA (Qh rfl rfl rfl)<|QE ?_
    exact X0 ⟨rfl,rfl,(congrArg (fun b=>some (Value.bool b)) (by rw [Bool.eq_iff_iff];simp_all<;>(intros;omega))),trivial⟩ subl_r (fun _ h=>h)
  ·
   simp only [List.cons_append,List.nil_append]
   refine QR rfl (fun hc=>?_) (fun hc=>?_)
   ·
    refine QB ?_
    refine QI rfl (fun w F hF ⟨⟨⟨h1,h2⟩,⟨h3,h4⟩⟩,⟨⟨k1,k2⟩,⟨k3,k4⟩⟩⟩=>gG hF (by omega) (by omega)) (fun x35=>?_)
    refine QA (QH rfl ZE Qc)<|QN (vs:=[_,_,_,_]) rfl rfl rfl Qc rfl .here (.here (.here (.here (.here .nil)))) ⟨rfl,rfl,rfl,rfl,trivial⟩<|JS_nt<|J_sr<|QA (QJ (vs:=[_,_,_,_,_,_,_,_]) rfl Jj .here (.here (.here (.here (.here (.here (.here (.here (.here .nil)))))))) rfl)<|QN (vs:=[_,_,_,_,_,_,_,_]) rfl rfl rfl Jj rfl (.there .here) (.here (.here (.here (.here (.here (.here (.here (.here .nil)))))))) ⟨rfl,rfl,rfl,rfl,rfl,rfl,rfl,rfl,trivial⟩<|JS_nt<|QT ?_
    exact QQ (⟨x35,i.2.hi⟩) rfl (.JU (c:=[_,_,_,_,_,_,_,_]) rfl Jj (.there .here) .nil) (rfl) (fun F ⟨⟨⟨⟨h1,h2⟩,⟨h3,h4⟩⟩,⟨⟨k1,k2⟩,⟨k3,k4⟩⟩⟩,⟨h35,h35_⟩⟩=>by have e:(Vx a n)=(0,(Y7 (a.1^n.toNat) [a.2^n.toNat]).2):=(by unfold Vx;rw [if_pos hc]);rw [e];exact⟨⟨h35,h35_⟩,⟨k3,k4⟩⟩)
   ·
    refine QP<|QC<|J_sr<|QA (QJ (vs:=[_,_,_,_,_,_,_,_]) rfl Jj .here (.here (.here (.here (.here (.here (.here (.here (.here .nil)))))))) rfl)<|QN (vs:=[_,_,_,_,_,_,_,_]) rfl rfl rfl Jj rfl (.there .here) (.here (.here (.here (.here (.here (.here (.here (.here .nil)))))))) ⟨rfl,rfl,rfl,rfl,rfl,rfl,rfl,rfl,trivial⟩<|JS_nt<|QT ?_
    exact QQ (i.2) rfl (.JU (c:=[_,_,_,_,_,_,_,_]) rfl Jj (.there .here) .nil) (rfl) (fun F ⟨⟨⟨h1,h2⟩,⟨h3,h4⟩⟩,⟨⟨k1,k2⟩,⟨k3,k4⟩⟩⟩=>by have e:(Vx a n)=(Y7 (a.1^n.toNat) [a.2^n.toNat]):=(by unfold Vx;rw [if_neg (by rw [hc];decide)]);rw [e];exact⟨⟨k1,k2⟩,⟨k3,k4⟩⟩)
end
section
open Go.RowKit Ig
def GH (n:Int):Int:=if n<0∨n>12 then 3 else 0
theorem CS {n:Int} (h:GH n=0):0≤n∧n≤12:=by unfold GH at h;split at h<;>omega
def NT (lo hi:List UInt8) (n:Int):(List UInt8×List UInt8)×Int:=if Qm [JM lo hi,GH n]=0 then Vi (Vx (Ju lo,Ju hi) n) else(([],[]),Qm [JM lo hi,GH n])
theorem AT:JL 0≤1:=by decide
theorem Cf {a:Rat×Rat} {n:Int} (hn:0≤n∧n≤12) (h:JL a.1≤1000000∧JL a.2≤1000000):JL (Vx a n).1≤12000001∧JL (Vx a n).2≤12000001:=by
 have p1:=Vj a.1 n.toNat
 have p2:=Vj a.2 n.toNat
 have m1:n.toNat*JL a.1≤12*1000000:=Nat.mul_le_mul (by omega) h.1
 have m2:n.toNat*JL a.2≤12*1000000:=Nat.mul_le_mul (by omega) h.2
 have ha:=GV (k:=12000001) [a.2^n.toNat] (a.1^n.toNat,a.1^n.toNat) ⟨by show JL (a.1^n.toNat)≤_;omega,by show JL (a.1^n.toNat)≤_;omega⟩ (fun x hx=>by simp only [List.mem_singleton] at hx;subst hx;omega)
 unfold Vx
 refine⟨?_,ha.2⟩
 show JL (if _ then _ else _)≤_
 split
 ·have:=AT;omega
 ·exact ha.1
theorem Na {w:World} {F:Gs} {lo hi:List UInt8} {n:Int} (hF:Fits F w) (hG:JB F) (hl:lo.length≤1000000∧hi.length≤1000000):QZ Tryz.prog 48 [.agg #[tx lo,tx hi],.int .i64 n] w F (.tuple #[.agg #[tx (NT lo hi n).1.1,tx (NT lo hi n).1.2],.int .i64 (NT lo hi n).2]):=by
 refine QS.intro (G:=fun F=>JB F) Tryz.func48 rfl (by rfl) rfl rfl hF (fun F' hF'=>hG.le hF')<|J_sr<|Qw rfl (vs:=[_,_]) rfl (fun b2=>Qb ZN (fun b4=>JS_as rfl<|JS_nt<|QG ?_))
 refine KZ [(1,_),(2,_),(4,_)] [(6,.int .i64 (Qm [JM lo hi,GH n]))] ⟨rfl,rfl,rfl,trivial⟩ ?_ ?_
 ·
  refine QB<|QA (QJ (vs:=[_,_]) rfl JC (.there .here) (.here (.here .nil)) rfl)<|QI rfl (fun w F hF hGl=>YX hF hGl (hl)) (fun _=>JS_mv rfl<|QA (QV rfl rfl rfl)<|JS_mv rfl ?_)
  refine Qn (t:=11) rfl (fun hb11=>?_) (fun hb11=>?_)
  ·
   refine QO rfl rfl rfl<|QO rfl rfl rfl<|QA (Qi rfl rfl rfl)<|QI rfl (fun w F hF ⟨hGl,_⟩=>Zn hF ) (fun _=>QU rfl (Q6 ZX) Yp Ho rfl rfl (fun b16=>QI rfl (fun w F hF ⟨⟨⟨hGl,_⟩,_⟩,hs16⟩=>Zm hF (Q9.of (cs:=List.map Qx [JM lo hi,(if(true:Bool)=true then 3 else 0)]) hs16 rfl) (by decide)) (fun _=>JS_as rfl<|QE ?_)))
   exact X0 ⟨rfl,rfl,rfl,(congrArg (fun z:Int=>some (Value.int .i64 z)) (by have h:=dec_t hb11;have e:GH n=3:=(by unfold GH;rw [if_pos (.inl h)]);rw [e];rfl)),trivial⟩ subl_r (fun _ h=>h.1.1.1.1)
  ·
   refine QL rfl rfl<|JS_mv rfl<|QL rfl rfl<|QA (QV rfl rfl rfl)<|QA (Qh rfl rfl rfl)<|QI rfl (fun w F hF ⟨hGl,_⟩=>Zn hF ) (fun _=>QU rfl (Q6 ZX) Yp Ho rfl rfl (fun b16=>QI rfl (fun w F hF ⟨⟨⟨hGl,_⟩,_⟩,hs16⟩=>Zm hF (Q9.of (cs:=List.map Qx [JM lo hi,(if(decide (n>12))=true then 3 else 0)]) hs16 rfl) (by decide)) (fun _=>JS_as rfl<|QE ?_)))
   exact X0 ⟨rfl,rfl,rfl,(congrArg (fun z:Int=>some (Value.int .i64 z)) (by have h:=dec_f hb11;have e:GH n=(if(decide (n>12))=true then 3 else 0):=(by unfold GH;by_cases g:n>12<;>simp [g,h]);rw [e])),trivial⟩ subl_r (fun _ h=>h.1.1.1.1)
 ·
  simp only [List.cons_append,List.nil_append]
  refine J_sr<|JS_mv rfl<|QA (QV rfl rfl rfl)<|QE<|QC ?_
  refine QR rfl (fun hc=>?_) (fun hc=>?_)
  ·
   have he:¬ Qm [JM lo hi,GH n]=0:=by simpa using hc
   refine J_sr<|QA (Qy rfl Z7 ZN .nil)<|JS_mv rfl<|QN (vs:=[_,_]) rfl rfl rfl JC rfl .here (.here (.here .nil)) ⟨rfl,rfl,trivial⟩<|JS_as rfl<|JS_nt<|QT ?_
   exact JY (()) rfl (.JU (c:=[_,_]) rfl JC .here (.tmp rfl .nil)) (by unfold NT;rw [if_neg he];rfl) (fun F hGl=>trivial)
  ·
   have he:Qm [JM lo hi,GH n]=0:=by simpa using hc
   obtain ⟨e1,e2⟩:=Zf he
   obtain ⟨k1,k2,_⟩:=Z2 e1
   have hn:=CS e2
   have s1:=XH k1
   have s2:=XH k2
   have hps:=Cf (a:=(Ju lo,Ju hi)) hn ⟨by show JL (Ju lo)≤_;omega,by show JL (Ju hi)≤_;omega⟩
   refine QP<|QC<|J_sr<|QA (QJ (vs:=[_,_]) rfl JC (.there .here) (.here (.here .nil)) rfl)<|QI rfl (fun w F hF hGl=>Yx hF hGl (k1) (k2) (hl)) (fun x23=>JS_mv rfl<|QI rfl (fun w F hF ⟨hGl,⟨⟨h23,h23_⟩,⟨h23a,h23b⟩⟩⟩=>SV hF ⟨⟨h23,h23_⟩,⟨h23a,h23b⟩⟩ hn ⟨Nat.le_trans s1 (by decide),Nat.le_trans s2 (by decide)⟩) (fun x25=>QI rfl (fun w F hF ⟨⟨hGl,⟨⟨h23,h23_⟩,⟨h23a,h23b⟩⟩⟩,⟨⟨h25,h25_⟩,⟨h25a,h25b⟩⟩⟩=>EU hF hGl (r:=Vx (Ju lo,Ju hi) n) ⟨⟨h25,h25_⟩,⟨h25a,h25b⟩⟩ ⟨by omega,by omega⟩) (fun _=>QA (QM rfl rfl)<|QA (QM rfl rfl)<|QN (vs:=[_,_]) rfl rfl rfl JC rfl .here (.here (.here .nil)) ⟨rfl,rfl,trivial⟩<|JS_as rfl<|JS_nt<|QT ?_)))
   exact JY (()) rfl (.JU (c:=[_,_]) rfl JC .here (.tmp rfl .nil)) (by unfold NT;rw [if_pos he];rfl) (fun F ⟨⟨⟨hGl,⟨⟨h23,h23_⟩,⟨h23a,h23b⟩⟩⟩,⟨⟨h25,h25_⟩,⟨h25a,h25b⟩⟩⟩,_⟩=>trivial)
end
end Go.Proofs.YtknegjaeoffnbaaGreatDoor
namespace Ig
def Zi:List Int→List Int→Bool
 |x::a,y::b=>decide (y<x)||(decide (x=y)&&Zi a b)
 |_::_,[]=>true
 |[],_=>false
def before (a b:List Int):Bool:=decide (b.sum<a.sum)||(decide (a.sum=b.sum)&&Zi a b)
theorem BI:∀ a:List Int,Zi a a=false
 |[]=>rfl
 |x::a=>by simp [Zi,BI a]
theorem Dl:∀ {a b c:List Int},Zi a b=true→Zi b c=true→Zi a c=true
 |[],_,_,h,_=>by simp [Zi] at h
 |_::_,[],_,_,h=>by simp [Zi] at h
 |_::_,_::_,[],_,_=>rfl
 |x::a,y::b,z::c,h,k=>by
  simp only [Zi,Bool.or_eq_true,Bool.and_eq_true,decide_eq_true_eq] at h k ⊢
  rcases h with h | ⟨h,h'⟩<;>rcases k with k | ⟨k,k'⟩
  ·left;omega
  ·left;omega
  ·left;omega
  ·right;exact⟨by omega,Dl h' k'⟩
theorem Pd:∀ a b:List Int,a=b∨Zi a b=true∨Zi b a=true
 |[],[]=>.inl rfl
 |[],_::_=>.inr (.inr rfl)
 |_::_,[]=>.inr (.inl rfl)
 |x::a,y::b=>by
  simp only [Zi,Bool.or_eq_true,Bool.and_eq_true,decide_eq_true_eq,List.cons.injEq]
  rcases Int.lt_trichotomy x y with h | h | h
  ·right;right;left;omega
  ·rcases Pd a b with k | k | k
   ·left;exact⟨h,k⟩
   ·right;left;right;exact⟨h,k⟩
   ·right;right;right;exact⟨h.symm,k⟩
  ·right;left;left;omega
theorem before_irrefl (a:List Int):before a a=false:=by simp [before,BI]
theorem before_trans {a b c:List Int} (h:before a b=true) (k:before b c=true):before a c=true:=by
 simp only [before,Bool.or_eq_true,Bool.and_eq_true,decide_eq_true_eq] at h k ⊢
 rcases h with h | ⟨h,h'⟩<;>rcases k with k | ⟨k,k'⟩
 ·left;omega
 ·left;omega
 ·left;omega
 ·right;exact⟨by omega,Dl h' k'⟩
theorem Y1 (a b:List Int):a=b∨before a b=true∨before b a=true:=by
 simp only [before,Bool.or_eq_true,Bool.and_eq_true,decide_eq_true_eq]
 rcases Int.lt_trichotomy a.sum b.sum with h | h | h
 ·right;right;left;exact h
 ·rcases Pd a b with k | k | k
  ·left;exact k
  ·right;left;right;exact⟨h,k⟩
  ·right;right;right;exact⟨h.symm,k⟩
 ·right;left;left;exact h
theorem IM {a b:List Int} (h:before a b=true):a≠b:=by
 rintro rfl;rw [before_irrefl] at h;cases h
theorem qX {a b:List Int} (h:before a b=true):before b a=false:=by
 cases hb:before b a with
 |false=>rfl
 |true=>have:=before_trans h hb;rw [before_irrefl] at this;cases this
abbrev Tm:=Rat×List Int
def Jl:List Tm→List Int→Rat
 |[],_=>0
 |t::p,k=>(if t.2=k then t.1 else 0)+Jl p k
theorem KF (p q:List Tm) (k:List Int):Jl (p++q) k=Jl p k+Jl q k:=by
 induction p with
 |nil=>simp [Jl,Rat.zero_add]
 |cons t p ih=>simp only [List.cons_append,Jl,ih,Rat.add_assoc]
structure Canon (p:List Tm):Prop where
 jD:p.Pairwise (fun x y=>before x.2 y.2=true)
 nz:∀ t∈p,t.1≠0
theorem Canon.nil:Canon []:=⟨List.Pairwise.nil,fun _ h=>by cases h⟩
theorem Canon.tail {t:Tm} {p:List Tm} (h:Canon (t::p)):Canon p:=⟨(List.pairwise_cons.1 h.jD).2,fun x hx=>h.nz x (List.mem_cons_of_mem _ hx)⟩
theorem Y0 {p:List Tm} {k:List Int} (h:∀ t∈p,t.2≠k):Jl p k=0:=by
 induction p with
 |nil=>rfl
 |cons t p ih=>rw [Jl,if_neg (h t (by simp)),ih (fun x hx=>h x (by simp [hx])),Rat.zero_add]
theorem Canon.head {t:Tm} {p:List Tm} (h:Canon (t::p)):Jl (t::p) t.2=t.1:=by
 rw [Jl,if_pos rfl,Y0,Rat.add_zero]
 intro x hx e
 have:=(List.pairwise_cons.1 h.jD).1 x hx
 rw [e,before_irrefl] at this;cases this
theorem Canon.after {t:Tm} {p:List Tm} (h:Canon (t::p)):Jl p t.2=0:=Y0 fun x hx e=>by
 have:=(List.pairwise_cons.1 h.jD).1 x hx
 rw [e,before_irrefl] at this;cases this
theorem Canon.early {t:Tm} {p:List Tm} (h:Canon (t::p)) {k:List Int} (hk:before k t.2=true):Jl (t::p) k=0:=Y0 fun x hx e=>by
 rcases List.mem_cons.1 hx with rfl | hx
 ·rw [e,before_irrefl] at hk;cases hk
 ·have:=before_trans hk ((List.pairwise_cons.1 h.jD).1 x hx)
  rw [e,before_irrefl] at this;cases this
theorem Pw:∀ {p q:List Tm},Canon p→Canon q→(∀ k,Jl p k=Jl q k)→p=q
 |[],[],_,_,_=>rfl
 |[],y::q,_,hq,h=>by
  have:=h y.2
  rw [hq.head] at this
  exact absurd this.symm (hq.nz y (by simp))
 |x::p,[],hp,_,h=>by
  have:=h x.2
  rw [hp.head] at this
  exact absurd this (hp.nz x (by simp))
 |x::p,y::q,hp,hq,h=>by
  rcases Y1 x.2 y.2 with e | e | e
  ·have h1:=h x.2
   rw [hp.head] at h1
   have h2:=hq.head
   rw [← e] at h2
   rw [h2] at h1
   have hxy:x=y:=Prod.ext h1 e
   subst hxy
   congr 1
   refine Pw hp.tail hq.tail (fun k=>?_)
   have h3:=h k
   simp only [Jl] at h3
   generalize Jl p k=a at *
   generalize Jl q k=b at *
   grind
  ·have h1:=h x.2
   rw [hp.head,hq.early e] at h1
   exact absurd h1 (hp.nz x (by simp))
  ·have h1:=h y.2
   rw [hq.head,hp.early e] at h1
   exact absurd h1.symm (hq.nz y (by simp))
def ZY:List Tm→Tm→List Tm
 |[],t=>if t.1=0 then [] else [t]
 |x::p,t=>if before x.2 t.2=true then x::ZY p t else if x.2=t.2 then(if x.1+t.1=0 then p else(x.1+t.1,t.2)::p) else if t.1=0 then x::p else t::x::p
theorem AE (p:List Tm) (t:Tm) (k:List Int):Jl (ZY p t) k=Jl p k+(if t.2=k then t.1 else 0):=by
 induction p with
 |nil =>
  unfold ZY
  split
  ·rename_i h;rw [h];simp [Jl,Rat.add_zero]
  ·simp [Jl,Rat.zero_add,Rat.add_zero]
 |cons x p ih =>
  unfold ZY
  split
  ·simp only [Jl,ih,Rat.add_assoc]
  ·split
   ·rename_i h
    split
    ·rename_i h0
     simp only [Jl]
     rw [h]
     by_cases hk:t.2=k
     ·simp only [hk,if_true]
      rw [Rat.add_assoc,Rat.add_comm (Jl p k),← Rat.add_assoc,h0,Rat.zero_add]
     ·simp only [hk,if_false,Rat.zero_add,Rat.add_zero]
    ·simp only [Jl]
     rw [h]
     by_cases hk:t.2=k
     ·simp only [hk,if_true]
      rw [Rat.add_assoc,Rat.add_assoc,Rat.add_comm t.1]
     ·simp only [hk,if_false,Rat.zero_add,Rat.add_zero]
   ·split
    ·rename_i h0;rw [h0];simp [Rat.add_zero]
    ·simp only [Jl];rw [Rat.add_comm]
theorem B5 {p:List Tm} {t x:Tm} (h:x∈ZY p t):x∈p∨x.2=t.2:=by
 induction p with
 |nil =>
  unfold ZY at h
  split at h
  ·cases h
  ·simp at h;subst h;exact .inr rfl
 |cons y p ih =>
  unfold ZY at h
  split at h
  ·rcases List.mem_cons.1 h with rfl | h
   ·exact .inl (by simp)
   ·rcases ih h with h | h
    ·exact .inl (by simp [h])
    ·exact .inr h
  ·split at h
   ·split at h
    ·exact .inl (by simp [h])
    ·rcases List.mem_cons.1 h with rfl | h
     ·exact .inr rfl
     ·exact .inl (by simp [h])
   ·split at h
    ·exact .inl h
    ·rcases List.mem_cons.1 h with rfl | h
     ·exact .inr rfl
     ·exact .inl h
theorem Canon.ZY {p:List Tm} (h:Canon p) (t:Tm):Canon (Ig.ZY p t):=by
 induction p with
 |nil =>
  unfold Ig.ZY
  split
  ·exact Canon.nil
  ·rename_i h0;exact⟨List.pairwise_singleton _ _,fun x hx=>by simp at hx;subst hx;exact h0⟩
 |cons x p ih =>
  have hs:=List.pairwise_cons.1 h.jD
  unfold Ig.ZY
  split
  ·rename_i hb
   have hc:=ih h.tail
   refine⟨List.pairwise_cons.2 ⟨fun y hy=>?_,hc.jD⟩,fun y hy=>?_⟩
   ·rcases B5 hy with hy | hy
    ·exact hs.1 y hy
    ·rw [hy];exact hb
   ·rcases List.mem_cons.1 hy with rfl | hy
    ·exact h.nz _ (by simp)
    ·exact hc.nz y hy
  ·rename_i hb
   split
   ·rename_i he
    split
    ·exact h.tail
    ·rename_i h0
     refine⟨List.pairwise_cons.2 ⟨fun y hy=>?_,hs.2⟩,fun y hy=>?_⟩
     ·have:=hs.1 y hy;rw [he] at this;exact this
     ·rcases List.mem_cons.1 hy with rfl | hy
      ·exact h0
      ·exact h.nz y (by simp [hy])
   ·rename_i he
    split
    ·exact h
    ·rename_i h0
     have hb':before t.2 x.2=true:=by
      rcases Y1 x.2 t.2 with q | q | q
      ·exact absurd q he
      ·exact absurd q hb
      ·exact q
     refine⟨List.pairwise_cons.2 ⟨fun y hy=>?_,h.jD⟩,fun y hy=>?_⟩
     ·rcases List.mem_cons.1 hy with rfl | hy
      ·exact hb'
      ·exact before_trans hb' (hs.1 y hy)
     ·rcases List.mem_cons.1 hy with rfl | hy
      ·exact h0
      ·exact h.nz y hy
def XC (l:List Tm):List Tm:=l.foldl ZY []
theorem M3 (l:List Tm):∀ {p:List Tm},Canon p→Canon (l.foldl ZY p)∧∀ k,Jl (l.foldl ZY p) k=Jl p k+Jl l k:=by
 induction l with
 |nil=>intro p h;exact⟨h,fun k=>by simp [Jl,Rat.add_zero]⟩
 |cons t l ih =>
  intro p h
  obtain ⟨h1,h2⟩:=ih (h.ZY t)
  exact⟨h1,fun k=>by rw [List.foldl_cons,h2,AE,Jl,Rat.add_assoc]⟩
theorem YY (l:List Tm):Canon (XC l):=(M3 l Canon.nil).1
theorem WK (l:List Tm) (k:List Int):Jl (XC l) k=Jl l k:=by
 rw [XC,(M3 l Canon.nil).2,Jl,Rat.zero_add]
def EO (p q:List Tm):Prop:=∀ k,Jl p k=Jl q k
theorem EO.refl (p:List Tm):EO p p:=fun _=>rfl
theorem EO.symm {p q:List Tm} (h:EO p q):EO q p:=fun k=>(h k).symm
theorem EO.trans {p q r:List Tm} (h:EO p q) (h':EO q r):EO p r:=fun k=>(h k).trans (h' k)
theorem EO.append {p q p' q':List Tm} (h:EO p p') (h':EO q q'):EO (p++q) (p'++q'):=fun k=>by rw [KF,KF,h,h']
theorem S4 {p l:List Tm} (hp:Canon p) (h:EO p l):p=XC l:=Pw hp (YY l) fun k=>by rw [WK,h]
theorem Wu {p:List Tm} (hp:Canon p):XC p=p:=(S4 hp (EO.refl p)).symm
theorem EO.perm {l m:List Tm} (h:l.Perm m):EO l m:=by
 intro k
 induction h with
 |nil=>rfl
 |cons x _ ih=>rw [Jl,Jl,ih]
 |swap x y l=>simp only [Jl];rw [← Rat.add_assoc,← Rat.add_assoc];congr 1;exact Rat.add_comm _ _
 |trans _ _ h1 h2=>exact h1.trans h2
theorem EO.cons {p q:List Tm} (t:Tm) (h:EO p q):EO (t::p) (t::q):=fun k=>by rw [Jl,Jl,h]
theorem eqv_filter (p:List Tm):EO (p.filter (fun t=>decide (t.1≠0))) p:=by
 induction p with
 |nil=>exact EO.refl _
 |cons t p ih =>
  rw [List.filter_cons]
  split
  ·exact ih.cons t
  ·rename_i h
   have h0:t.1=0:=by simpa using h
   intro k
   rw [Jl,h0,ih k];simp [Rat.zero_add]
def Xj (a b:List Int):List Int:=List.zipWith (·+·) a b
theorem KH {a b:List Int} (h:a.length=b.length):(Xj a b).length=a.length:=by simp [Xj,h]
def UM (k a:List Int):List Int:=List.zipWith (· - ·) k a
theorem Dy:∀ {a b k:List Int},a.length=b.length→(Xj a b=k↔k.length=a.length∧b=UM k a)
 |[],[],k,_=>by cases k<;>simp [Xj,UM]
 |x::a,y::b,[],_=>by simp [Xj]
 |x::a,y::b,z::k,h=>by
  have ih:=Dy (a:=a) (b:=b) (k:=k) (by simpa using h)
  simp only [Xj,UM,List.zipWith_cons_cons,List.cons.injEq,List.length_cons,Nat.add_right_cancel_iff] at ih ⊢
  rw [ih]
  constructor
  ·rintro ⟨h1,h2,h3⟩;exact⟨h2,by omega,h3⟩
  ·rintro ⟨h1,h2,h3⟩;exact⟨by omega,h1,h3⟩
def XP (s:Tm) (q:List Tm):List Tm:=q.map fun t=>(s.1*t.1,Xj s.2 t.2)
def Jg (p q:List Tm):List Tm:=p.flatMap fun s=>XP s q
def Ys (n:Nat) (p:List Tm):Prop:=∀ t∈p,t.2.length=n
theorem Ys.append {n:Nat} {p q:List Tm} (h:Ys n p) (k:Ys n q):Ys n (p++q):=fun t ht=>by
 rcases List.mem_append.1 ht with ht | ht
 ·exact h t ht
 ·exact k t ht
theorem Ys.tail {n:Nat} {t:Tm} {p:List Tm} (h:Ys n (t::p)):Ys n p:=fun x hx=>h x (by simp [hx])
theorem Ys.XP {n:Nat} {s:Tm} {q:List Tm} (hs:s.2.length=n) (h:Ys n q):Ys n (Ig.XP s q):=fun t ht=>by
 obtain ⟨u,hu,rfl⟩:=List.mem_map.1 ht
 show(Xj s.2 u.2).length=n
 rw [KH (by rw [hs,h u hu]),hs]
theorem Ys.Jg {n:Nat} {p q:List Tm} (h:Ys n p) (k:Ys n q):Ys n (Ig.Jg p q):=fun t ht=>by
 obtain ⟨s,hs,ht⟩:=List.mem_flatMap.1 ht
 exact k.XP (h s hs) t ht
theorem Ys.ZY {n:Nat} {p:List Tm} {t:Tm} (h:Ys n p) (ht:t.2.length=n):Ys n (Ig.ZY p t):=fun x hx=>by
 rcases B5 hx with hx | hx
 ·exact h x hx
 ·rw [hx];exact ht
theorem Ys.XC {n:Nat} {l:List Tm} (h:Ys n l):Ys n (Ig.XC l):=by
 have:∀ (l p:List Tm),Ys n p→Ys n l→Ys n (l.foldl Ig.ZY p):=by
  intro l
  induction l with
  |nil=>intro p hp _;exact hp
  |cons t l ih=>intro p hp hl;exact ih _ (hp.ZY (hl t (by simp))) hl.tail
 exact this l [] (fun _ h=>by cases h) h
theorem To {n:Nat} {s:Tm} {q:List Tm} (hs:s.2.length=n) (h:Ys n q) (k:List Int):Jl (XP s q) k=if k.length=n then s.1*Jl q (UM k s.2) else 0:=by
 induction q with
 |nil=>simp [XP,Jl,Rat.mul_zero]
 |cons t q ih =>
  have ht:t.2.length=n:=h t (by simp)
  have hk:=Dy (a:=s.2) (b:=t.2) (k:=k) (by rw [hs,ht])
  rw [XP,List.map_cons,Jl]
  show(if Xj s.2 t.2=k then s.1*t.1 else 0)+Jl (XP s q) k=_
  rw [ih h.tail]
  by_cases hl:k.length=n
  ·rw [if_pos hl,if_pos hl,Jl,Rat.mul_add]
   congr 1
   by_cases e:Xj s.2 t.2=k
   ·rw [if_pos e,if_pos (hk.1 e).2]
   ·rw [if_neg e,if_neg (fun q=>e (hk.2 ⟨by rw [hl,hs],q⟩)),Rat.mul_zero]
  ·rw [if_neg hl,if_neg hl,if_neg (fun e=>hl (by rw [(hk.1 e).1,hs])),Rat.zero_add]
theorem V9 (s:Tm) (p q:List Tm):Jg (s::p) q=XP s q++Jg p q:=by simp [Jg]
theorem Gk (s:Tm) (p q:List Tm):XP s (p++q)=XP s p++XP s q:=by simp [XP]
theorem BC (p p' q:List Tm):Jg (p++p') q=Jg p q++Jg p' q:=by simp [Jg]
end Ig
namespace Go.Proofs.YtknegjaeoffnbaaGreatDoor
section
open Go.RowKit Ig
variable [Dr]
def PW (l:List Int):Prop:=(∀ x∈l,0≤x∧x≤1000000)∧l.length≤1000
theorem PW.el {l:List Int} (h:PW l) {i:Nat} (hi:i<l.length):0≤Qg l i∧Qg l i≤1000000:=by rw [Xp hi];exact h.1 _ (Jc hi)
theorem MO {l:List Int} {i:Nat} (hi:i<l.length):(l.take (i+1)).sum=(l.take i).sum+Qg l i:=by
 rw [ZD hi,List.sum_append,Xp hi];simp
theorem PW.sum {l:List Int} (h:PW l):∀ i,i≤l.length→0≤(l.take i).sum∧(l.take i).sum≤i*1000000:=by
 intro i
 induction i with
 |zero=>intro _;simp
 |succ i ih =>
  intro hi
  have h1:=ih (by omega)
  have h2:=h.el (i:=i) (by omega)
  rw [MO (by omega)]
  omega
theorem H9 (l:List Int):Qm l=Qm (l.map fun x=>x):=by rw [List.map_id']
def T5:List Int→List Int→Int
 |[],[]=>0
 |[],_::_=>-1
 |_::_,[]=>1
 |x::a,y::b=>if ZO x y≠0 then ZO x y else T5 a b
theorem RB:∀ a b:List Int,(T5 b a<0↔Zi a b=true)∧(T5 b a=0↔a=b)
 |[],[]=>by simp [T5,Zi]
 |[],_::_=>by simp [T5,Zi]
 |_::_,[]=>by simp [T5,Zi]
 |x::a,y::b=>by
  have ih:=RB a b
  unfold T5 Zi ZO
  by_cases h1:y<x
  ·simp [h1];omega
  ·by_cases h2:y=x
   ·subst h2;simp [ih.1,ih.2]
   ·have h3:¬ x=y:=fun e=>h2 e.symm
    simp [h1,h2,h3]
theorem Ed (x y:Int):Lib.compareInt x y=ZO x y:=by
 unfold Lib.compareInt ZO
 by_cases h1:x<y
 ·simp [h1]
 ·by_cases h2:x=y
  ·subst h2;simp
  ·have h3:y<x:=by omega
   simp [h1,h2,h3]
def VC (a b:List Int):Int:=Qm [ZO b.sum a.sum,T5 b a]
theorem WL (a b:List Int):before a b=decide (VC a b<0):=by
 obtain ⟨h1,h2⟩:=RB a b
 unfold before VC
 rw [Bool.eq_iff_iff,decide_eq_true_iff]
 simp only [Qm]
 by_cases h:b.sum<a.sum
 ·have e:ZO b.sum a.sum = -1:=by unfold ZO;rw [if_pos h]
  rw [e];simp [h]
 ·by_cases g:b.sum=a.sum
  ·have e:ZO b.sum a.sum=0:=by unfold ZO;rw [if_neg h,if_pos g]
   rw [e]
   by_cases k:T5 b a=0
   ·have hf:Zi a b=false:=by cases hl:Zi a b with
     |false=>rfl
     |true=>have:=h1.2 hl;omega
    simp [k,g,hf]
   ·simp [k,g,h1]
  ·have e:ZO b.sum a.sum=1:=by unfold ZO;rw [if_neg h,if_neg g]
   have g2:¬ a.sum=b.sum:=fun e=>g e.symm
   rw [e];simp [h,g2]
theorem x1 {a b:List Int} (h:VC a b=0):a=b:=by
 rcases Y1 a b with q | q | q
 ·exact q
 ·rw [WL] at q;have:=dec_t q;omega
 ·
  obtain ⟨h1,h2⟩:=RB a b
  unfold VC at h
  simp only [Qm] at h
  split at h
  ·split at h
   ·exact h2.1 (by assumption)
   ·exact absurd h (by assumption)
  ·exact absurd h (by assumption)
def Yb (l:List Int):List UInt8:=l.flatMap fun x=>Lib.itoa x++[32]
theorem Vs (x:Int) (l:List Int):Yb (x::l)=Xu x++32::Yb l:=by unfold Yb;rw [List.flatMap_cons];simp [Xu]
theorem BK:∀ {a b:List Int},Yb a=Yb b→a=b
 |[],[],_=>rfl
 |[],y::b,h=>by rw [Vs] at h;simp [Yb] at h
 |x::a,[],h=>by rw [Vs] at h;simp [Yb] at h
 |x::a,y::b,h=>by
  rw [Vs,Vs] at h
  have h1:=ND (c:=32) (a:=Xu x) (b:=Yb a) (BE x (by decide) (by decide))
  have h2:=ND (c:=32) (a:=Xu y) (b:=Yb b) (BE y (by decide) (by decide))
  rw [h,h2] at h1
  simp only [Prod.mk.injEq,and_true] at h1
  have e:x=y:=by rw [← Yo x,← Yo y,h1.1]
  rw [e,BK h1.2.symm]
theorem B1 {w:World} {F:Gs} {r:Sr} {l:List Int} (hF:Fits F w) (hR:JP F r l) (hp:PW l):QZ Tryz.prog 217 [r.v] w F (.int .i64 l.sum):=by
 obtain ⟨q,n,c⟩:=r
 have hln:=hR.2.1
 dsimp only [Sr.v] at hln ⊢
 have hl1:=hp.2
 refine QS.intro (G:=fun F=>JP F ⟨q,n,c⟩ l) Tryz.func217 rfl (by rfl) rfl rfl hF (fun F' hF'=>hR.le hF')<|J_sr<|JS_as rfl<|JS_nt<|J_sr<|JS_as rfl<|JS_nt<|QG<|J_sr<|JS_mv rfl<|QA (Ql rfl Qf)<|JS_mv rfl<|JS_nt<|Qa<|Z3 (ι:={i:Nat // i≤l.length}) [(6,_),(7,_)] (fun i=>[(3,.int .i64 ((l.take i.1).sum)),(8,.int .i64 ((i.1:Nat):Int))]) (fun i=>l.length - i.1) (⟨0,Nat.zero_le _⟩) ⟨rfl,rfl,trivial⟩ ⟨rfl,rfl,trivial⟩ (fun i=>?_)
 simp only [List.cons_append,List.nil_append]
 have hi:=i.2
 have hs:=hp.sum i.1 hi
 refine J_sr<|QA (QV rfl rfl rfl)<|JS_nt<|QG ?_
 refine QR rfl (fun hc=>?_) (fun hc=>?_)
 ·
  have hlt:i.1<l.length:=by have:=dec_t hc;omega
  have he:=hp.el hlt
  refine QP<|QC<|QG<|Qa<|J_sr<|QA (Ja (n:=n) (i.1) (fun F hR=>(hR).1) rfl rfl Qf Qp (by omega))<|QA (Jk (n:=n) ((i.1)*1) (fun F hR=>(hR).1) (by omega) rfl Qp (JO (o:=l) (by omega)))<|JS_as rfl<|JS_nt<|QB<|JS_mv rfl<|JS_mv rfl<|QA (Qu rfl rfl (by omega))<|JS_as rfl<|QE<|Qk<|QC<|QB<|QA (Qu rfl rfl (by omega))<|JS_mv rfl<|QE ?_
  exact Qo (⟨i.1+1,hlt⟩) (by show l.length - (i.1+1)<l.length - i.1;omega) ⟨rfl,rfl,(congrArg (fun z:Int=>some (Value.int .i64 z)) (MO hlt).symm),rfl,trivial⟩ subl_r (fun F h=>h)
 ·
  have hge:i.1=l.length:=by have:=dec_f hc;omega
  refine Q5 ?_
  repeat (first | refine Qd ?_ | refine QW (by rfl) ?_)
  refine Qe<|QC<|J_sr<|JS_mv rfl<|JS_as rfl<|JS_nt<|QT ?_
  exact QQ (()) rfl (.tmp rfl .nil) (congrArg (Value.int .i64) (by rw [List.take_of_length_le (by omega)])) (fun F hR=>trivial)
theorem Cj {w:World} {F:Gs} {q:Option Addr} {n c:Nat} {l:List Int} (hF:Fits F w) (hR:Q9 F q n 1 (l.map Qx)) (hn:n≤1000000000):QZ Tryz.prog 215 [.slice q n c] w F (.int .i64 (Qm l)):=by
 have hln:l.length=n:=by have:=hR.1;simpa using this
 have em:l=l.map (fun x=>x):=by simp
 refine QS.intro (G:=fun F=>Q9 F q n 1 (l.map Qx)) Tryz.func215 rfl (by rfl) rfl rfl hF (fun F' hF'=>hR.le hF')<|J_sr<|JS_as rfl<|JS_nt<|J_sr<|JS_as rfl<|JS_nt<|QG<|J_sr<|JS_mv rfl<|QA (Ql rfl Qf)<|JS_mv rfl<|JS_nt<|Qa<|Z3 (ι:=Yj l (fun x=>x)) [(3,_),(6,_),(7,_)] (fun i=>[(8,.int .i64 ((i.i:Nat):Int))]) (fun i=>l.length - i.i) (Yj.start _ _) ⟨rfl,rfl,rfl,trivial⟩ ⟨rfl,trivial⟩ (fun i=>?_)
 simp only [List.cons_append,List.nil_append]
 have hi:=i.le
 refine J_sr<|QA (QV rfl rfl rfl)<|JS_nt<|QG ?_
 refine QR rfl (fun hc=>?_) (fun hc=>?_)
 ·
  have hlt:i.i<l.length:=by have:=dec_t hc;omega
  refine QP<|QC<|QG<|Qa<|J_sr<|QA (Ja (n:=n) (i.i) (fun F hR=>hR) rfl rfl Qf Qp (by omega))<|QA (Jk (n:=n) ((i.i)*1) (fun F hR=>hR) (by omega) rfl Qp (JO (o:=l) (by omega)))<|JS_as rfl<|JS_nt<|J_sr<|JS_mv rfl<|JS_mv rfl<|QA (QV rfl rfl rfl)<|QE<|QC ?_
  refine QR rfl (fun hc=>?_) (fun hc=>?_)
  ·
   refine J_sr<|JS_mv rfl<|JS_as rfl<|JS_nt<|QT ?_
   repeat (first | refine JJ ?_ | refine JA ?_)
   exact QQ (()) rfl (.tmp rfl .nil) (congrArg (Value.int .i64) (by rw [Xp hlt,H9 l];exact i.hit hlt (by rw [← Xp hlt];simpa using hc))) (fun F hR=>trivial)
  ·
   refine QP<|Qk<|QC<|QB<|QA (Qu rfl rfl (by omega))<|JS_mv rfl<|QE ?_
   exact Qo (i.next hlt (by rw [← Xp hlt];simpa using hc)) (by show l.length - (i.i+1)<l.length - i.i;omega) ⟨rfl,rfl,rfl,rfl,trivial⟩ subl_r (fun F h=>h)
 ·
  have hge:l.length≤i.i:=by have:=dec_f hc;omega
  refine Q5 ?_
  repeat (first | refine Qd ?_ | refine QW (by rfl) ?_)
  refine Qe<|QC<|J_sr<|JS_mv rfl<|JS_as rfl<|JS_nt<|QT ?_
  exact QQ (()) rfl (.tmp rfl .nil) (congrArg (Value.int .i64) (by rw [H9 l];exact i.stop hge)) (fun F hR=>trivial)
structure zH (a b:List Int) where
 i:Nat
 la:i≤a.length
 lb:i≤b.length
 h:T5 a b=T5 (a.drop i) (b.drop i)
theorem zH.cons {a b:List Int} (s:zH a b) (ha:s.i<a.length) (hb:s.i<b.length):T5 a b=if ZO (Qg a s.i) (Qg b s.i)≠0 then ZO (Qg a s.i) (Qg b s.i) else T5 (a.drop (s.i+1)) (b.drop (s.i+1)):=by
 rw [s.h,J4 ha,J4 hb,T5]
theorem Sa {w:World} {F:Gs} {ra rb:Sr} {a b:List Int} (hF:Fits F w) (hA:JP F ra a) (hB:JP F rb b) (la:a.length≤1000000) (lb:b.length≤1000000):QZ Tryz.prog 218 [ra.v,rb.v] w F (.int .i64 (T5 a b)):=by
 obtain ⟨q,n,c⟩:=ra
 obtain ⟨q',n',c'⟩:=rb
 have na:=hA.2.1
 have nb:=hB.2.1
 dsimp only [Sr.v] at na nb ⊢
 refine QS.intro (G:=fun F=>JP F ⟨q,n,c⟩ a∧JP F ⟨q',n',c'⟩ b) Tryz.func218 rfl (by rfl) rfl rfl hF (fun F' hF'=>⟨hA.le hF',hB.le hF'⟩)<|J_sr<|JS_as rfl<|JS_nt<|QG<|J_sr<|JS_mv rfl<|QA (Ql rfl Qf)<|JS_mv rfl<|JS_nt<|Qa<|Z3 (ι:=zH a b) [(0,_),(1,_),(9,_),(10,_)] (fun i=>[(11,.int .i64 ((i.i:Nat):Int))]) (fun i=>a.length - i.i) (⟨0,Nat.zero_le _,Nat.zero_le _,rfl⟩) ⟨rfl,rfl,rfl,rfl,trivial⟩ ⟨rfl,trivial⟩ (fun i=>?_)
 simp only [List.cons_append,List.nil_append]
 have hla:=i.la
 have hlb:=i.lb
 refine J_sr<|QA (QV rfl rfl rfl)<|JS_nt<|QG ?_
 refine QR rfl (fun hc=>?_) (fun hc=>?_)
 ·
  have hlt:i.i<a.length:=by have:=dec_t hc;omega
  refine QP<|QC<|QG<|Qa<|J_sr<|JS_mv rfl<|QA (Ja (n:=n) (i.i) (fun F ⟨hA,hB⟩=>(hA).1) rfl rfl Qf Qp (by omega))<|QA (Jk (n:=n) ((i.i)*1) (fun F ⟨hA,hB⟩=>(hA).1) (by omega) rfl Qp (JO (o:=a) (by omega)))<|JS_as rfl<|JS_as rfl<|JS_nt<|QG<|J_sr<|JS_mv rfl<|JS_mv rfl<|QA (Ql rfl Qf)<|QA (QV rfl rfl rfl)<|QE<|QC ?_
  refine QR rfl (fun hc=>?_) (fun hc=>?_)
  ·
   have hge2:b.length≤i.i:=by have:=dec_t hc;omega
   refine J_sr<|JS_as rfl<|JS_nt<|QT ?_
   repeat (first | refine JJ ?_ | refine JA ?_)
   exact QQ (()) rfl (.tmp rfl .nil) (congrArg (Value.int .i64) (by rw [i.h,J4 hlt,List.drop_of_length_le hge2];rfl)) (fun F ⟨hA,hB⟩=>trivial)
  ·
   have hlt2:i.i<b.length:=by have:=dec_f hc;omega
   refine QP<|QC<|J_sr<|JS_mv rfl<|JS_mv rfl<|QA (Ja (n:=n') (i.i) (fun F ⟨hA,hB⟩=>(hB).1) rfl rfl Qf Qp (by omega))<|QA (Jk (n:=n') ((i.i)*1) (fun F ⟨hA,hB⟩=>(hB).1) (by omega) rfl Qp (JO (o:=b) (by omega)))<|JS_as rfl<|JS_nt<|J_sr<|JS_mv rfl<|JS_mv rfl<|QI rfl (fun w F hF ⟨hA,hB⟩=>Bb hF ) (fun _=>JS_as rfl<|JS_nt<|J_sr<|JS_mv rfl<|QA (QV rfl rfl rfl)<|QE<|QC ?_)
   refine QR rfl (fun hc=>?_) (fun hc=>?_)
   ·
    refine J_sr<|JS_mv rfl<|JS_as rfl<|JS_nt<|QT ?_
    repeat (first | refine JJ ?_ | refine JA ?_)
    exact QQ (()) rfl (.tmp rfl .nil) (congrArg (Value.int .i64) (by rw [i.cons hlt hlt2,if_pos (by rw [← Ed];simpa using hc),Ed])) (fun F ⟨⟨hA,hB⟩,_⟩=>trivial)
   ·
    refine QP<|Qk<|QC<|QB<|QA (Qu rfl rfl (by omega))<|JS_mv rfl<|QE ?_
    exact Qo (⟨i.i+1,hlt,hlt2,by rw [i.cons hlt hlt2,if_neg (by rw [← Ed];simpa using hc)]⟩) (by show a.length - (i.i+1)<a.length - i.i;omega) ⟨rfl,rfl,rfl,rfl,rfl,trivial⟩ subl_r (fun F h=>h.1)
 ·
  have hge:a.length≤i.i:=by have:=dec_f hc;omega
  refine Q5 ?_
  repeat (first | refine Qd ?_ | refine QW (by rfl) ?_)
  refine Qe<|QC<|QG<|J_sr<|JS_mv rfl<|QA (Ql rfl Qf)<|JS_mv rfl<|QA (Ql rfl Qf)<|QA (QV rfl rfl rfl)<|QE<|QC ?_
  refine QR rfl (fun hc=>?_) (fun hc=>?_)
  ·
   have hlt3:=dec_t hc
   refine J_sr<|JS_as rfl<|JS_nt<|QT ?_
   exact QQ (()) rfl (.tmp rfl .nil) (congrArg (Value.int .i64) (by rw [i.h,List.drop_of_length_le hge,J4 (l:=b) (k:=i.i) (by omega)];rfl)) (fun F ⟨hA,hB⟩=>trivial)
  ·
   have hlt3:=dec_f hc
   refine QP<|QC<|J_sr<|JS_as rfl<|JS_nt<|QT ?_
   exact QQ (()) rfl (.tmp rfl .nil) (congrArg (Value.int .i64) (by rw [i.h,List.drop_of_length_le hge,List.drop_of_length_le (by omega)];rfl)) (fun F ⟨hA,hB⟩=>trivial)
theorem HM {w:World} {F:Gs} {ra rb:Sr} {a b:List Int} (hF:Fits F w) (hA:JP F ra a) (hB:JP F rb b) (pa:PW a) (pb:PW b):QZ Tryz.prog 136 [ra.v,rb.v] w F (.int .i64 (VC a b)):=by
 have la:=pa.2
 have lb:=pb.2
 dsimp only [Sr.v]
 refine QS.intro (G:=fun F=>JP F ra a∧JP F rb b) Tryz.func136 rfl (by rfl) rfl rfl hF (fun F' hF'=>⟨hA.le hF',hB.le hF'⟩)<|J_sr<|JS_as rfl<|JS_nt<|J_sr<|JS_mv rfl<|QI rfl (fun w F hF ⟨hA,hB⟩=>B1 hF (r:=rb) hB (pb)) (fun _=>JS_mv rfl<|QI rfl (fun w F hF ⟨⟨hA,hB⟩,_⟩=>B1 hF (r:=ra) hA (pa)) (fun _=>QI rfl (fun w F hF ⟨⟨⟨hA,hB⟩,_⟩,_⟩=>Bb hF ) (fun _=>?_)))
 rw [Ed]
 refine JS_mv rfl<|JS_mv rfl<|QI rfl (fun w F hF ⟨⟨⟨⟨hA,hB⟩,_⟩,_⟩,_⟩=>Sa hF (ra:=rb) (rb:=ra) hB (hA) (by omega) (by omega)) (fun _=>QU rfl (Q6 Qf) Qp VQ rfl rfl (fun b13=>QI rfl (fun w F hF ⟨⟨⟨⟨⟨⟨hA,hB⟩,_⟩,_⟩,_⟩,_⟩,hs13⟩=>Cj hF (Q9.of (cs:=List.map Qx [ZO b.sum a.sum,T5 b a]) hs13 rfl) (by decide)) (fun _=>JS_as rfl<|JS_nt<|QT ?_)))
 exact QQ (()) rfl (.tmp rfl .nil) (rfl) (fun F ⟨⟨⟨⟨⟨⟨⟨hA,hB⟩,_⟩,_⟩,_⟩,_⟩,hs13⟩,_⟩=>trivial)
end
section
open Go.RowKit Ig
def XK {κ:Type} (K:κ→Value):List (κ×Value)→Nat→List MapEntry
 |[],_=>[]
 |x::l,i=>⟨K x.1,x.2,i⟩::XK K l (i+1)
def X3 {κ:Type} (K:κ→Value) (l:List (κ×Value)):Obj:=.map (XK K l 0).toArray l.length
def Zs {κ:Type} [DecidableEq κ]:List (κ×Value)→κ→Nat→Option (Nat×Value)
 |[],_,_=>none
 |x::l,k,i=>if k=x.1 then some (i,x.2) else Zs l k (i+1)
def BB {κ:Type} [DecidableEq κ]:List (κ×Value)→κ→Value→List (κ×Value)
 |[],k,v=>[(k,v)]
 |x::l,k,v=>if k=x.1 then(k,v)::l else x::BB l k v
structure R6 (P:Program) (kt:TypeId) {κ:Type} [DecidableEq κ] (K:κ→Value):Prop where
 yP:∀ e w k,(Instr.checkKey e 10000 kt (K k)).run P w = .ok () w
 find:∀ w k (l:List (κ×Value)),(Instr.findKey kt (K k) (XK K l 0)).run P w = .ok (Zs l k 0) w
 same:∀ k,Instr.sameBits 10000 (K k) (K k)=true
section
variable {κ:Type} {K:κ→Value}
theorem DC:∀ (l:List (κ×Value)) i,(XK K l i).length=l.length
 |[],_=>rfl
 |_::l,i=>by simp [XK,DC l]
theorem M7:∀ (l:List (κ×Value)) i k v,XK K (l++[(k,v)]) i=XK K l i++[⟨K k,v,i+l.length⟩]
 |[],i,k,v=>by simp [XK]
 |x::l,i,k,v=>by
  simp only [List.cons_append,XK,M7 l,List.length_cons]
  rw [show i+1+l.length=i+(l.length+1) from by omega]
theorem Vu:∀ (l:List (κ×Value)) (i j:Nat),(XK K l i)[j]?=l[j]?.map fun x=>(⟨K x.1,x.2,i+j⟩:MapEntry)
 |[],_,_=>by simp [XK]
 |x::l,i,0=>by simp [XK]
 |x::l,i,j+1=>by
  simp only [XK,List.getElem?_cons_succ,Vu l]
  rw [show i+1+j=i+(j+1) from by omega]
theorem Pn:∀ (l:List (κ×Value)) i j k v,XK K (l.set j (k,v)) i=(XK K l i).modify j fun e=>{ e with key:=K k,val:=v }
 |[],_,_,_,_=>by simp [XK]
 |x::l,i,0,k,v=>by simp [XK]
 |x::l,i,j+1,k,v=>by simp [XK,Pn l]
theorem Hg:∀ (l:List (κ×Value)) i,∀ e∈XK K l i,i≤e.born∧e.born<i+l.length
 |[],_,e,h=>by cases h
 |x::l,i,e,h=>by
  simp only [XK,List.mem_cons] at h
  rcases h with rfl | h
  ·simp
  ·have:=Hg l (i+1) e h
   simp only [List.length_cons];omega
theorem Dv:∀ (l:List (κ×Value)) i,((XK K l i).map (·.born)).Nodup
 |[],_=>List.nodup_nil
 |x::l,i=>by
  simp only [XK,List.map_cons]
  refine List.nodup_cons.2 ⟨fun h=>?_,Dv l (i+1)⟩
  obtain ⟨e,he,h⟩:=List.mem_map.1 h
  have:=(Hg l (i+1) e he).1
  omega
variable [DecidableEq κ]
theorem Hf:∀ {l:List (κ×Value)} {k i j v},Zs l k i=some (j,v)→i≤j∧j - i<l.length∧l[j - i]?=some (k,v)
 |[],_,_,_,_,h=>by cases h
 |x::l,k,i,j,v,h=>by
  simp only [Zs] at h
  split at h
  ·rename_i e
   cases h
   subst e
   simp
  ·obtain ⟨h1,h2,h3⟩:=Hf h
   refine⟨by omega,by simp only [List.length_cons];omega,?_⟩
   rw [show j - i=(j - (i+1))+1 from by omega,List.getElem?_cons_succ];exact h3
theorem PM:∀ {l:List (κ×Value)} {k v i},Zs l k i=none→BB l k v=l++[(k,v)]
 |[],_,_,_,_=>rfl
 |x::l,k,v,i,h=>by
  simp only [Zs] at h
  split at h
  ·cases h
  ·rename_i e
   simp only [BB,if_neg e,List.cons_append,PM h]
theorem PL:∀ {l:List (κ×Value)} {k v i j u},Zs l k i=some (j,u)→BB l k v=l.set (j - i) (k,v)
 |[],_,_,_,_,_,h=>by cases h
 |x::l,k,v,i,j,u,h=>by
  simp only [Zs] at h
  split at h
  ·rename_i e
   cases h
   simp [BB,e]
  ·rename_i e
   have:=(Hf h).1
   simp only [BB,if_neg e,PL h]
   rw [show j - i=(j - (i+1))+1 from by omega];rfl
end
theorem UR (a b:List UInt8):Instr.sameNow .string (tx a) (tx b)=some (decide (a=b)):=by
 show some ((⟨a.toArray⟩:ByteArray)==⟨b.toArray⟩)=_
 congr 1
 rw [Bool.eq_iff_iff,decide_eq_true_iff,MapKept.bytes_beq]
 constructor
 ·intro h;cases h;rfl
 ·intro h;rw [h]
theorem M4 (k:List UInt8):∀ (l:List (List UInt8×Value)) (i n:Nat),Instr.findNow .string (tx k) (XK tx l n) i=some (Zs l k i)
 |[],_,_=>rfl
 |x::l,i,n=>by
  simp only [XK,Instr.findNow,UR,Zs]
  by_cases h:k=x.1
  ·simp [h]
  ·simp [h,M4 k l]
theorem R6.str {P:Program} {kt:TypeId} (h:P.underlying kt=some .string):R6 P kt tx where
 yP:=fun e w k=>MapKept.run_checkKey (k:=tx k) h (by simp [MapKept.IsKey,tx]) e 9999
 find:=fun w k l=>MapKept.run_findKey h (M4 k l 0 0)
 same:=fun k=>by
  show(ByteArray.mk k.toArray==ByteArray.mk k.toArray)=true
  rw [MapKept.bytes_beq]
def yX (P:Program) (T:TypeId):Option Value:=match P.info? T with
 |some i=>i.zero
 |none=>none
theorem CH {P:Program} {T:TypeId} {z:Value} (h:yX P T=some z) (w:World):(zeroValue T).run P w = .ok z w:=by
 unfold yX at h
 split at h
 ·rename_i i hi
  simp [zeroValue,typeInfo,hi,h]
 ·cases h
def TC (P:Program) (T kt et:TypeId):Bool:=match P.underlying T with | some (.map k e)=>Nat.beq k kt&&Nat.beq e et | _=>false
theorem Rc {P:Program} {T kt et:TypeId} (h:TC P T kt et=true):P.underlying T=some (.map kt et):=by
 unfold TC at h
 split at h
 ·rename_i e
  simp only [Bool.and_eq_true] at h
  have h1:=Nat.eq_of_beq_eq_true h.1
  have h2:=Nat.eq_of_beq_eq_true h.2
  rw [e,h1,h2]
 ·cases h
section
variable [Dr] [df:Df] {P:Program} {Q:Exit→Act→World→Prop} {N:Nat} {m:Sl} {E E0:Env} {ops:Array Oper} {l:List Oper} {w0:World} {F0:Gs} {bs:List (Nat×Obj)} {G:Gs→Prop} {d:Nat} {ty:TypeId} {pos:String} {aft:Array Edge}
theorem VH {κ:Type} (K:κ→Value) {T:TypeId} (k:∀ b,JS P ops Q l N ((d,.map (some b))::m) ⟨w0,F0,(b,X3 K [])::bs,G⟩) (hd:J0 N (some d)=true:=by rfl) :
  JS P ops Q (⟨some d,.makeMap T none,ty,pos,aft,none⟩::l) N m ⟨w0,F0,bs,G⟩:=fun a w ha hw=>by
 have hrun:(execOp a.eval ⟨some d,.makeMap T none,ty,pos,aft,none⟩).run P w = .ok (.value (.map (some w.heap.size))) (w.alloc (.map #[] 0)):=by
  simp [execOp,Instr.makeMap]
 exact wpList_plain rfl fun Kk hK=>upon_value hrun (hK _ _ (k _ _ _ (ha.put hd _) (hw.alloc _ (fun c fr e=>by cases e))))
variable {κ:Type} [DecidableEq κ] {K:κ→Value} {kv:List (κ×Value)} {b:Nat} {f:Obj→List (Nat×Obj)}
theorem Sn {T kt et:TypeId} {x y:Operand} {k:κ} {i:Nat} {v:Value} (hq:R6 P kt K) (hx:ev m x=some (.map (some b))) (hy:ev m y=some (K k)) (ht:TC P T kt et=true) (ho:Own bs b (X3 K kv) f) (hf:Zs kv k 0=some (i,v)) :
  Qt P N m (St ⟨w0,F0,bs,G⟩) (.lookup T x y true) ty (.tuple #[v,.bool true]):=fun a w _ _ _ _ ha hw=>by
 have hb:=hw.own ho
 unfold X3 at hb
 have hu:=Rc ht
 simp [execOp,ha.ev hx,ha.ev hy,Instr.lookup,run_underlying hu,MapKept.run_getObj_map hb,hq.yP,hq.find,hf]
theorem PJ {T kt et:TypeId} {x y:Operand} {k:κ} {z:Value} (hq:R6 P kt K) (hx:ev m x=some (.map (some b))) (hy:ev m y=some (K k)) (ht:TC P T kt et=true) (hz:yX P et=some z) (ho:Own bs b (X3 K kv) f) (hf:Zs kv k 0=none) :
  Qt P N m (St ⟨w0,F0,bs,G⟩) (.lookup T x y true) ty (.tuple #[z,.bool false]):=fun a w _ _ _ _ ha hw=>by
 have hb:=hw.own ho
 unfold X3 at hb
 have hu:=Rc ht
 simp [execOp,ha.ev hx,ha.ev hy,Instr.lookup,run_underlying hu,MapKept.run_getObj_map hb,hq.yP,hq.find,hf,CH hz]
theorem GY {T kt et:TypeId} {x y z:Operand} {k:κ} {v:Value} (hq:R6 P kt K) (hx:ev m x=some (.map (some b))) (hy:ev m y=some (K k)) (hz:ev m z=some v) (ht:TC P T kt et=true) (ho:Own bs b (X3 K kv) f)
  (kk:JS P ops Q l N m ⟨w0,F0,f (X3 K (BB kv k v)),G⟩):JS P ops Q (⟨none,.mapUpdate T x y z,ty,pos,aft,none⟩::l) N m ⟨w0,F0,bs,G⟩:=fun a w ha hw=>by
 have hb:=hw.own ho
 obtain ⟨pre,post,e1,e2⟩:=ho.split
 subst e1
 rw [e2] at kk
 have hu:=Rc ht
 have hb':=hb
 unfold X3 at hb'
 have hrun:(execOp a.eval ⟨none,.mapUpdate T x y z,ty,pos,aft,none⟩).run P w = .ok .skip { w with heap:=w.heap.setIfInBounds b (X3 K (BB kv k v)) }:=by
  cases hf:Zs kv k 0 with
  |none =>
   have e:X3 K (BB kv k v) = .map ((XK K kv 0).toArray.push ⟨K k,v,kv.length⟩) (kv.length+1):=by
    rw [PM hf];simp [X3,M7]
   rw [e]
   simp [execOp,ha.ev hx,ha.ev hy,ha.ev hz,Instr.mapUpdate,run_underlying hu,MapKept.run_getObj_map hb',hq.yP,hq.find,hf,MapKept.run_setObj_map _ hb']
  |some r =>
   obtain ⟨i,u⟩:=r
   obtain ⟨_,h2,h3⟩:=Hf hf
   rw [Nat.sub_zero] at h2 h3
   have e:X3 K (BB kv k v) = .map ((XK K kv 0).toArray.modify i fun e=>{ e with key:=K k,val:=v }) kv.length:=by
    rw [PL hf]
    unfold X3
    rw [Nat.sub_zero,Pn,List.length_set]
    congr 1
    apply Array.ext'
    simp
   have hk:((((XK K kv 0).toArray[i]?).map (·.key)).getD (K k))=K k:=by
    simp [Vu,h3]
   rw [e]
   simp only [execOp,ha.ev hx,ha.ev hy,ha.ev hz,Instr.mapUpdate,Sem.run_bind,run_underlying hu,MapKept.run_getObj_map hb',hq.yP,hq.find,hf,Result.andThen_ok,hk,Instr.keyThatStays,hq.same,if_true,Sem.run_pure,MapKept.run_setObj_map _ hb']
 exact wpList_plain rfl fun Kk hK=>upon_skip hrun (hK _ _ (kk _ _ ha (hw.write pre ⟨rfl,rfl,rfl,rfl,rfl⟩ (fun c fr e=>by cases e))))
def xW (kv:List (κ×Value)) (K:κ→Value):Option Nat→Array Value
 |some j=>match kv[j]? with
  |some p=>#[.bool true,K p.1,p.2]
  |none=>#[.bool true]
 |none=>#[.bool false]
def kH (seen:List Nat):Option Nat→List Nat
 |some j=>seen++[j]
 |none=>seen
def dA (n:Nat) (seen:List Nat):Option Nat→Prop
 |some j=>j<n∧j∉seen
 |none=>∀ j,j<n→j∈seen
omit [DecidableEq κ] in
theorem jY (x:Option Nat):(xW kv K x)[0]?=some (.bool x.isSome):=by
 cases x with
 |none=>rfl
 |some j =>
  simp only [xW]
  cases kv[j]?<;>rfl
def Ay (b n:Nat) (seen:List Nat):Obj:=.mapIter (some b) n seen.toArray n
omit [DecidableEq κ] in
theorem D6 {T kt et:TypeId} {x:Operand} (hx:ev m x=some (.map (some b))) (ht:TC P T kt et=true) (ho:Own bs b (X3 K kv) f) (k:∀ r,JS P ops Q l N ((d,.pointer (some ⟨r,0,none⟩))::m) ⟨w0,F0,(r,Ay b kv.length [])::bs,G⟩) (hd:J0 N (some d)=true:=by rfl) :
  JS P ops Q (⟨some d,.range T x,ty,pos,aft,none⟩::l) N m ⟨w0,F0,bs,G⟩:=fun a w ha hw=>by
 have hb:=hw.own ho
 unfold X3 at hb
 have hrun:(execOp a.eval ⟨some d,.range T x,ty,pos,aft,none⟩).run P w = .ok (.value (.pointer (some ⟨w.heap.size,0,none⟩))) (w.alloc (Ay b kv.length [])):=by
  simp [execOp,ha.ev hx,run_range_map w T kt et b _ _ (Rc ht) hb,Ay]
 exact wpList_plain rfl fun Kk hK=>upon_value hrun (hK _ _ (k _ _ _ (ha.put hd _) (hw.alloc _ (fun c fr e=>by cases e))))
omit [DecidableEq κ] in
theorem NR {x:Operand} {r:Nat} {seen:List Nat} {g:Obj→List (Nat×Obj)} (hx:ev m x=some (.pointer (some ⟨r,0,none⟩))) (hr:Own bs r (Ay b kv.length seen) g) (ho:Own bs b (X3 K kv) f)
  (k:∀ x,dA kv.length seen x→JS P ops Q l N ((d,.tuple (xW kv K x))::m) ⟨w0,F0,g (Ay b kv.length (kH seen x)),G⟩) (hd:J0 N (some d)=true:=by rfl) :
  JS P ops Q (⟨some d,.next x false,ty,pos,aft,none⟩::l) N m ⟨w0,F0,bs,G⟩:=fun a w ha hw=>by
 have hb:=hw.own ho
 have hi:=hw.own hr
 unfold X3 at hb
 obtain ⟨pre,post,e1,e2⟩:=hr.split
 subst e1
 simp only [e2] at k
 have hold:∀ e∈(XK K kv 0).toArray.toList,e.born<kv.length:=fun e he=>by have:=(Hg kv 0 e (by simpa using he)).2;omega
 rcases run_next_at (P:=P) w ty r b kv.length kv.length seen.toArray (XK K kv 0).toArray kv.length hi hb hold (Nat.le_refl _) with ⟨h0,hn⟩ | ⟨e,he,w1,hw1,hn⟩
 ·have hrun:(execOp a.eval ⟨some d,.next x false,ty,pos,aft,none⟩).run P w = .ok (.value (.tuple (xW kv K none))) w:=by
   simp [execOp,ha.ev hx,hn,xW]
  refine wpList_plain rfl fun Kk hK=>upon_value hrun (hK _ _ (k none (fun j hj=>?_) _ _ (ha.put hd _) hw))
  have hm:(⟨K kv[j].1,kv[j].2,j⟩:MapEntry)∈XK K kv 0:=by
   have:=Vu (K:=K) kv 0 j
   rw [List.getElem?_eq_getElem hj,Nat.zero_add] at this
   exact List.mem_of_getElem? this
  have hz:leftOf (XK K kv 0).toArray seen.toArray=#[]:=Array.eq_empty_of_size_eq_zero h0
  unfold leftOf at hz
  rw [Array.filter_eq_empty_iff] at hz
  have:=hz _ (by simpa using hm)
  simpa using this
 ·unfold leftOf at he
  simp only [List.mem_toArray,Array.mem_toList_iff,Array.mem_filter] at he
  obtain ⟨hm,hs⟩:=he
  obtain ⟨j,hj,hje⟩:=List.getElem_of_mem hm
  rw [DC] at hj
  have hg:=Vu (K:=K) kv 0 j
  rw [List.getElem?_eq_getElem hj,List.getElem?_eq_getElem (by rw [DC];exact hj),hje,Nat.zero_add] at hg
  have hg':e=⟨K kv[j].1,kv[j].2,j⟩:=by simpa using hg
  subst hg'
  have hrun:(execOp a.eval ⟨some d,.next x false,ty,pos,aft,none⟩).run P w = .ok (.value (.tuple (xW kv K (some j)))) (ChangeMaps.setBlock w1 r (Ay b kv.length (kH seen (some j)))):=by
   simp [execOp,ha.ev hx,hn,xW,hj,Ay,kH]
  have hw2:St ⟨w0,F0,pre++(r,Ay b kv.length seen)::post,G⟩ w1:=by
   rcases hw1 with rfl | rfl
   ·exact hw
   ·exact hw.drew
  exact wpList_plain rfl fun Kk hK=>upon_value hrun (hK _ _ (k (some j) ⟨hj,by simpa using hs⟩ _ _ (ha.put hd _) (hw2.write pre ⟨rfl,rfl,rfl,rfl,rfl⟩ (fun c fr e=>by cases e))))
omit [DecidableEq κ] in
theorem Aj {x:Operand} {r j:Nat} {seen:List Nat} {p:κ×Value} {g:Obj→List (Nat×Obj)} (hx:ev m x=some (.pointer (some ⟨r,0,none⟩))) (hr:Own bs r (Ay b kv.length (seen++[j])) g) (ho:Own bs b (X3 K kv) f) (hj:kv[j]?=some p) :
  Qt P N m (St ⟨w0,F0,bs,G⟩) (.entry x) ty (.tuple #[K p.1,p.2]):=fun a w _ _ _ _ ha hw=>by
 have hb:=hw.own ho
 have hi:=hw.own hr
 unfold X3 at hb
 have hg:=Vu (K:=K) kv 0 j
 rw [hj,Nat.zero_add] at hg
 have hmem:=List.mem_of_getElem? hg
 have:=run_entry_at (P:=P) w r b kv.length seen.toArray (XK K kv 0).toArray kv.length ⟨K p.1,p.2,j⟩ (by rw [hi];simp [Ay]) hb (by simpa using hmem) (by simpa using Dv kv 0)
 simp [execOp,ha.ev hx,this]
end
end
section
open Go.RowKit Ig
theorem Fv (l:List Int) (x:Int):Yb (l++[x])=(Yb l++Lib.itoa x)++[32]:=by unfold Yb;rw [List.flatMap_append];simp
theorem Ph {x:Int} (h:0≤x∧x≤1000000):(Lib.itoa x).length≤21:=Lib.itoa_length_le x (by omega) (by omega)
theorem TR:∀ {l:List Int},(∀ x∈l,0≤x∧x≤1000000)→(Yb l).length≤22*l.length
 |[],_=>by simp [Yb]
 |x::l,h=>by
  have h1:=Ph (h x (by simp))
  have h2:=TR (l:=l) (fun y hy=>h y (by simp [hy]))
  rw [Vs]
  simp only [List.length_append,List.length_cons]
  change (Xu x).length≤21 at h1
  omega
structure dc (b:Nat) (l:List Int) where
 i:Nat
 ob:List (Nat×Obj)
 le:i≤l.length
 bl:T7 b (Yb (l.take i)) ob
theorem Lq {w:World} {F:Gs} {r:Sr} {l:List Int} (hF:Fits F w) (hGl:JB F) (hR:JP F r l) (hp:PW l):QZ Tryz.prog 252 [r.v] w F (tx (Yb l)):=by
 obtain ⟨q,n,c⟩:=r
 have hln:=hR.2.1
 dsimp only [Sr.v] at hln ⊢
 have hl1:=hp.2
 refine QS.intro (G:=fun F=>JB F∧JP F ⟨q,n,c⟩ l) Tryz.func252 rfl (by rfl) rfl rfl hF (fun F' hF'=>⟨hGl.le hF',hR.le hF'⟩)<|J_sr<|JS_as rfl<|JS_nt<|J_sr<|Qb qu (fun b3=>JS_nt<|QG<|J_sr<|JS_mv rfl<|QA (Ql rfl Qf)<|JS_mv rfl<|JS_nt<|Qa<|Jz (ι:=dc b3 l) [(3,_),(6,_),(7,_)] (fun i=>[(8,.int .i64 ((i.i:Nat):Int))]) (fun i=>i.ob++[]) (fun i F=>True) (fun i=>l.length - i.i) (⟨0,_,Nat.zero_le _,by rw [List.take_zero];exact .fresh⟩) ⟨rfl,rfl,rfl,trivial⟩ ⟨rfl,trivial⟩ subl_r (fun _ _=>trivial) (fun i=>?_))
 have hi:=i.le
 have hkl:=TR (l:=l.take i.i) (fun x hx=>hp.1 x (List.mem_of_mem_take hx))
 rw [List.length_take] at hkl
 refine J_sr<|QA (QV rfl rfl rfl)<|JS_nt<|QG ?_
 refine QR rfl (fun hc=>?_) (fun hc=>?_)
 ·
  have hlt:i.i<l.length:=by have:=dec_t hc;omega
  have he:=hp.el hlt
  have hil:=Ph he
  refine QP<|QC<|QG<|Qa<|J_sr<|QA (Ja (n:=n) (i.i) (fun F ⟨⟨hGl,hR⟩,_⟩=>(hR).1) rfl rfl Qf Qp (by omega))<|QA (Jk (n:=n) ((i.i)*1) (fun F ⟨⟨hGl,hR⟩,_⟩=>(hR).1) (by omega) rfl Qp (JO (o:=l) (by omega)))<|JS_as rfl<|JS_nt<|J_sr<|JS_mv rfl<|QI rfl (fun w F hF ⟨⟨hGl,hR⟩,_⟩=>ON hF hGl ((by omega)) ((by omega))) (fun _=>XJ rfl (List.Perm.refl _) (Vc i.bl (by omega)) (fun qw=>JK _ (fun w F hF h=>h.2) (fun hbl=>JS_nt<|QB<|XJ rfl (List.Perm.refl _) (SG (c:=32) hbl (by rw [List.length_append];omega)) (fun wob2=>JK _ (fun w F hF h=>h.2) (fun hbl2=>?_)))))
  rw [← Fv,Xp hlt,← ZD hlt] at hbl2
  refine QE<|Qk<|QC<|QB<|QA (Qu rfl rfl (by omega))<|JS_mv rfl<|QE ?_
  exact Qo (⟨i.i+1,wob2,hlt,hbl2⟩) (by show l.length - (i.i+1)<l.length - i.i;omega) ⟨rfl,rfl,rfl,rfl,trivial⟩ subl_r (fun F h=>⟨h.1.1.1.1,trivial⟩)
 ·
  have hge:i.i=l.length:=by have:=dec_f hc;omega
  refine Q5 ?_
  repeat (first | refine Qd ?_ | refine QW (by rfl) ?_)
  refine Qe<|QC<|QG<|QB ?_
  have hbl:=i.bl
  rw [hge,List.take_length] at hbl
  refine D7 (v:=tx (Yb l)) hF rfl (enters_of Tryz.func281 (by rfl) rfl) (fun w' hw'=>Tryz.Builder_String_any w.heap.size b3 (Yb l) w' (hbl.is hw') (by obtain ⟨F',h'⟩:=hw';exact h'.ext.size))<|JS_as rfl<|JS_nt<|QT ?_
  exact QQ (()) rfl (.tmp rfl .nil) (rfl) (fun _ _=>trivial)
end
end Go.Proofs.YtknegjaeoffnbaaGreatDoor
namespace Ig
def Hk:List Tm→Tm→List Tm
 |[],n=>[n]
 |t::l,n=>if n.2=t.2 then n::l else t::Hk l n
theorem P1:∀ (l:List Tm) (n:Tm),∀ k,k∈(Hk l n).map (·.2)→k=n.2∨k∈l.map (·.2)
 |[],n,k,h=>by simp [Hk] at h;exact .inl h
 |t::l,n,k,h=>by
  simp only [Hk] at h
  split at h
  ·simp only [List.map_cons,List.mem_cons] at h ⊢;rcases h with h | h
   ·exact .inl h
   ·exact .inr (.inr h)
  ·simp only [List.map_cons,List.mem_cons] at h ⊢;rcases h with h | h
   ·exact .inr (.inl h)
   ·rcases P1 l n k h with h | h
    ·exact .inl h
    ·exact .inr (.inr h)
theorem NN:∀ {l:List Tm} (n:Tm),(l.map (·.2)).Nodup→((Hk l n).map (·.2)).Nodup
 |[],n,_=>by simp [Hk]
 |t::l,n,h=>by
  simp only [List.map_cons] at h
  obtain ⟨h1,h2⟩:=List.nodup_cons.1 h
  simp only [Hk]
  split
  ·rename_i e
   simp only [List.map_cons];rw [e];exact h
  ·rename_i e
   simp only [List.map_cons]
   refine List.nodup_cons.2 ⟨fun hm=>?_,NN n h2⟩
   rcases P1 l n _ hm with g | g
   ·exact e g.symm
   ·exact h1 g
theorem Pv:∀ {l:List Tm} (n:Tm),(l.map (·.2)).Nodup→∀ k,Jl (Hk l n) k=if n.2=k then n.1 else Jl l k
 |[],n,_,k=>by simp [Hk,Jl,Rat.add_zero]
 |t::l,n,h,k=>by
  simp only [List.map_cons] at h
  obtain ⟨h1,h2⟩:=List.nodup_cons.1 h
  have hz:Jl l t.2=0:=Y0 fun x hx e=>h1 (e ▸ List.mem_map_of_mem (f:=(·.2)) hx)
  simp only [Hk]
  split
  ·rename_i e
   simp only [Jl]
   by_cases g:n.2=k
   ·have g2:t.2=k:=e ▸ g
    rw [if_pos g,if_pos g,← g2,hz,Rat.add_zero]
   ·have g2:¬ t.2=k:=fun q=>g (e.trans q)
    rw [if_neg g,if_neg g,if_neg g2]
  ·rename_i e
   simp only [Jl]
   rw [Pv n h2 k]
   by_cases g:n.2=k
   ·have g2:¬ t.2=k:=fun q=>e (g.trans q.symm)
    rw [if_pos g,if_neg g2,if_pos g,Rat.zero_add]
   ·rw [if_neg g,if_neg g]
structure IV (T l:List Tm):Prop where
 nd:(T.map (·.2)).Nodup
 eq:EO T l
theorem IV.nil:IV [] []:=⟨List.nodup_nil,EO.refl _⟩
theorem IV.add {T l:List Tm} (h:IV T l) (f:Rat) (p:List Int):IV (Hk T (f+Jl T p,p)) (l++[(f,p)]) :=
 ⟨NN _ h.nd,fun k=>by
  rw [Pv _ h.nd,KF,← h.eq k]
  simp only [Jl]
  by_cases g:p=k
  ·rw [if_pos g,if_pos g,g,Rat.add_zero];exact Rat.add_comm _ _
  ·rw [if_neg g,if_neg g,Rat.add_zero,Rat.add_zero]⟩
theorem IV.Be {T l:List Tm} (h:IV T l) {t:Tm} (ht:t∈T):Jl T t.2=t.1:=by
 have key:∀ {T:List Tm},(T.map (·.2)).Nodup→t∈T→Jl T t.2=t.1:=by
  intro T
  induction T with
  |nil=>intro _ h;cases h
  |cons x T ih =>
   intro hn hm
   simp only [List.map_cons] at hn
   obtain ⟨h1,h2⟩:=List.nodup_cons.1 hn
   rcases List.mem_cons.1 hm with rfl | hm
   ·simp only [Jl]
    have hz:Jl T t.2=0:=Y0 fun x hx e=>h1 (e ▸ List.mem_map_of_mem (f:=(·.2)) hx)
    rw [if_pos trivial,hz,Rat.add_zero]
   ·simp only [Jl]
    have:¬ x.2=t.2:=fun e=>h1 (e ▸ List.mem_map_of_mem (f:=(·.2)) hm)
    rw [if_neg this,ih h2 hm,Rat.zero_add]
 exact key h.nd ht
theorem Pu {T:List Tm} {p:List Int} (h:p∉T.map (·.2)):Jl T p=0:=Y0 fun x hx e=>h (e ▸ List.mem_map_of_mem (f:=(·.2)) hx)
theorem IV.norm {T l s:List Tm} (h:IV T l) (hp:s.Perm (T.filter fun t=>decide (t.1≠0))) (hs:s.Pairwise fun x y=>before x.2 y.2=true):s=XC l:=by
 refine S4 ⟨hs,fun t ht=>?_⟩ ((EO.perm hp).trans ((eqv_filter T).trans h.eq))
 have:=(hp.mem_iff).1 ht
 simpa using (List.mem_filter.1 this).2
end Ig
