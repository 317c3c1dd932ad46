/- Steps of the proof of the theorem in the last file. -/
import Derived.Test.YtphlgddkpboamaaGreatDoorE2XCD
import Derived.Test.YtphlgddkpboamaaGreatDoorM10XCC
import Derived.Test.YtphlgddkpboamaaGreatDoorQ0
set_option linter.all false
set_option maxHeartbeats 4000000
open Go.Value renaming bool -> aa,int -> ae
namespace Go.Proofs.YtphlgddkpboamaaGreatDoor
variable{m:Mt}{s:Int}
open Go.RowKit Ig
def QDh:(Lib.pow10Tab.map λz=>ae .u64 z)=Ev.QDi.map λz=>ae .u64 z:=by unfold Lib.pow10Tab Ev.QDi;rfl
theorem Cd{w:World}{F:Gs}(hF:Fits F w)(hGl:Ka F):Qi Tryz.prog 7 [] w F (.bool true):=by
 obtain⟨_,T,h2⟩:=hGl;obtain⟨fr,e⟩:=hF.row _ _ _ h2;rw[QDh]at e;obtain⟨r,h3,h4⟩:=Ev.QCZ;exact .of (enters_of Tryz.func7 wj wj) hF (Ev.zg wj wk h3 h4 e)
def Xcw(h:WV m=0)(h2:s<0\/m.p.sh<=s):10=ldE m s:=by
 unfold ldE;rw[if_neg (by simpa using h),if_neg (by unfold N4;simp;omega)]
def Xd9(h:WV m=0)(h2:0<=s)(h3:s<m.p.sh):WV m=ldE m s:=by
 unfold ldE;rw[if_neg (by simpa using h),if_pos (by unfold N4;simp;omega),h]
def Xd8(h:WV m≠0):WV m=ldE m s:=by
 unfold ldE;rw[if_pos h]
theorem Xag{w:World}{F:Gs}(hF:Fits F w)(hGl:Ka F)(hM:BB F m):Qi Tryz.prog 4 [m.v,.int .i64 s] w F (.bool true):=by
 refine QS.go (G:=λF=>BB F m/\Ka F) Tryz.func4 hF ⟨hM,hGl⟩ ?_;refine QLF<|Q9 I (vs:=[_,_,_,_,_,_,_,_]) I λb2=>QMW 5 I<|JN (b:=b2) .here<|QB<|QA (XE (n:=1) (vs:=[Qs m.p.sh,.slice m.p.un.q m.p.un.n m.p.un.cap,.slice m.p.ot.q m.p.ot.n m.p.ot.cap,.slice m.sc.q m.sc.n m.sc.cap,Qs m.QDf,Qs m.QEV,.slice m.fa.q m.fa.n m.fa.cap,.slice m.lg.q m.lg.n m.lg.cap]) ((0)*8) (λF h9=>(JC.of (n:=1) (sz:=8) h9.2 I)) O rfl Mz I λj v hv=>by simpa using hv)<|QL I (λ_ _ f k=>QEJ (n:=8) f k.1.1 wk) λc11=>XA _ (λ_ _ f k=>k.2) λhg11=>QF<|QD ?_
 refine QO I (λhc2=>?_) λhc2=>?_
 ·refine QLF<|QL I (λ_ _ f k=>Cd f k.1.1.2) λ_=>wR I<|QU ?_
  exact QMn I I (rfl) wz
 refine QMX 4 I<|QA (XE (n:=1) (vs:=[Qs m.p.sh,.slice m.p.un.q m.p.un.n m.p.un.cap,.slice m.p.ot.q m.p.ot.n m.p.ot.cap,.slice m.sc.q m.sc.n m.sc.cap,Qs m.QDf,Qs m.QEV,.slice m.fa.q m.fa.n m.fa.cap,.slice m.lg.q m.lg.n m.lg.cap]) ((0)*8) (λF h9=>(JC.of (n:=1) (sz:=8) h9.1.2 I)) O rfl Mz I λj v hv=>by simpa using hv) ?_
 have hL:=(hg11 (by simpa using hc2)).l;refine QL I (λ_ _ f k=>DK f k.1.1.1 hL) (λ_=>QMW 5 I<|QA (XE (n:=1) (vs:=[Qs m.p.sh,.slice m.p.un.q m.p.un.n m.p.un.cap,.slice m.p.ot.q m.p.ot.n m.p.ot.cap,.slice m.sc.q m.sc.n m.sc.cap,Qs m.QDf,Qs m.QEV,.slice m.fa.q m.fa.n m.fa.cap,.slice m.lg.q m.lg.n m.lg.cap]) ((0)*8) (λF h9=>(JC.of (n:=1) (sz:=8) h9.1.1.2 I)) O rfl Mz I λj v hv=>by simpa using hv)<|QJm I<|QL I (λ_ _ f k=>Xbg f k.1.1.1.2 k.1.1.1.1 hL) λ_=>QMW 9 I<|QA (XE (n:=1) (vs:=[Qs m.p.sh,.slice m.p.un.q m.p.un.n m.p.un.cap,.slice m.p.ot.q m.p.ot.n m.p.ot.cap,.slice m.sc.q m.sc.n m.sc.cap,Qs m.QDf,Qs m.QEV,.slice m.fa.q m.fa.n m.fa.cap,.slice m.lg.q m.lg.n m.lg.cap]) ((0)*8) (λF h9=>(JC.of (n:=1) (sz:=8) h9.1.1.1.2 I)) O rfl Mz I λj v hv=>by simpa using hv)<|QL I (λ_ _ f k=>Xad f k.1.1.1.1.2 k.1.1.1.1.1 hL) λc23=>XA _ (λ_ _ f k=>k.2) λn23=>QMW 8 I ?_);refine Xq [(1,_),(2,_),(5,_),(6,_),(7,_)] [(44,.bool (false))] wX ?_ ?_
 ·refine QB<|QA (XE (n:=1) (vs:=[Qs m.p.sh,.slice m.p.un.q m.p.un.n m.p.un.cap,.slice m.p.ot.q m.p.ot.n m.p.ot.cap,.slice m.sc.q m.sc.n m.sc.cap,Qs m.QDf,Qs m.QEV,.slice m.fa.q m.fa.n m.fa.cap,.slice m.lg.q m.lg.n m.lg.cap]) ((0)*8) (λF h9=>(JC.of (n:=1) (sz:=8) h9.1.1.1.1.2 I)) O rfl Mz I λj v hv=>by simpa using hv)<|QL I (λ_ _ f k=>CZ f k.1.1.1.1.1.2 k.1.1.1.1.1.1 hL) λ_=>QJm I<|QA (QP (v:=.bool false) rfl rfl (by show some (aa (!(WV m==WV m)))=_;rw[beq_self_eq_true];rfl))<|wB 6 I<|QA (QP (v:=.bool false) rfl rfl (by show some (aa (!(WV m==WV m)))=_;rw[beq_self_eq_true];rfl))<|wB 10 I ?_
  refine Qa (t:=39) rfl (λhb39=>?_) λhb39=>?_
  ·refine QK I I<|QA (XE (n:=1) (vs:=[Qs m.p.sh,.slice m.p.un.q m.p.un.n m.p.un.cap,.slice m.p.ot.q m.p.ot.n m.p.ot.cap,.slice m.sc.q m.sc.n m.sc.cap,Qs m.QDf,Qs m.QEV,.slice m.fa.q m.fa.n m.fa.cap,.slice m.lg.q m.lg.n m.lg.cap]) ((0)*8) (λF h9=>(JC.of (n:=1) (sz:=8) h9.1.1.1.1.1.2 I)) O rfl Mz I λj v hv=>by simpa using hv)<|QK I I<|QL I (λ_ _ f k=>Xbi f k.1.1.1.1.1.1.1 hL (by simpa using hb39)) λc41=>XA _ (λ_ _ f k=>k.2) λn41=>wB 3 I<|QA (ve Ag I I)<|wB 2 I ?_
   exact Jc ⟨rfl,rfl,rfl,rfl,rfl,(congrArg (λb:Bool=>some (aa b)) (by have h1:=n23;have h2:=n41;have h0:WV m=0:=(by simpa using hb39);cases c23<;>cases c41<;>simp_all)),trivial⟩ QKK λ_ h=>h.1.1
  refine wB 5 I<|QA (ve Ag I I)<|wB 2 I ?_
  exact Jc ⟨rfl,rfl,rfl,rfl,rfl,(congrArg (λb:Bool=>some (aa b)) (by have h1:=n23;have h0:¬WV m=0:=(by simpa using hb39);cases c23<;>simp_all)),trivial⟩ QKK w8
 refine QO I (λhc2=>?_) λhc2=>?_
 ·exact absurd hc2 (wk)
 refine QN<|QD ?_
 refine Xq [(1,_),(2,_),(6,_),(7,_)] [(5,.int .i64 ((ldE m s)))] wW ?_ ?_
 ·refine wA 5 I ?_;refine Qa (t:=47) rfl (λhb47=>?_) λhb47=>?_
  ·refine wB 6 I ?_;refine Qa (t:=50) rfl (λhb50=>?_) λhb50=>?_
   ·refine QMW 10 I<|Jv I<|wA 3 I ?_
    exact Jc ⟨rfl,rfl,rfl,rfl,(congrArg (λz:Int=>some (ae .i64 z)) (by exact Xcw (eq_of_beq hb47) (.inl (QLr hb50)))),trivial⟩ QKK w7
   refine wB 3 I<|QA (QH I Ks ZL)<|QK I I<|QA (QH I K9 QY)<|QK I I<|QA (Ql (n:=1) ((0)*8+0) (λF h9=>(JC.of (n:=1) (sz:=8) h9.1.1.1.1.2 I)) O rfl QY I)<|QMW 7 I ?_
   refine QO I (λhc2=>?_) λhc2=>?_
   ·refine wA 3 I ?_;exact Jc ⟨rfl,rfl,rfl,rfl,(congrArg (λz:Int=>some (ae .i64 z)) (by exact Xcw (eq_of_beq hb47) (.inr (QLr hc2)))),trivial⟩ QKK w7
   refine QN ?_;exact Jc ⟨rfl,rfl,rfl,rfl,(congrArg (λz:Int=>some (ae .i64 z)) (by exact Xd9 (eq_of_beq hb47) (wi<|QLs hb50) (wi<|QLs hc2))),trivial⟩ QKK w7
  refine wB 3 I<|Qz I I<|Qz I I<|Qz I I<|Qz I I<|Qz I I<|QMW 4 I<|Zg I<|QN ?_
  exact Jc ⟨rfl,rfl,rfl,rfl,(congrArg (λz:Int=>some (ae .i64 z)) (by exact Xd8 (by simpa using hb47))),trivial⟩ QKK w7
 refine wA 7 I ?_;refine QO I (λhc2=>?_) λhc2=>?_
 ·have hE:ldE m s≠0:=by simpa using hc2
  refine wS I<|QA (QP (v:=.bool true) rfl rfl (by rw[if_neg hE];rfl))<|wB 6 I<|QA (QP (v:=.bool true) rfl rfl (by show some (aa (ldE m s==ldE m s))=_;rw[beq_self_eq_true]))<|wB 3 I<|QL I (λ_ _ f k=>Cd f k.1.1.1.1.1.2) λ_=>QMW 5 I ?_
  exact QMn I I (rfl) wz
 have hE:ldE m s=0:=by simpa using hc2
 have hV:=RE.of (Xa5 (Xbp hE));have hfl9:∀u∈m.p.ul,u.fl.length<=1000:=λu hu=>wi<|Z0 (hV.us u hu)
 refine QMX 5 I<|QA (QP (v:=.bool true) rfl rfl (by rw[hE];rfl))<|QJm rfl<|QK rfl rfl<|QJm rfl<|QK rfl rfl<|QA (QH rfl Ks ZL)<|QK rfl rfl<|QA (XE (n:=1) (vs:=[Qs m.p.sh,.slice m.p.un.q m.p.un.n m.p.un.cap,.slice m.p.ot.q m.p.ot.n m.p.ot.cap]) ((0)*8) (λF h9=>(JC.of (n:=1) (sz:=8) h9.1.1.1.1.2 rfl)) O rfl ZL rfl λj v hv=>by match j,hv with | 0,h=>exact h | 1,h=>exact h | 2,h=>exact h | _+3,h=>cases h)<|QK rfl rfl<|QJm rfl<|QK rfl rfl<|QL rfl (λ_ _ f k=>Xbh f k.1.1.1.1.1.1.p hL.p.un hfl9) λ_=>QK rfl rfl<|QA (QP (v:=.bool true) rfl rfl (by rw[if_pos hE];show some (aa (((ldU s m.p.ul:Nat):Int)==((ldU s m.p.ul:Nat):Int)))=_;rw[beq_self_eq_true]))<|wB 3 I<|QL I (λ_ _ f k=>Cd f k.1.1.1.1.1.1.2) λ_=>QMW 5 I ?_
 exact QMn I I (rfl) wz
end Go.Proofs.YtphlgddkpboamaaGreatDoor
