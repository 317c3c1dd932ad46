/- Steps of the proof of the theorem in the last file. -/
import Derived.Test.YtphlgddkpboamaaGreatDoorE2XCC
import Derived.Test.YtphlgddkpboamaaGreatDoorM10XCC
import Derived.Test.YtphlgddkpboamaaGreatDoorQ0
set_option linter.all false
set_option maxHeartbeats 4000000
open Go.Value renaming int -> aa
namespace Go.Proofs.YtphlgddkpboamaaGreatDoor
open Go.RowKit Ig
def QDh:(Lib.pow10Tab.map λz=>aa .u64 z)=Ev.QDi.map λz=>aa .u64 z:=by unfold Lib.pow10Tab Ev.QDi;rfl
theorem Cd{w:World}{F:Gs}(hF:Fits F w)(hGl:Ka F):Qi Tryz.prog 7 [] w F (.bool true):=by
 obtain⟨_,T,h2⟩:=hGl;obtain⟨fr,e⟩:=hF.row _ _ _ h2;rw[QDh]at e;obtain⟨r,h3,h4⟩:=Ev.QCZ;exact .of (enters_of Tryz.func7 wj wj) hF (Ev.zg wj wk h3 h4 e)
theorem z7{w:World}{F:Gs}{m:Mt}{s:FA}(hF:Fits F w)(hGl:Ka F)(hM:BB F m)(hS:N3 F s):Qi Tryz.prog 3 [m.v,s.v] w F (.bool true):=by
 refine QS.go (G:=λF=>BB F m/\N3 F s/\Ka F) Tryz.func3 hF ⟨hM,hS,hGl⟩ ?_;refine QLF<|Q9 I (vs:=[_,_,_,_,_,_,_,_]) I λb2=>Q9 I (vs:=[_,_,_,_,_,_]) I λb3=>QMW 5 I<|JN (b:=b2) .u1<|JN (b:=b3) .here<|QB<|QA (Jj (λF h9=>h9.1.2) rfl Mz I)<|QL I (λ_ _ f k=>QEJ (n:=8) f k.1.1.1 wk) λc6=>XA _ (λ_ _ f k=>k.2) λhg6=>QJm I ?_
 refine Qa (t:=7) rfl (λhb7=>?_) λhb7=>?_
 ·refine QMW 6 I<|Jv I<|QLF<|QL I (λ_ _ f k=>Cd f k.1.1.1.2.2) λ_=>wR I<|QU ?_
  exact QMn I I (rfl) wz
 refine QK I I<|QA (Jj (λF h9=>h9.1.2) rfl qA I)<|QK I I<|QL I (λ_ _ f k=>uv f k.1.1.1.2.1) λc9=>XA _ (λ_ _ f k=>k.2) λhs9=>QK I I<|QA (Xv I)<|QMW 3 I ?_
 refine QO I (λhc2=>?_) λhc2=>?_
 ·refine QLF<|QL I (λ_ _ f k=>Cd f k.1.1.1.1.2.2) λ_=>wR I<|QU ?_
  exact QMn I I (rfl) wz
 refine QMX 3 I<|JE QKK mixed wj<|QJ (Jj (λF h9=>h9.1.1.1.2) rfl Mz I)<|QJ (Jj (λF h9=>h9.1.1.2) rfl qA I) ?_
 have hL:=hg6 hb7;have hC:=hs9 (by simpa using hc2);refine QZ I (λ_ _ f k=>C7 f k.1.1.1.1.2.2 k.1.1.1.1.1 k.1.1.1.1.2.1 hL hC) (λ_=>QJ (Jj (λF h9=>h9.1.1.1.2) rfl Mz I)<|QJ (Jj (λF h9=>h9.1.1.2) rfl qA I)<|QZ I (λ_ _ f k=>dH f k.1.1.1.1.1.1 k.1.1.1.1.1.2.1 hL hC) λ_=>QJ (QP I I I)<|QJ (QC I) ?_);refine KH (t:=20) rfl (λhb20=>?_) λhb20=>?_
 ·refine JA I I<|QZ I (λ_ _ f k=>Cd f k.1.1.1.1.1.1.2.2) λ_=>QJ (QR I I I)<|QJ (QE I)<|Qy<|QD<|QU ?_
  exact QMn I I (rfl) wz
 refine Q7 I I I<|QJ (QT I I I)<|QJ (QE I)<|Qy<|QD<|QU ?_
 exact QMn I I (congrArg Value.bool (by simp at hb20)) wz
end Go.Proofs.YtphlgddkpboamaaGreatDoor
