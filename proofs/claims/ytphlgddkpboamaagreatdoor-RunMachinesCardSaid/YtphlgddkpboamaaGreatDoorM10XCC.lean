/- Steps of the proof of the theorem in the last file. -/
import Derived.Test.YtphlgddkpboamaaGreatDoorM9XCC
set_option linter.all false
set_option maxHeartbeats 4000000
set_option maxRecDepth 1000000
namespace Go.Ev
noncomputable section
def QIh:Ora:=Bu cW (Bu cV (Bu cU (Bu cT (Bu cS (Bu cR (Bu Fe (Proofs.YtphlgddkpboamaaGreatDoor.RG)))))))
end
theorem QDp:xp Proofs.Tryz.prog QIh:=V7 (V7 (V7 (V7 (V7 (V7 (V7 (Proofs.YtphlgddkpboamaaGreatDoor.VZ) QD0) QGU) QGV) QGW) QGX) QGY) QGZ
theorem QEi:isT (go Proofs.Tryz.prog imp QIh met 300 (.ca 1 7 [] (hG kG) n0))=true:=by kernel_rfl
theorem QCZ:∃r,N2 Proofs.Tryz.prog 1 7 [] (hG kG) n0 r/\r.a = .b true:=by
 obtain⟨r,h1,h2⟩:=QG4 QEi;exact⟨r,yr ke QDp GP 300 _ _ h1,h2⟩
end Go.Ev
