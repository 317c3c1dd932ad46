/- Steps of the proof of the theorem in the last file. -/
import Derived.Test.YtogkbhegfnklhaaGreatDoorM10XCB
set_option linter.all false
set_option maxHeartbeats 4000000
set_option maxRecDepth 1000000
namespace Go.Ev
noncomputable section
def QLj:kg:=GM mm5 (GM Cc (GM Ca (GM CV (Proofs.YtogkbhegfnklhaaGreatDoor.Ew))))
end
theorem QH1:UK Proofs.Tryz.prog QLj:=Ym (Ym (Ym (Ym (Proofs.YtogkbhegfnklhaaGreatDoor.Yc) QH9) QIE) QIG) QKK
theorem QIq:isT (go Proofs.Tryz.prog imp QLj met 300 (.ca 1 8 [] (hG kG) n0))=true:=by kernel_rfl
theorem QGx:∃r,Mg Proofs.Tryz.prog 1 8 [] (hG kG) n0 r/\r.a = .b true:=by
 obtain⟨r,h1,h2⟩:=QKn QIq;exact⟨r,vP jH QH1 Kz 300 _ _ h1,h2⟩
end Go.Ev
