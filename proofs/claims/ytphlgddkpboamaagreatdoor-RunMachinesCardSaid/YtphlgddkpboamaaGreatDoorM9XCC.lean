/- Steps of the proof of the theorem in the last file. -/
import Derived.Test.YtphlgddkpboamaaGreatDoorM8XCC
set_option linter.all false
set_option maxHeartbeats 4000000
set_option maxRecDepth 1000000
namespace Go.Ev
noncomputable section
def QJK:Tr B:=bC 9608 [.s [112,108,97,121,115]] 9 false 4<|bC 9612 [.s [115,108,105,112,115],aI 0,aN,aI 1,aN,aI 0,aN,aI 1,aN] 189 false 4<|bC 9610 [aI 0,aN,aI 1,aN] 116 false 4<|bC 9609 [.s [115,116,97,114,116,115],.s [114,101,115,116,115],.s [115,116,101,112,115],.s [99,111,117,110,116,115],.s [112,108,97,121,115]] 9 true 4<|bC 9611 [aI 13,aN,aI 1024,aN,aI 1,aN,aI 512,aN,aI 31,aN,aI 512,aN,aI 0,aN,aI 1,aN,aI 0,aN,aI 1,aN] 116 true 4<|bC 9607 [aI 0,aN,aI 1,aN] 116 false 4<|bX 9305<|bX 9303<|QJF
def QJE:Tr B:=QJK
def Ff:Mm:=⟨135,4,[.g [.s [115,108,105,112,115],aI 0,aN,aI 1,aN,aI 0,aN,aI 1,aN],.g [aI 1,aN,aI 1,aN],.g [aI 1,aN,aI 10,aN],aI 1,aI 10],QJK,Q 9613,⟨.nm,.t [.g [aI 0,aN,aI 1,aN],.b false],.lf,QJE,Q 9913⟩⟩
end
theorem QGb:yo (go Proofs.Tryz.prog imp Proofs.YtphlgddkpboamaaGreatDoor.RG met 300 (.ca Ff.lv Ff.f Ff.args Ff.h Ff.n)) Ff.r=true:=by kernel_rfl
theorem QD1:N2 Proofs.Tryz.prog Ff.lv Ff.f Ff.args Ff.h Ff.n Ff.r:=V8 ke Proofs.YtphlgddkpboamaaGreatDoor.VZ GP QGb
noncomputable section
def QJJ:Tr B:=bX 8384<|bX 7456<|bX 7248<|bX 7408<|bX 8688<|bX 9608<|bX 9000<|bX 9304<|bX 7236<|bX 8996<|bX 7252<|bX 9612<|bX 8076<|bX 6844<|bX 8386<|bX 7250<|bX 9610<|bX 9306<|bX 7238<|bX 8998<|bX 9302<|bX 8078<|bX 7246<|bX 7502<|bX 7406<|bX 7454<|bX 7230<|bX 8382<|bX 6846<|bX 7217<|bX 7409<|bX 8689<|bX 9609<|bX 7225<|bX 9301<|bX 8693<|bX 8077<|bX 7501<|bX 8381<|bX 6845<|bX 8995<|bX 7251<|bX 8691<|bX 9611<|bX 8075<|bX 7227<|bX 9607<|bX 7223<|bX 7407<|bX 6847<|QJE
def QKj:Tr B:=bC 9959 [.s [115,116,97,114,116,115],.s [49,51,47,49,48,50,52],.s [114,101,115,116,115],.s [49,47,53,49,50],.s [115,116,101,112,115],.s [51,49,47,53,49,50],.s [99,111,117,110,116,115],.s [48],.s [112,108,97,121,115],.s [48],.s [115,108,105,112,115],.s [48]] 72 true 2<|QJJ
def Fe:Mm:=⟨25,2,[.g [aI 2,aL 130 0 1 1,aL 131 0 1 1,aL 133 0 2 2,aI 1,aI 1000,aL 134 0 2 2,aL 135 0 1 1],.g [.s [48],.s [49]],aL 6843 0 1 1,aI 1,aI 10],QJJ,Q 6844,⟨.nm,.t [aO 9959 0 6 2,aI 0],.lf,QKj,Q 9960⟩⟩
end
noncomputable section
def QBB:Ora:=Bu cQ (Bu cP (Bu cO (Bu Fj (Bu Fi (Bu Fh (Bu Fg (Bu Ff (Proofs.YtphlgddkpboamaaGreatDoor.RG))))))))
end
theorem cG:xp Proofs.Tryz.prog QBB:=V7 (V7 (V7 (V7 (V7 (V7 (V7 (V7 (Proofs.YtphlgddkpboamaaGreatDoor.VZ) QD1) QD2) QD3) QD4) QD5) QGR) QGS) QGT
theorem QGa:yo (go Proofs.Tryz.prog imp QBB met 300 (.ca Fe.lv Fe.f Fe.args Fe.h Fe.n)) Fe.r=true:=by kernel_rfl
theorem QD0:N2 Proofs.Tryz.prog Fe.lv Fe.f Fe.args Fe.h Fe.n Fe.r:=V8 ke cG GP QGa
end Go.Ev
