/- Steps of the proof of the theorem in the last file. -/
import Derived.Test.YtphlgddkpboamaaGreatDoorM7XCC
set_option linter.all false
set_option maxHeartbeats 4000000
set_option maxRecDepth 1000000
namespace Go.Ev
noncomputable section
def QJO:Tr B:=bC 8384 [aI 13,aN,aI 1024,aN] 116 false 4<|bC 8386 [.s [114,101,115,116,115],aI 0,aN,aI 1,aN,aI 1,aN,aI 100,aN] 189 false 4<|bC 8382 [.s [115,116,97,114,116,115]] 9 false 4<|bC 8385 [aI 13,aN,aI 1024,aN] 116 true 4<|bC 8381 [aI 13,aN,aI 1024,aN] 116 false 4<|bC 8383 [.s [115,116,97,114,116,115]] 9 true 4<|hB9
def QJI:Tr B:=QJO
def Fj:Mm:=⟨135,4,[.g [.s [114,101,115,116,115],aI 0,aN,aI 1,aN,aI 1,aN,aI 100,aN],.g [aI 1,aN,aI 1,aN],.g [aI 1,aN,aI 10,aN],aI 1,aI 10],QJO,Q 8387,⟨.nm,.t [.g [aI 1,aN,aI 512,aN],.b false],.lf,QJI,Q 8688⟩⟩
end
theorem QGf:yo (go Proofs.Tryz.prog imp Proofs.YtphlgddkpboamaaGreatDoor.RG met 300 (.ca Fj.lv Fj.f Fj.args Fj.h Fj.n)) Fj.r=true:=by kernel_rfl
theorem QD5:N2 Proofs.Tryz.prog Fj.lv Fj.f Fj.args Fj.h Fj.n Fj.r:=V8 ke Proofs.YtphlgddkpboamaaGreatDoor.VZ GP QGf
noncomputable section
def QJN:Tr B:=bC 8688 [aI 1,aN,aI 512,aN] 116 false 4<|bC 8692 [aI 13,aN,aI 1024,aN,aI 1,aN,aI 512,aN] 116 true 4<|bC 8690 [.s [115,116,97,114,116,115],.s [114,101,115,116,115]] 9 true 4<|bC 8689 [.s [114,101,115,116,115]] 9 false 4<|bC 8693 [.s [115,116,101,112,115],aI 0,aN,aI 1,aN,aI 3,aN,aI 5,aN] 189 false 4<|bC 8691 [aI 1,aN,aI 512,aN] 116 false 4<|bX 8385<|bX 8383<|QJI
def QJH:Tr B:=QJN
def Fi:Mm:=⟨135,4,[.g [.s [115,116,101,112,115],aI 0,aN,aI 1,aN,aI 3,aN,aI 5,aN],.g [aI 1,aN,aI 1,aN],.g [aI 1,aN,aI 10,aN],aI 1,aI 10],QJN,Q 8694,⟨.nm,.t [.g [aI 31,aN,aI 512,aN],.b false],.lf,QJH,Q 8995⟩⟩
end
theorem QGe:yo (go Proofs.Tryz.prog imp Proofs.YtphlgddkpboamaaGreatDoor.RG met 300 (.ca Fi.lv Fi.f Fi.args Fi.h Fi.n)) Fi.r=true:=by kernel_rfl
theorem QD4:N2 Proofs.Tryz.prog Fi.lv Fi.f Fi.args Fi.h Fi.n Fi.r:=V8 ke Proofs.YtphlgddkpboamaaGreatDoor.VZ GP QGe
noncomputable section
def QJM:Tr B:=bC 9000 [.s [99,111,117,110,116,115],aI 0,aN,aI 1,aN,aI 0,aN,aI 1,aN] 189 false 4<|bC 8996 [.s [115,116,101,112,115]] 9 false 4<|bC 8998 [aI 31,aN,aI 512,aN] 116 false 4<|bC 8997 [.s [115,116,97,114,116,115],.s [114,101,115,116,115],.s [115,116,101,112,115]] 9 true 4<|bC 8995 [aI 31,aN,aI 512,aN] 116 false 4<|bC 8999 [aI 13,aN,aI 1024,aN,aI 1,aN,aI 512,aN,aI 31,aN,aI 512,aN] 116 true 4<|bX 8692<|bX 8690<|QJH
def QJG:Tr B:=QJM
def Fh:Mm:=⟨135,4,[.g [.s [99,111,117,110,116,115],aI 0,aN,aI 1,aN,aI 0,aN,aI 1,aN],.g [aI 1,aN,aI 1,aN],.g [aI 1,aN,aI 10,aN],aI 1,aI 10],QJM,Q 9001,⟨.nm,.t [.g [aI 0,aN,aI 1,aN],.b false],.lf,QJG,Q 9301⟩⟩
end
theorem QGd:yo (go Proofs.Tryz.prog imp Proofs.YtphlgddkpboamaaGreatDoor.RG met 300 (.ca Fh.lv Fh.f Fh.args Fh.h Fh.n)) Fh.r=true:=by kernel_rfl
theorem QD3:N2 Proofs.Tryz.prog Fh.lv Fh.f Fh.args Fh.h Fh.n Fh.r:=V8 ke Proofs.YtphlgddkpboamaaGreatDoor.VZ GP QGd
noncomputable section
def QJL:Tr B:=bC 9304 [aI 0,aN,aI 1,aN] 116 false 4<|bC 9306 [.s [112,108,97,121,115],aI 0,aN,aI 1,aN,aI 0,aN,aI 1,aN] 189 false 4<|bC 9302 [.s [99,111,117,110,116,115]] 9 false 4<|bC 9305 [aI 13,aN,aI 1024,aN,aI 1,aN,aI 512,aN,aI 31,aN,aI 512,aN,aI 0,aN,aI 1,aN] 116 true 4<|bC 9301 [aI 0,aN,aI 1,aN] 116 false 4<|bC 9303 [.s [115,116,97,114,116,115],.s [114,101,115,116,115],.s [115,116,101,112,115],.s [99,111,117,110,116,115]] 9 true 4<|bX 8997<|bX 8999<|QJG
def QJF:Tr B:=QJL
def Fg:Mm:=⟨135,4,[.g [.s [112,108,97,121,115],aI 0,aN,aI 1,aN,aI 0,aN,aI 1,aN],.g [aI 1,aN,aI 1,aN],.g [aI 1,aN,aI 10,aN],aI 1,aI 10],QJL,Q 9307,⟨.nm,.t [.g [aI 0,aN,aI 1,aN],.b false],.lf,QJF,Q 9607⟩⟩
end
theorem QGc:yo (go Proofs.Tryz.prog imp Proofs.YtphlgddkpboamaaGreatDoor.RG met 300 (.ca Fg.lv Fg.f Fg.args Fg.h Fg.n)) Fg.r=true:=by kernel_rfl
theorem QD2:N2 Proofs.Tryz.prog Fg.lv Fg.f Fg.args Fg.h Fg.n Fg.r:=V8 ke Proofs.YtphlgddkpboamaaGreatDoor.VZ GP QGc
end Go.Ev
