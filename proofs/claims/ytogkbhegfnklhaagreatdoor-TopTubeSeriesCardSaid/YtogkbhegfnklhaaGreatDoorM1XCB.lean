/- Steps of the proof of the theorem in the last file. -/
import Derived.Test.YtogkbhegfnklhaaGreatDoorM0XCB
set_option linter.all false
set_option maxHeartbeats 4000000
set_option maxRecDepth 1000000
namespace Go.Ev
noncomputable def bX (n:Nat) (h:Tr B):Tr B:=h.put none (Q n)
noncomputable section
def hA1:Tr B:=bC 512 [aI 2,aN,aI 1,aN,aO 447 0 3 1] 186 true 3<|bC 640 [aO 588 0 1 5,aO 638 0 1 5] 120 false 5<|bC 544 [aI 1,aN,aI 1,aN,aO 521 0 3 1] 186 true 4<|bC 400 [aI 1,aN,aI 1,aN,aO 399 0 3 1] 186 false 3<|bC 592 [aI 0,aI 1,aI 0] 3 true 4<|bC 136 [aL 129 0 2 2,aL 134 0 2 2,aL 135 0 2 2] 26 false 3<|bC 360 [aI 1,aN,aI 1,aN,aO 359 0 3 1] 186 false 3<|bC 344 [aL 129 0 2 2,aL 134 0 2 2,aL 135 0 2 2,aI 3,aO 343 0 2 1] 66 false 3<|bC 132 [aI 0,aI 1,aI 0] 3 false 2<|bC 588 [aI 1,aN,aI 1,aN,aO 549 0 3 1] 186 true 4<|bC 620 [aI 0,aI 2,aI 0] 3 true 4<|bC 380 [aI 1,aN,aI 1,aN,aO 379 0 3 1] 186 false 3<|bC 130 [aI 0,aI 0,aI 1] 3 false 2<|bC 514 [aO 512 0 1 5] 120 true 3<|bC 642 [aI 1,aN,aI 1,aN] 87 false 5<|bC 402 [aL 400 0 1 1,aL 390 0 1 1,aL 370 0 1 1,aL 380 0 1 1,aL 360 0 1 1] 120 true 3<|bC 370 [aI 1,aN,aI 1,aN,aO 369 0 3 1] 186 false 3<|bC 666 [aI 0,aN,aI 0,aN,aN] 186 false 5<|bC 134 [aL 131 0 1 1,aL 133 0 1 1] 54 false 2<|bC 390 [aI 1,aN,aI 1,aN,aO 389 0 3 1] 186 false 3<|bC 654 [aJ 0,aN,aI 1,aN,aO 620 0 3 1] 186 false 5<|bC 638 [aJ 0,aN,aI 1,aN,aO 620 0 3 1] 186 true 4<|bC 129 [.s [120],.s [118]] 9 false 2<|bC 513 [aO 512 0 1 5] 120 false 3<|bC 641 [aI 1,aN,aI 1,aN,aO 549 0 3 1] 186 false 5<|bC 369 [aI 0,aI 0,aI 2] 3 true 3<|bC 521 [aI 0,aI 0,aI 1] 3 true 4<|bR 13 [aU 1,aU 10,aU 100,aU 1000,aU 10000,aU 100000,aU 1000000,aU 10000000,aU 100000000,aU 1000000000,aU 10000000000,aU 100000000000,aU 1000000000000,aU 10000000000000,aU 100000000000000,aU 1000000000000000,aU 10000000000000000,aU 100000000000000000,aU 1000000000000000000,aU 10000000000000000000] 0 0<|bC 133 [.s [45,49],aL 132 0 3 3] 110 false 2<|bC 389 [aI 0,aI 1,aI 1] 3 true 3<|bC 293 [aI 1,aN,aI 1,aN,aO 275 0 3 1] 186 true 3<|bC 549 [aI 0,aI 0,aI 2] 3 true 4<|bC 341 [aJ 0,aN,aI 1,aN,aO 323 0 3 1] 186 true 3<|bC 653 [aI 0,aN,aI 0,aN,aN] 186 false 5<|bC 131 [.s [49],aL 130 0 3 3] 110 false 2<|bC 323 [aI 0,aI 1,aI 0] 3 true 3<|bC 275 [aI 0,aI 0,aI 1] 3 true 3<|bC 379 [aI 0,aI 1,aI 0] 3 true 3<|bC 135 [.s [49],.s [49],.s [48],.s [48]] 41 false 2<|bC 359 [aI 0,aI 0,aI 1] 3 true 3<|bC 615 [aI 1,aN,aI 1,aN,aO 592 0 3 1] 186 true 4<|bC 343 [aO 293 0 1 5,aO 341 0 1 5] 120 true 3<|bC 567 [aI 1,aN,aI 1,aN,aO 549 0 3 1] 186 true 4<|bC 399 [aI 0,aI 2,aI 0] 3 true 3<|bC 655 [aJ 0,aN,aI 1,aN] 87 false 5<|bC 447 [aI 0,aI 1,aI 1] 3 true 3<|bM 639 [(.s [48,32,48,32,50,32],.g [aI 1,aN,aI 1,aN,aO 549 0 3 1],0),(.s [48,32,50,32,48,32],.g [aJ 0,aN,aI 1,aN,aO 620 0 3 1],1)] 2 5<|.lf
def hB1:Tr B:=bC 677 [aJ 0,aN,aI 1,aN,aO 620 0 3 1,aI 1,aN,aI 1,aN,aO 549 0 3 1] 186 true 5<|hA1
def mm1:Mm:=⟨135,5,[.m (Q 639)],hA1,Q 667,⟨.nm,aO 677 0 2 5,.lf,hB1,Q 681⟩⟩
end
theorem QL0:fnN Proofs.Tryz.prog (go Proofs.Tryz.prog imp Proofs.YtogkbhegfnklhaaGreatDoor.Ew met 300) mm1.f mm1.lv mm1.args mm1.h mm1.n mm1.r=true:=by kernel_rfl
theorem QKS:Mg Proofs.Tryz.prog mm1.lv mm1.f mm1.args mm1.h mm1.n mm1.r:=Fc jH Proofs.YtogkbhegfnklhaaGreatDoor.Yc Kz QL0
noncomputable section
def hA2:Tr B:=bC 952 [aO 512 0 1 5,aO 677 0 2 5,aO 764 0 1 5,aO 866 0 1 5,aO 950 0 1 5] 120 true 3<|bC 1400 [aI 1,aN,aI 1,aN] 87 false 3<|bC 1476 [aI 1,aN,aI 1,aN] 87 false 4<|bC 1428 [aI 0,aN,aI 1,aN] 87 false 3<|bM 1460 [(.s [48,32,50,32,48,32],.g [aI 1,aN,aI 1,aN,aO 399 0 3 1],0),(.s [48,32,48,32,50,32],.g [aI 1,aN,aI 1,aN,aO 369 0 3 1],1)] 2 4<|bC 1452 [aI 1,aN,aI 1,aN,aO 399 0 3 1] 186 true 3<|bC 620 [aI 0,aI 2,aI 0] 3 true 3<|bC 764 [aJ 1,aN,aI 1,aN,aO 725 0 3 1] 186 true 3<|bC 1474 [aI 0,aN,aI 0,aN,aN] 186 false 4<|bC 866 [aI 1,aN,aI 1,aN,aO 801 0 3 1] 186 true 3<|bC 950 [aJ 0,aN,aI 1,aN,aO 911 0 3 1] 186 true 3<|bC 1462 [aI 1,aN,aI 1,aN,aO 399 0 3 1] 186 false 4<|bC 1406 [aI 1,aN,aI 1,aN,aO 399 0 3 1] 186 true 3<|bC 801 [aI 0,aI 0,aI 1] 3 true 3<|bC 681 [aO 677 0 2 5] 120 false 3<|bC 1385 [aL 1337 0 5 5] 124 true 3<|bC 1337 [aI 1,aN,aI 1,aN,aI 0,aN,aI 1,aN,aI 1,aN,aI 1,aN,aI 0,aN,aI 1,aN,aI 0,aN,aI 1,aN] 87 false 3<|bC 549 [aI 0,aI 0,aI 2] 3 true 3<|bC 677 [aJ 0,aN,aI 1,aN,aO 620 0 3 1,aI 1,aN,aI 1,aN,aO 549 0 3 1] 186 true 3<|bC 725 [aI 0,aI 1,aI 1] 3 true 3<|bC 1461 [aO 1452 0 1 5,aO 1459 0 1 5] 120 false 4<|bC 1453 [aI 1,aN,aI 1,aN] 87 false 3<|bC 765 [aO 764 0 1 5] 120 false 3<|bC 1475 [aI 1,aN,aI 1,aN,aO 369 0 3 1] 186 false 4<|bC 867 [aO 866 0 1 5] 120 false 3<|bC 1427 [aI 1,aN,aI 1,aN,aO 399 0 3 1] 186 true 3<|bC 1459 [aI 1,aN,aI 1,aN,aO 369 0 3 1] 186 true 3<|bC 951 [aO 950 0 1 5] 120 false 3<|bC 1463 [aI 1,aN,aI 1,aN] 87 false 4<|bC 911 [aI 0,aI 1,aI 0] 3 true 3<|bC 1487 [aI 0,aN,aI 0,aN,aN] 186 false 4<|bX 640<|bX 544<|bX 592<|bX 588<|bX 514<|bX 642<|bX 666<|bX 654<|bX 638<|bX 641<|bX 521<|bX 653<|bX 615<|bX 567<|bX 655<|bX 639<|hB1
def uQ:Tr B:=bC 1498 [aI 1,aN,aI 1,aN,aO 399 0 3 1,aI 1,aN,aI 1,aN,aO 369 0 3 1] 186 true 4<|hA2
def mm2:Mm:=⟨135,4,[.m (Q 1460)],hA2,Q 1488,⟨.nm,aO 1498 0 2 5,.lf,uQ,Q 1502⟩⟩
end
theorem QLz:fnN Proofs.Tryz.prog (go Proofs.Tryz.prog imp Proofs.YtogkbhegfnklhaaGreatDoor.Ew met 300) mm2.f mm2.lv mm2.args mm2.h mm2.n mm2.r=true:=by kernel_rfl
theorem QKN:Mg Proofs.Tryz.prog mm2.lv mm2.f mm2.args mm2.h mm2.n mm2.r:=Fc jH Proofs.YtogkbhegfnklhaaGreatDoor.Yc Kz QLz
noncomputable section
def hA3:Tr B:=bC 1520 [aI 0,aN,aI 0,aN,aN] 186 false 4<|bC 1508 [aI 1,aN,aI 1,aN,aO 399 0 3 1] 186 false 4<|bM 1506 [(.s [48,32,50,32,48,32],.g [aI 1,aN,aI 1,aN,aO 399 0 3 1],0),(.s [48,32,48,32,50,32],.g [aI 1,aN,aI 1,aN,aO 369 0 3 1],1)] 2 4<|bC 1522 [aI 1,aN,aI 1,aN] 87 false 4<|bC 1498 [aI 1,aN,aI 1,aN,aO 399 0 3 1,aI 1,aN,aI 1,aN,aO 369 0 3 1] 186 true 3<|bC 1502 [aI 0,aN,aI 1,aN] 87 false 3<|bC 1521 [aI 1,aN,aI 1,aN,aO 369 0 3 1] 186 false 4<|bC 1509 [aI 1,aN,aI 1,aN] 87 false 4<|bC 1533 [aI 0,aN,aI 0,aN,aN] 186 false 4<|bC 1507 [aO 1498 0 2 5,aN] 120 false 4<|bX 1476<|bX 1460<|bX 1474<|bX 1462<|bX 1461<|bX 1475<|bX 1463<|bX 1487<|uQ
def hB3:Tr B:=bC 1544 [aI 1,aN,aI 1,aN,aO 399 0 3 1,aI 1,aN,aI 1,aN,aO 369 0 3 1] 186 true 4<|hA3
def mm3:Mm:=⟨135,4,[.m (Q 1506)],hA3,Q 1534,⟨.nm,aO 1544 0 2 5,.lf,hB3,Q 1548⟩⟩
end
theorem QLy:fnN Proofs.Tryz.prog (go Proofs.Tryz.prog imp Proofs.YtogkbhegfnklhaaGreatDoor.Ew met 300) mm3.f mm3.lv mm3.args mm3.h mm3.n mm3.r=true:=by kernel_rfl
theorem QKM:Mg Proofs.Tryz.prog mm3.lv mm3.f mm3.args mm3.h mm3.n mm3.r:=Fc jH Proofs.YtogkbhegfnklhaaGreatDoor.Yc Kz QLy
noncomputable section
def hA4:Tr B:=bC 1568 [aI 1,aN,aI 1,aN] 87 false 4<|bM 1552 [(.s [48,32,50,32,48,32],.g [aI 1,aN,aI 1,aN,aO 399 0 3 1],0),(.s [48,32,48,32,50,32],.g [aI 1,aN,aI 1,aN,aO 369 0 3 1],1)] 2 4<|bC 1544 [aI 1,aN,aI 1,aN,aO 399 0 3 1,aI 1,aN,aI 1,aN,aO 369 0 3 1] 186 true 3<|bC 1548 [aI 0,aN,aI 1,aN] 87 false 3<|bC 1554 [aI 1,aN,aI 1,aN,aO 399 0 3 1] 186 false 4<|bC 1566 [aI 0,aN,aI 0,aN,aN] 186 false 4<|bC 1553 [aO 1544 0 2 5,aN] 120 false 4<|bC 1555 [aI 1,aN,aI 1,aN] 87 false 4<|bC 1579 [aI 0,aN,aI 0,aN,aN] 186 false 4<|bC 1567 [aI 1,aN,aI 1,aN,aO 369 0 3 1] 186 false 4<|bX 1520<|bX 1508<|bX 1506<|bX 1522<|bX 1521<|bX 1509<|bX 1533<|bX 1507<|hB3
def hB4:Tr B:=bC 1590 [aI 1,aN,aI 1,aN,aO 399 0 3 1,aI 1,aN,aI 1,aN,aO 369 0 3 1] 186 true 4<|hA4
def mm4:Mm:=⟨135,4,[.m (Q 1552)],hA4,Q 1580,⟨.nm,aO 1590 0 2 5,.lf,hB4,Q 1594⟩⟩
end
theorem QLx:fnN Proofs.Tryz.prog (go Proofs.Tryz.prog imp Proofs.YtogkbhegfnklhaaGreatDoor.Ew met 300) mm4.f mm4.lv mm4.args mm4.h mm4.n mm4.r=true:=by kernel_rfl
theorem QKL:Mg Proofs.Tryz.prog mm4.lv mm4.f mm4.args mm4.h mm4.n mm4.r:=Fc jH Proofs.YtogkbhegfnklhaaGreatDoor.Yc Kz QLx
noncomputable section
def hA5:Tr B:=bX 512<|bX 1568<|bX 1552<|bX 400<|bX 136<|bX 1544<|bX 360<|bX 344<|bX 952<|bX 1400<|bX 1428<|bX 1548<|bX 1452<|bX 620<|bX 380<|bX 764<|bX 866<|bX 1554<|bX 402<|bX 370<|bX 1498<|bX 390<|bX 1590<|bX 950<|bX 1566<|bX 1502<|bX 1406<|bX 513<|bX 801<|bX 1553<|bX 369<|bX 681<|bX 1385<|bX 1337<|bX 389<|bX 293<|bX 549<|bX 677<|bX 341<|bX 725<|bX 1453<|bX 765<|bX 323<|bX 867<|bX 275<|bX 1555<|bX 1427<|bX 1459<|bX 1579<|bX 379<|bX 359<|bX 343<|bX 951<|bX 399<|bX 911<|bX 1567<|bX 447<|hB4
def hB5:Tr B:=bC 1632 [.s [49],aO 1622 0 3 1,.s [49],aO 1630 0 3 1] 110 true 2<|bC 1634 [aO 1632 0 2 2] 54 true 2<|bC 1622 [aI 0,aI 2,aI 0] 3 true 2<|bC 1630 [aI 0,aI 0,aI 2] 3 true 2<|hA5
def mm5:Mm:=⟨26,2,[.g [aL 129 0 2 2,aL 134 0 2 2,aL 135 0 2 2],aI 2],hA5,Q 136,⟨.nm,.t [aO 1634 0 1 1,aI 0],.lf,hB5,Q 1635⟩⟩
end
noncomputable section
def QJJ:kg:=GM mm1 (GM mm2 (GM mm3 (GM mm4 (Proofs.YtogkbhegfnklhaaGreatDoor.Ew))))
end
theorem QFa:UK Proofs.Tryz.prog QJJ:=Ym (Ym (Ym (Ym (Proofs.YtogkbhegfnklhaaGreatDoor.Yc) QKL) QKM) QKN) QKS
theorem QLw:dj (go Proofs.Tryz.prog imp QJJ met 300 (.ca mm5.lv mm5.f mm5.args mm5.h mm5.n)) mm5.r=true:=by kernel_rfl
theorem QKK:Mg Proofs.Tryz.prog mm5.lv mm5.f mm5.args mm5.h mm5.n mm5.r:=V8 jH QFa Kz QLw
end Go.Ev
