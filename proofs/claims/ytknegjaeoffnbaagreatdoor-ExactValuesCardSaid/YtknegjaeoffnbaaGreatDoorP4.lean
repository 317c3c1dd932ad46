/- Steps of the proof of the theorem in the last file. -/
import Derived.Test.YtknegjaeoffnbaaGreatDoorP3
set_option linter.all false
set_option maxHeartbeats 4000000
namespace Go.Proofs.YtknegjaeoffnbaaGreatDoor
section
open Go.RowKit Ig
theorem OE {p:Pt} {u:Int} {z:Nat} (h:Yh p u) (hu:0≤u) (hl:p.length≤3) (hd:∀ e∈p,e.2.sum≤2) (hz:∀ t∈JA p,JO t.1≤z):Bd (JA p) (u+1).toNat 3 z 2 where
 can:=h.can
 wd:=fun t ht=>by have:=h.wide t ht;omega
 nn:=fun t ht=>by
  refine⟨fun x hx=>(h.small t ht x hx).1,?_⟩
  unfold JA at ht
  obtain ⟨e,he,rfl⟩:=List.mem_map.1 ht
  exact hd e he
 ln:=by unfold JA;rw [List.length_map];exact hl
 sz:=hz
theorem KB {F:Gs} {b:Nat} {ts:List Vr} {T:TypeId} (h:F b=some ((ts.flatMap KU).toArray,T)):Q4 F (MY b ts).1.q (MY b ts).1.n 2 ((MY b ts).2.flatMap KU) :=
 Q4.of h (IS (f:=KU) YP ts)
theorem Ml {b:Nat} {ts:List Vr} (P:Pt) (hP:Jp ts=P) (hp:∀ e∈P,e.1.length≤1000000∧e.2.length≤1000000) (hl:P.length≤1000000):VB (MY b ts):=by
 refine Ob (fun t ht=>?_) ?_
 ·have:(t.f,t.k)∈Jp ts:=List.mem_map.2 ⟨t,ht,rfl⟩
  rw [hP] at this;exact hp _ this
 ·have:=congrArg List.length hP
  simp only [Jp,List.length_map] at this;omega
theorem cN {a:Yw} (h:VB a):∀ e∈[a],VB e:=fun e he=>by rw [List.mem_singleton.1 he];exact h
theorem cM {a b:Yw} (h:VB a) (k:VB b):∀ e∈[a,b],VB e:=fun e he=>by
 rcases List.mem_cons.1 he with rfl | he
 ·exact h
 ·exact cN k e he
theorem vj (a:List UInt8):O8 .neq (tx a) (tx a)=some (.bool false):=by simp [O8,tx]
theorem PF {F:Gs} {t:Vr} (h:JL F t.r t.k):Zl F [t]:=fun x hx=>by rw [List.mem_singleton.1 hx];exact h
theorem Ng {F:Gs} {t:Vr} {ts:List Vr} (h:JL F t.r t.k) (hs:Zl F ts):Zl F (t::ts):=fun x hx=>by
 rcases List.mem_cons.1 hx with rfl | hx
 ·exact h
 ·exact hs x hx
theorem jT {F:Gs} {a:Yw} (h1:Q4 F a.1.q a.1.n 2 (a.2.flatMap KU)) (h2:Zl F a.2):Z9 F [a]:=fun x hx=>by rw [List.mem_singleton.1 hx];exact⟨h1,h2⟩
theorem ga {F:Gs} {a:Yw} {l:List Yw} (h1:Q4 F a.1.q a.1.n 2 (a.2.flatMap KU)) (h2:Zl F a.2) (hs:Z9 F l):Z9 F (a::l):=fun x hx=>by
 rcases List.mem_cons.1 hx with rfl | hx
 ·exact⟨h1,h2⟩
 ·exact hs x hx
section
variable [Dr] [df:Df] {N:Nat} {m:Sl} {S:World→Prop} {ty:TypeId}
theorem GZ {yT:TypeId} {x y:Operand} {a b c d:List UInt8} (hx:ev m x=some (.agg #[tx a,tx b])) (hy:ev m y=some (.agg #[tx c,tx d])) (h1:a=c) (h2:b=d):Qt Tryz.prog N m S (.binOp .neq 24 x y yT) ty (.bool false):=by
 have h:=L5 (N:=N) (m:=m) (S:=S) (ty:=ty) (yT:=yT) hx hy
 rw [h1,h2] at h
 simpa using h
end
theorem Ms {w:World} {F:Gs} {a b:Yw} {P:Pt} (hF:Fits F w) (hA:ZR F a.1 a.2 P) (hB:Q4 F b.1.q b.1.n 2 (b.2.flatMap KU)) (hB2:Zl F b.2) (hl:b.2.length=b.1.n) (hP:Jp b.2=P) (hp:∀ e∈P,e.1.length≤1000000∧e.2.length≤1000000) (hpl:P.length≤1000000) :
  Qc Tryz.prog 43 [a.1.v,b.1.v] w F (.bool true):=by
 have ht:=hA.I8 hp hpl
 have h:=H4 (q:=a.1.q) (n:=a.1.n) (cap:=a.1.cap) (q2:=b.1.q) (n2:=b.1.n) (cap2:=b.1.cap) (a:=a.2) (b:=b.2) hF hA.1 hA.2.1 hB hB2 hA.2.2.2.2 hl (fun t h=>(ht.2.1 t h).2) ht.2.2
 rw [decide_eq_true (hA.2.2.1.trans hP.symm)] at h
 exact h
variable {w:World} {F:Gs}
theorem aw1 (hF:Fits F w) (hGl:JC F):Qc Tryz.prog 71 [tx [49,50,46,53,48]] w F (.tuple #[tx [50,53,47,50],.int .i64 0]):=by
 have h:=OM (s:=[49,50,46,53,48]) hF hGl (by decide)
 rw [show Rk [49,50,46,53,48]=([50,53,47,50],0) from by decide +kernel] at h
 exact h
theorem aw2 (hF:Fits F w) (hGl:JC F):Qc Tryz.prog 17 [tx [45,51,47,56],.int .i64 2] w F (.tuple #[tx [45,49,47,52],.int .i64 0]):=by
 have h:=IA (s:=[45,51,47,56]) (b:=2) hF hGl (by decide)
 rw [show TQ [45,51,47,56] 2=([45,49,47,52],0) from by decide +kernel] at h
 exact h
theorem aw3 (hF:Fits F w) (hGl:JC F):Qc Tryz.prog 18 [.agg #[tx [49,47,51],tx [50,47,51]],.int .i64 2] w F (.tuple #[.agg #[tx [49,47,52],tx [51,47,52]],.int .i64 0]):=by
 have h:=F5 (lo:=[49,47,51]) (hi:=[50,47,51]) (b:=2) hF hGl (by decide)
 rw [show F6 [49,47,51] [50,47,51] 2=(([49,47,52],[51,47,52]),0) from by decide +kernel] at h
 exact h
theorem aw4 (hF:Fits F w) (hGl:JC F):Qc Tryz.prog 47 [.agg #[tx [45,49],tx [50]],.agg #[tx [45,51],tx [49]]] w F (.tuple #[.agg #[tx [45,54],tx [51]],.int .i64 0]):=by
 have h:=AB (a:=([45,49],[50])) (b:=([45,51],[49])) hF hGl (by unfold short;decide) (by unfold short;decide)
 rw [show BS Vn ([45,49],[50]) ([45,51],[49])=(([45,54],[51]),0) from by decide +kernel] at h
 exact h
theorem c9 (hF:Fits F w) (hGl:JC F):Qc Tryz.prog 48 [.agg #[tx [45,49],tx [50]],.int .i64 2] w F (.tuple #[.agg #[tx [48],tx [52]],.int .i64 0]):=by
 have h:=TC (lo:=[45,49]) (hi:=[50]) (n:=2) hF hGl (by decide)
 rw [show Fx [45,49] [50] 2=(([48],[52]),0) from by decide +kernel] at h
 exact h
theorem PB {a:Yw} {q:Option Addr} {n cap:Nat} {ss:List (List UInt8×List UInt8)} {P:Pt} {lo hi:List UInt8} (hF:Fits F w) (hGl:JC F) (hR:Q4 F a.1.q a.1.n 2 (a.2.flatMap KU)) (hA:Zl F a.2) (ht:VB a) (hS:Q4 F q n 2 (ss.flatMap Ss)) (hn:ss.length=n) (hl:∀ s∈ss,s.1.length≤1000000∧s.2.length≤1000000) (hnb:n≤1000000) (hP:Jp a.2=P) (h:yA P ss=((lo,hi),0)) :
  Qc Tryz.prog 81 [a.1.v,.slice q n cap] w F (.tuple #[.agg #[tx lo,tx hi],.int .i64 0]):=by
 have h1:=Ty (cap:=cap) hF hGl hR hA ht hS hn hl hnb
 rw [hP,h] at h1
 exact h1
theorem ui (hF:Fits F w):Qc Tryz.prog 66 [tx [120,95,49]] w F (.bool true):=by
 have h:=Tl (s:=[120,95,49]) hF (by decide)
 rw [show Po [120,95,49]=true from by decide +kernel] at h
 exact h
theorem uh (hF:Fits F w):Qc Tryz.prog 66 [tx [49,120]] w F (.bool false):=by
 have h:=Tl (s:=[49,120]) hF (by decide)
 rw [show Po [49,120]=false from by decide +kernel] at h
 exact h
theorem yM:Fa ([[([49],[0])],[([49],[1]),([45,49],[0])]].map JA) ((0:Int)+1).toNat (JA [([49],[0,2]),([49],[1,0])]):=by
 refine yG (z:=2400) ⟨by decide +kernel,by decide +kernel,by decide +kernel,by decide +kernel,fun w hw=>?_⟩ (by decide) (by decide) (by decide)
 simp only [List.map_cons,List.map_nil,List.mem_cons,List.not_mem_nil,or_false] at hw
 rcases hw with rfl | rfl
 ·exact OE (KE (v:=0) (by decide +kernel)) (by decide) (by decide) (by decide) (by decide +kernel)
 ·exact OE (KE (v:=0) (by decide +kernel)) (by decide) (by decide) (by decide) (by decide +kernel)
theorem jR (hF:Fits F w) (hGl:JC F):Qc Tryz.prog 16 [] w F (.bool true):=by
 refine QT.intro (G:=fun F=>JC F) Tryz.func16 rfl (by rfl) rfl rfl hF (fun F' hF'=>hGl.le hF')<|J_sr<|JS_as rfl<|JS_nt<|J_sr<|QH rfl (fun w F hF hGl=>aw1 hF hGl) (fun _=>JS_mv rfl<|QA (QK rfl rfl)<|QA (QK rfl rfl)<|JS_as rfl<|JS_as rfl<|JS_nt<|J_sr<|QH rfl (fun w F hF h9=>aw2 hF h9.1) (fun _=>JS_mv rfl<|QA (QK rfl rfl)<|QA (QK rfl rfl)<|JS_as rfl<|JS_as rfl<|QE ?_))
 refine QC<|J_sr<|QA (Q6 rfl KI Yk (.cons (vs:=[_]) rfl rfl rfl (.here .nil) (.cons (vs:=[_]) rfl rfl rfl (.skip (.here .nil)) .nil)))<|QH rfl (fun w F hF h9=>aw3 hF h9.1.1) (fun _=>JS_mv rfl<|QA (QK rfl rfl)<|QA (QK rfl rfl)<|Qf Yk (fun b5=>QQ (vs:=[_,_]) rfl rfl rfl Js rfl .here (.here (.here .nil)) ⟨rfl,rfl,trivial⟩<|JS_as rfl<|JS_nt<|J_sr<|QA (Q6 rfl KI Yk (.cons (vs:=[_]) rfl rfl rfl (.here .nil) (.cons (vs:=[_]) rfl rfl rfl (.skip (.here .nil)) .nil)))<|QA (Q6 rfl KI Yk (.cons (vs:=[_]) rfl rfl rfl (.here .nil) (.cons (vs:=[_]) rfl rfl rfl (.skip (.here .nil)) .nil)))<|QH rfl (fun w F hF h9=>aw4 hF h9.1.1.1) (fun _=>JS_mv rfl<|QA (QK rfl rfl)<|QA (QK rfl rfl)<|Qf Yk (fun b7=>QQ (vs:=[_,_]) rfl rfl rfl Js rfl .here (.here (.here .nil)) ⟨rfl,rfl,trivial⟩<|JS_as rfl<|QE ?_))))
 refine QC<|J_sr<|QA (Q6 rfl KI Yk (.cons (vs:=[_]) rfl rfl rfl (.here .nil) (.cons (vs:=[_]) rfl rfl rfl (.skip (.here .nil)) .nil)))<|QH rfl (fun w F hF h9=>c9 hF h9.1.1.1.1) (fun _=>JS_mv rfl<|QA (QK rfl rfl)<|QA (QK rfl rfl)<|Qf Yk (fun b9=>QQ (vs:=[_,_]) rfl rfl rfl Js rfl .here (.here (.here .nil)) ⟨rfl,rfl,trivial⟩<|JS_as rfl<|JS_nt<|J_sr<|QW rfl (Q7 Qd) Qs Vj rfl rfl (fun b44=>QA (Q6 rfl ZH Xf (.cons (vs:=[_]) rfl rfl rfl (.here .nil) (.cons (vs:=[_]) rfl rfl rfl (.skip (.here .nil)) .nil)))<|QW rfl (Q7 Qd) Qs Vj rfl rfl (fun b46=>QA (Q6 rfl ZH Xf (.cons (vs:=[_]) rfl rfl rfl (.here .nil) (.cons (vs:=[_]) rfl rfl rfl (.skip (.here .nil)) .nil)))<|QW rfl (Q7 Xk) XO Xf rfl rfl (fun b48=>JS_as rfl<|JS_nt<|QG<|QB ?_)))))
 refine JS_mv rfl<|JS_mv rfl<|QH rfl (fun w F hF h9=>Ny (a:=(MY b48 [Yu [49] b44 [1,0],Yu [49] b46 [0,1]])) (b:=(MY b48 [Yu [49] b44 [1,0],Yu [49] b46 [0,1]])) (P:=[([49],[1,0]),([49],[0,1])]) (Q:=[([49],[1,0]),([49],[0,1])]) (R:=[([49],[2,0]),([50],[1,1]),([49],[0,2])]) hF h9.1.1.1.1.1.1.1.1 (ga (a:=(MY b48 [Yu [49] b44 [1,0],Yu [49] b46 [0,1]])) (KB (ts:=[Yu [49] b44 [1,0],Yu [49] b46 [0,1]]) h9.2) (Ng (J5 (k:=[1,0]) h9.1.1.2) (PF (J5 (k:=[0,1]) h9.1.2))) (jT (a:=(MY b48 [Yu [49] b44 [1,0],Yu [49] b46 [0,1]])) (KB (ts:=[Yu [49] b44 [1,0],Yu [49] b46 [0,1]]) h9.2) (Ng (J5 (k:=[1,0]) h9.1.1.2) (PF (J5 (k:=[0,1]) h9.1.2))))) (cM (Ml [([49],[1,0]),([49],[0,1])] rfl (by decide) (by decide)) (Ml [([49],[1,0]),([49],[0,1])] rfl (by decide) (by decide))) rfl rfl (by decide +kernel) (by decide +kernel) (by decide +kernel) (by decide +kernel) (by decide +kernel)) (fun c52=>JS_mv rfl<|QA (QK rfl rfl)<|QA (QK rfl rfl)<|JS_as rfl<|JS_as rfl<|JS_nt<|J_sr<|QW rfl (Q7 Qd) Qs Vj rfl rfl (fun b56=>QA (Q6 rfl ZH Xf (.cons (vs:=[_]) rfl rfl rfl (.here .nil) (.cons (vs:=[_]) rfl rfl rfl (.skip (.here .nil)) .nil)))<|QW rfl (Q7 Qd) Qs Vj rfl rfl (fun b58=>QA (Q6 rfl ZH Xf (.cons (vs:=[_]) rfl rfl rfl (.here .nil) (.cons (vs:=[_]) rfl rfl rfl (.skip (.here .nil)) .nil)))<|QW rfl (Q7 Qd) Qs Vj rfl rfl (fun b60=>QA (Q6 rfl ZH Xf (.cons (vs:=[_]) rfl rfl rfl (.here .nil) (.cons (vs:=[_]) rfl rfl rfl (.skip (.here .nil)) .nil)))<|QW rfl (Q7 Xk) XO Xf rfl rfl (fun b62=>QH rfl (fun w F hF h9=>Nb (a:=(MY b62 [Yu [50] b56 [0,2],Yu [45,51] b58 [1,0],Yu [49] b60 [0,0]])) (P:=[([50],[0,2]),([45,51],[1,0]),([49],[0,0])]) (R:=[([52],[0,1])]) hF h9.1.1.1.1.1.1.1.1.1.1.1.1.1 (jT (a:=(MY b62 [Yu [50] b56 [0,2],Yu [45,51] b58 [1,0],Yu [49] b60 [0,0]])) (KB (ts:=[Yu [50] b56 [0,2],Yu [45,51] b58 [1,0],Yu [49] b60 [0,0]]) h9.2) (Ng (J5 (k:=[0,2]) h9.1.1.1.2) (Ng (J5 (k:=[1,0]) h9.1.1.2) (PF (J5 (k:=[0,0]) h9.1.2))))) (cN (Ml [([50],[0,2]),([45,51],[1,0]),([49],[0,0])] rfl (by decide) (by decide))) rfl (by decide +kernel) (by decide +kernel) (by decide +kernel) (by decide +kernel) (by decide +kernel)) (fun c63=>JS_mv rfl<|QA (QK rfl rfl)<|QA (QK rfl rfl)<|JS_as rfl<|JS_as rfl ?_))))))
 refine JS_nt<|J_sr<|QW rfl (Q7 Qd) Qs Vj rfl rfl (fun b67=>QA (Q6 rfl ZH Xf (.cons (vs:=[_]) rfl rfl rfl (.here .nil) (.cons (vs:=[_]) rfl rfl rfl (.skip (.here .nil)) .nil)))<|QW rfl (Q7 Qd) Qs Vj rfl rfl (fun b69=>QA (Q6 rfl ZH Xf (.cons (vs:=[_]) rfl rfl rfl (.here .nil) (.cons (vs:=[_]) rfl rfl rfl (.skip (.here .nil)) .nil)))<|QW rfl (Q7 Xk) XO Xf rfl rfl (fun b71=>QA (Q6 rfl KI Yk (.cons (vs:=[_]) rfl rfl rfl (.here .nil) (.cons (vs:=[_]) rfl rfl rfl (.skip (.here .nil)) .nil)))<|QA (Q6 rfl KI Yk (.cons (vs:=[_]) rfl rfl rfl (.here .nil) (.cons (vs:=[_]) rfl rfl rfl (.skip (.here .nil)) .nil)))<|QW rfl (Q7 Sv) Js Yk rfl rfl (fun b74=>QH rfl (fun w F hF h9=>PB (a:=(MY b71 [Yu [49] b67 [0,2],Yu [45,49] b69 [0,1]])) (ss:=[([48],[57]),([48],[49])]) (P:=[([49],[0,2]),([45,49],[0,1])]) (lo:=[45,49]) (hi:=[49]) hF h9.1.1.1.1.1.1.1.1.1.1.1.1.1.1.1.1.1.1 (KB (ts:=[Yu [49] b67 [0,2],Yu [45,49] b69 [0,1]]) h9.1.2) (Ng (J5 (k:=[0,2]) h9.1.1.1.2) (PF (J5 (k:=[0,1]) h9.1.1.2))) (Ml [([49],[0,2]),([45,49],[0,1])] rfl (by decide) (by decide)) (Q4.of (n:=2) (sz:=2) (cs:=[([48],[57]),([48],[49])].flatMap Ss) h9.2 rfl) rfl (by decide) (by decide) rfl (by decide +kernel)) (fun _=>JS_mv rfl<|QA (QK rfl rfl)<|QA (QK rfl rfl)<|Qf Yk (fun b16=>QQ (vs:=[_,_]) rfl rfl rfl Js rfl .here (.here (.here .nil)) ⟨rfl,rfl,trivial⟩<|JS_as rfl<|JS_nt<|J_sr<|QW rfl (Q7 Qd) Qs Vj rfl rfl (fun b79=>QA (Q6 rfl ZH Xf (.cons (vs:=[_]) rfl rfl rfl (.here .nil) (.cons (vs:=[_]) rfl rfl rfl (.skip (.here .nil)) .nil))) ?_)))))))
 refine QW rfl (Q7 Qd) Qs Vj rfl rfl (fun b81=>QA (Q6 rfl ZH Xf (.cons (vs:=[_]) rfl rfl rfl (.here .nil) (.cons (vs:=[_]) rfl rfl rfl (.skip (.here .nil)) .nil)))<|QW rfl (Q7 Xk) XO Xf rfl rfl (fun b83=>QW rfl (Q7 Qd) Qs Vj rfl rfl (fun b84=>QA (Q6 rfl ZH Xf (.cons (vs:=[_]) rfl rfl rfl (.here .nil) (.cons (vs:=[_]) rfl rfl rfl (.skip (.here .nil)) .nil)))<|QW rfl (Q7 Xk) XO Xf rfl rfl (fun b86=>QW rfl (Q7 Qd) Qs Vj rfl rfl (fun b87=>QA (Q6 rfl ZH Xf (.cons (vs:=[_]) rfl rfl rfl (.here .nil) (.cons (vs:=[_]) rfl rfl rfl (.skip (.here .nil)) .nil)))<|QW rfl (Q7 Qd) Qs Vj rfl rfl (fun b89=>QA (Q6 rfl ZH Xf (.cons (vs:=[_]) rfl rfl rfl (.here .nil) (.cons (vs:=[_]) rfl rfl rfl (.skip (.here .nil)) .nil)))<|QW rfl (Q7 Xk) XO Xf rfl rfl (fun b91=>QW rfl (Q7 DA) Gn jh rfl rfl (fun b92=>QH rfl (fun w F hF h9=>T7 (a:=(MY b83 [Yu [49] b79 [0,2],Yu [49] b81 [1,0]])) (ls:=[(MY b86 [Yu [49] b84 [0]]),(MY b91 [Yu [49] b87 [1],Yu [45,49] b89 [0]])]) (P:=[([49],[0,2]),([49],[1,0])]) (Ws:=[[([49],[0])],[([49],[1]),([45,49],[0])]]) (R:=[([49],[2]),([45,50],[1]),([50],[0])]) hF h9.1.1.1.1.1.1.1.1.1.1.1.1.1.1.1.1.1.1.1.1.1.1.1.1.1.1.1.1 (jT (a:=(MY b83 [Yu [49] b79 [0,2],Yu [49] b81 [1,0]])) (KB (ts:=[Yu [49] b79 [0,2],Yu [49] b81 [1,0]]) h9.1.1.1.1.1.1.2) (Ng (J5 (k:=[0,2]) h9.1.1.1.1.1.1.1.1.2) (PF (J5 (k:=[1,0]) h9.1.1.1.1.1.1.1.2)))) (Ml [([49],[0,2]),([49],[1,0])] rfl (by decide) (by decide)) (Q4.of (n:=2) (sz:=1) (cs:=[(MY b86 [Yu [49] b84 [0]]),(MY b91 [Yu [49] b87 [1],Yu [45,49] b89 [0]])].map fun e=>e.1.v) h9.2 rfl) (ga (a:=(MY b86 [Yu [49] b84 [0]])) (KB (ts:=[Yu [49] b84 [0]]) h9.1.1.1.1.2) (PF (J5 (k:=[0]) h9.1.1.1.1.1.2)) (jT (a:=(MY b91 [Yu [49] b87 [1],Yu [45,49] b89 [0]])) (KB (ts:=[Yu [49] b87 [1],Yu [45,49] b89 [0]]) h9.1.2) (Ng (J5 (k:=[1]) h9.1.1.1.2) (PF (J5 (k:=[0]) h9.1.1.2))))) rfl (cM (Ml [([49],[0])] rfl (by decide) (by decide)) (Ml [([49],[1]),([45,49],[0])] rfl (by decide) (by decide))) rfl rfl (by decide) (by decide) (by decide +kernel) (by decide) (by decide +kernel) yM (by decide +kernel) (by decide +kernel)) (fun c93=>JS_mv rfl<|QA (QK rfl rfl)<|QA (QK rfl rfl)<|JS_as rfl<|JS_as rfl<|JS_nt<|QG<|J_sr<|JS_mv rfl<|JS_mv rfl ?_)))))))))
 refine QA (Qp rfl rfl (by omega))<|JS_mv rfl<|QA (Qp rfl rfl (by omega))<|JS_mv rfl<|QA (Qp rfl rfl (by omega))<|JS_mv rfl<|QA (Qp rfl rfl (by omega))<|JS_mv rfl<|QA (Qp rfl rfl (by omega))<|JS_mv rfl<|QA (Qp rfl rfl (by omega))<|JS_mv rfl<|QA (Qp rfl rfl (by omega))<|JS_mv rfl<|QA (Qp rfl rfl (by omega))<|QA (QU (v:=.bool false) rfl rfl rfl)<|JS_mv rfl<|QJ rfl rfl<|JS_mv rfl<|QJ rfl rfl<|QA (QU (v:=.bool false) rfl rfl (vj _))<|QA (Qh rfl rfl rfl)<|JS_mv rfl<|QJ rfl rfl<|JS_mv rfl ?_
 refine QJ rfl rfl<|QA (QU (v:=.bool false) rfl rfl (vj _))<|QA (Qh rfl rfl rfl)<|JS_mv rfl<|QJ rfl rfl<|QA (QL (vs:=[_,_]) rfl Js (.there (.there (.there .here))) (.here (.here .nil)) rfl)<|QJ rfl rfl<|QA (Q6 rfl KI Yk (.cons (vs:=[_]) rfl rfl rfl (.here .nil) (.cons (vs:=[_]) rfl rfl rfl (.skip (.here .nil)) .nil)))<|QJ rfl rfl<|QA (GZ rfl rfl rfl rfl)<|QA (Qh rfl rfl rfl)<|JS_mv rfl<|QJ rfl rfl<|QA (QL (vs:=[_,_]) rfl Js (.there (.there .here)) (.here (.here .nil)) rfl)<|QJ rfl rfl<|QA (Q6 rfl KI Yk (.cons (vs:=[_]) rfl rfl rfl (.here .nil) (.cons (vs:=[_]) rfl rfl rfl (.skip (.here .nil)) .nil)))<|QJ rfl rfl<|QA (GZ rfl rfl rfl rfl)<|QA (Qh rfl rfl rfl)<|JS_mv rfl<|QJ rfl rfl<|QA (QL (vs:=[_,_]) rfl Js (.there .here) (.here (.here .nil)) rfl)<|QJ rfl rfl<|QA (Q6 rfl KI Yk (.cons (vs:=[_]) rfl rfl rfl (.here .nil) (.cons (vs:=[_]) rfl rfl rfl (.skip (.here .nil)) .nil)))<|QJ rfl rfl ?_
 refine QA (GZ rfl rfl rfl rfl)<|QA (Qh rfl rfl rfl)<|JS_mv rfl<|QJ rfl rfl<|QA (QL (vs:=[_,_]) rfl Js .here (.here (.here .nil)) rfl)<|QJ rfl rfl<|QA (Q6 rfl KI Yk (.cons (vs:=[_]) rfl rfl rfl (.here .nil) (.cons (vs:=[_]) rfl rfl rfl (.skip (.here .nil)) .nil)))<|QJ rfl rfl<|QA (GZ rfl rfl rfl rfl)<|QA (Qh rfl rfl rfl)<|JS_nt<|YF rfl<|QO<|QC<|QG<|J_sr<|JS_mv rfl<|QW rfl (Q7 Qd) Qs Vj rfl rfl (fun b143=>QA (Q6 rfl ZH Xf (.cons (vs:=[_]) rfl rfl rfl (.here .nil) (.cons (vs:=[_]) rfl rfl rfl (.skip (.here .nil)) .nil)))<|QW rfl (Q7 Qd) Qs Vj rfl rfl (fun b145=>QA (Q6 rfl ZH Xf (.cons (vs:=[_]) rfl rfl rfl (.here .nil) (.cons (vs:=[_]) rfl rfl rfl (.skip (.here .nil)) .nil)))<|QW rfl (Q7 Qd) Qs Vj rfl rfl (fun b147=>QA (Q6 rfl ZH Xf (.cons (vs:=[_]) rfl rfl rfl (.here .nil) (.cons (vs:=[_]) rfl rfl rfl (.skip (.here .nil)) .nil))) ?_)))
 refine QW rfl (Q7 Xk) XO Xf rfl rfl (fun b149=>QH rfl (fun w F hF h9=>Ms (a:=c52) (b:=(MY b149 [Yu [49] b143 [2,0],Yu [50] b145 [1,1],Yu [49] b147 [0,2]])) (P:=[([49],[2,0]),([50],[1,1]),([49],[0,2])]) hF h9.1.1.1.1.1.1.1.1.1.1.1.1.1.1.1.1.1.1.1.1.1.1.1.1.2 (KB (ts:=[Yu [49] b143 [2,0],Yu [50] b145 [1,1],Yu [49] b147 [0,2]]) h9.2) (Ng (J5 (k:=[2,0]) h9.1.1.1.2) (Ng (J5 (k:=[1,1]) h9.1.1.2) (PF (J5 (k:=[0,2]) h9.1.2)))) rfl rfl (by decide) (by decide)) (fun _=>QA (Z0 rfl)<|JS_mv rfl<|QJ rfl rfl<|JS_mv rfl<|QJ rfl rfl<|QW rfl (Q7 Qd) Qs Vj rfl rfl (fun b154=>QJ rfl rfl<|QA (Q6 rfl ZH Xf (.cons (vs:=[_]) rfl rfl rfl (.here .nil) (.cons (vs:=[_]) rfl rfl rfl (.skip (.here .nil)) .nil)))<|QJ rfl rfl<|QW rfl (Q7 Xk) XO Xf rfl rfl (fun b156=>QJ rfl rfl<|QH rfl (fun w F hF h9=>Ms (a:=c63) (b:=(MY b156 [Yu [52] b154 [0,1]])) (P:=[([52],[0,1])]) hF h9.1.1.1.1.1.1.1.1.1.1.1.1.1.1.1.1.1.1.1.1.1.1.2 (KB (ts:=[Yu [52] b154 [0,1]]) h9.2) (PF (J5 (k:=[0,1]) h9.1.2)) rfl rfl (by decide) (by decide)) (fun _=>QJ rfl rfl<|QA (Z0 rfl)<|QA (Qh rfl rfl rfl)<|JS_nt<|YF rfl<|QO<|QC<|J_sr<|JS_mv rfl ?_)))))
 refine QW rfl (Q7 Qd) Qs Vj rfl rfl (fun b161=>QA (Q6 rfl ZH Xf (.cons (vs:=[_]) rfl rfl rfl (.here .nil) (.cons (vs:=[_]) rfl rfl rfl (.skip (.here .nil)) .nil)))<|QW rfl (Q7 Qd) Qs Vj rfl rfl (fun b163=>QA (Q6 rfl ZH Xf (.cons (vs:=[_]) rfl rfl rfl (.here .nil) (.cons (vs:=[_]) rfl rfl rfl (.skip (.here .nil)) .nil)))<|QW rfl (Q7 Qd) Qs Vj rfl rfl (fun b165=>QA (Q6 rfl ZH Xf (.cons (vs:=[_]) rfl rfl rfl (.here .nil) (.cons (vs:=[_]) rfl rfl rfl (.skip (.here .nil)) .nil)))<|QW rfl (Q7 Xk) XO Xf rfl rfl (fun b167=>QH rfl (fun w F hF h9=>Ms (a:=c93) (b:=(MY b167 [Yu [49] b161 [2],Yu [45,50] b163 [1],Yu [50] b165 [0]])) (P:=[([49],[2]),([45,50],[1]),([50],[0])]) hF h9.1.1.1.1.1.1.1.1.1.1.1.1.2 (KB (ts:=[Yu [49] b161 [2],Yu [45,50] b163 [1],Yu [50] b165 [0]]) h9.2) (Ng (J5 (k:=[2]) h9.1.1.1.2) (Ng (J5 (k:=[1]) h9.1.1.2) (PF (J5 (k:=[0]) h9.1.2)))) rfl rfl (by decide) (by decide)) (fun _=>JS_mv rfl<|QJ rfl rfl<|QH rfl (fun w F hF h9=>ui hF) (fun _=>QA (Qj rfl rfl rfl)<|JS_mv rfl<|QJ rfl rfl<|QH rfl (fun w F hF h9=>uh hF) (fun _=>QJ rfl rfl<|QA (Z0 rfl)<|QA (Qj rfl rfl rfl)<|JS_as rfl<|JS_nt<|QS ?_)))))))
 exact F_r1 rfl rfl (rfl) (fun F h9=>trivial)
end
end Go.Proofs.YtknegjaeoffnbaaGreatDoor
