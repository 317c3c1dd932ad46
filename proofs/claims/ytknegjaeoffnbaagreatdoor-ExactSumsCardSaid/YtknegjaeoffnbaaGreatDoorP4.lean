/- Steps of the proof of the theorem in the last file. -/
import Derived.Test.YtknegjaeoffnbaaGreatDoorP3
set_option linter.all false
set_option maxHeartbeats 4000000
namespace Go.Proofs.YtknegjaeoffnbaaGreatDoor
section
open Go.RowKit Ig
def Rv:Nat→Nat
 |0=>1
 |1=>3
 |_=>9
def FT (z:Nat):Nat→Nat
 |0=>z
 |1=>2*z+6
 |_=>9*z+34
theorem Wk {l:List Int} (h:∀ x∈l,0≤x) (j:Nat):0≤(l.take j).sum∧(l.take j).sum≤l.sum:=by
 have h1:(l.take j).sum+(l.drop j).sum=l.sum:=by rw [← List.sum_append,List.take_append_drop]
 have h2:=P8 (l:=l.take j) fun x hx=>h x (List.mem_of_mem_take hx)
 have h3:=P8 (l:=l.drop j) fun x hx=>h x (List.mem_of_mem_drop hx)
 omega
section
variable {c:Rat} {ws:List (List Tm)} {ks:List Int} {k z:Nat}
theorem A7 (hn:∀ x∈ks,0≤x) (h2:ks.sum≤2) (hw:∀ i,i<ks.length→Bd (el ws i) k 3 z 2) (hc:JL c≤z) (hz:1≤z):∀ j,j≤ks.length→Bd (DD c ws ks k j) k (Rv (ks.take j).sum.toNat) (FT z (ks.take j).sum.toNat) (2*(ks.take j).sum)
 |0,_=>(Bd.const c k).mono (Nat.le_refl _) hc (Int.le_refl _)
 |j+1,hj=>by
  have ih:=A7 hn h2 hw hc hz j (by omega)
  obtain ⟨p0,p1,p2⟩:=(hw j (by omega)).pow hz
  have hs:=Wk hn j
  have hs1:=Wk hn (j+1)
  have hst:=MO (l:=ks) (i:=j) (by omega)
  have hd:0≤Qg ks j:=by rw [Xp (by omega)];exact hn _ (Jc (by omega))
  obtain ⟨s,hse⟩:∃ s:Nat,(ks.take j).sum=(s:Int):=⟨_,(Int.toNat_of_nonneg hs.1).symm⟩
  obtain ⟨d,hde⟩:∃ d:Nat,Qg ks j=(d:Int):=⟨_,(Int.toNat_of_nonneg hd).symm⟩
  rw [hse] at ih hst
  rw [hst,hde]
  have hsd:s+d≤2:=by omega
  have e1:((s:Int)+(d:Int)).toNat=s+d:=by omega
  rw [e1]
  rw [show((s:Int)).toNat=s from rfl] at ih
  show Bd (XC (Jg (DD c ws ks k j) (WA (el ws j) k (Qg ks j).toNat))) k _ _ _
  rw [hde,show((d:Int)).toNat=d from rfl]
  match s,d,hsd with
  |s,0,_ =>
   rw [show WA (el ws j) k 0=VB 1 k from rfl,Li ih.wd,Wu ih.can]
   exact ih.mono (Nat.le_refl _) (Nat.le_refl _) (by omega)
  |0,1,_=>exact(ih.mul p1 (by omega)).mono (by simp [Rv]) (by simp [Rv,FT];omega) (by omega)
  |1,1,_=>exact(ih.mul p1 (by omega)).mono (by simp [Rv]) (by simp [Rv,FT];omega) (by omega)
  |0,2,_=>exact(ih.mul p2 (by omega)).mono (by simp [Rv]) (by simp [Rv,FT];omega) (by omega)
theorem xy (s:Nat):Rv s≤9:=by unfold Rv;split<;>omega
theorem xB {z:Nat} (s:Nat):FT z s≤9*z+34:=by unfold FT;split<;>omega
theorem NF (hn:∀ x∈ks,0≤x) (h2:ks.sum≤2) (hw:∀ i,i<ks.length→Bd (el ws i) k 3 z 2) (hc:JL c≤z) (hz:1≤z) {j:Nat} (hj:j≤ks.length):Bd (DD c ws ks k j) k 9 (9*z+34) 4 :=
 (A7 hn h2 hw hc hz j hj).mono (xy _) (xB _) (by have:=Wk hn j;omega)
theorem Al {w:List Tm} (h:Bd w k 3 z 2) (hz:1≤z) {d:Nat} (hd:d≤2):Bd (WA w k d) k 9 (6*z+20) 4:=by
 obtain ⟨p0,p1,p2⟩:=h.pow hz
 match d,hd with
 |0,_=>exact p0.mono (by omega) (by omega) (by omega)
 |1,_=>exact p1.mono (by omega) (by omega) (by omega)
 |2,_=>exact p2
end
theorem Bd.add {p q:List Tm} {k c1 z1 c2 z2:Nat} {d:Int} (hp:Bd p k c1 z1 d) (hq:Bd q k c2 z2 d) (h1:1≤z1) (h2:1≤z2):Bd (XC (p++q)) k (c1+c2) (z1+z2+1) d where
 can:=YY _
 wd:=(hp.wd.append hq.wd).XC
 nn:=fun t ht=>by
  obtain ⟨y,hy,e⟩:=B6 ht
  rw [← e]
  rcases List.mem_append.1 hy with hy | hy
  ·exact hp.nn y hy
  ·exact hq.nn y hy
 ln:=by
  have h3:=Vr (p++q)
  rw [List.length_append] at h3
  have:=hp.ln
  have:=hq.ln
  omega
 sz:=fun t ht=>by
  rw [← WO (YY _) ht,WK,KF]
  have h3:=KN (Jl p t.2) (Jl q t.2)
  have h4:=Wz hp.can hp.sz h1 t.2
  have h5:=Wz hq.can hq.sz h2 t.2
  omega
structure vM (ws:List (List Tm)) (k z:Nat) (l:List Tm):Prop where
 ln:l.length≤6
 nn:∀ t∈l,(∀ x∈t.2,0≤x)∧t.2.sum≤2
 wl:∀ t∈l,t.2.length≤ws.length
 sz:∀ t∈l,JL t.1≤z
 ws:∀ w∈ws,Bd w k 3 z 2
theorem A6 {ws:List (List Tm)} {k z:Nat} {l:List Tm} (h:vM ws k z l) (hz:1≤z):∀ i,i≤l.length→Bd (WM ws k (l.take i)) k (9*i) (1+i*(9*z+35)) 4
 |0,_=>⟨Canon.nil,fun _ h=>(by cases h),fun _ h=>(by cases h),Nat.zero_le _,fun _ h=>(by cases h)⟩
 |i+1,hi=>by
  have ih:=A6 h hz i (by omega)
  have hm:=Jc (show i<l.length by omega)
  have hn:=h.nn _ hm
  have e:WM ws k (l.take (i+1))=XC (WM ws k (l.take i)++DD (el l i).1 ws (el l i).2 k (el l i).2.length):=by
   unfold WM;rw [ZD (show i<l.length by omega),List.foldl_append];rfl
  rw [e]
  have hw:∀ j,j<(el l i).2.length→Bd (el ws j) k 3 z 2:=fun j hj=>h.ws _ (Jc (Nat.lt_of_lt_of_le hj (h.wl _ hm)))
  have ht:=NF (k:=k) hn.1 hn.2 hw (h.sz _ hm) hz (Nat.le_refl _)
  exact(ih.add ht (by omega) (by omega)).mono (by omega) (by rw [Nat.add_mul];omega) (by omega)
theorem xz {ws:List (List Tm)} {k z:Nat} {l:List Tm} (h:vM ws k z l) (hz:1≤z) (hz2:z≤2400) (hk:k≤1000):FH ws k l:=by
 have hp:∀ i,i≤l.length→Bd (WM ws k (l.take i)) k 54 130000 4:=fun i hi=>by
  have h1:=A6 h hz i hi
  have h2:=h.ln
  have h3:i*(9*z+35)≤6*21635:=Nat.mul_le_mul (by omega) (by omega)
  exact h1.mono (by omega) (by omega) (Int.le_refl _)
 have hw:∀ t∈l,∀ j,j<t.2.length→Bd (el ws j) k 3 z 2:=fun t ht j hj=>h.ws _ (Jc (Nat.lt_of_lt_of_le hj (h.wl _ ht)))
 have hfull:=hp l.length (Nat.le_refl _)
 rw [List.take_length] at hfull
 refine⟨fun t ht j hj=>?_,fun i hi=>?_,hfull.pw hk (by omega),fun t ht=>Nat.le_trans (hfull.sz t ht) (by omega),Nat.le_trans hfull.ln (by omega)⟩
 ·have hn:=h.nn t ht
  have hb:=hw t ht j hj
  have hd:0≤Qg t.2 j∧Qg t.2 j≤2:=by
   rw [Xp hj]
   have:=Ur hn.1 _ (Jc hj)
   exact⟨hn.1 _ (Jc hj),by omega⟩
  have hm:=NF (k:=k) hn.1 hn.2 (hw t ht) (h.sz t ht) hz (Nat.le_of_lt hj)
  have hpw:=Al hb hz (d:=(Qg t.2 j).toNat) (by omega)
  refine⟨hm.jb hpw hk (by omega) (by omega) (by omega) (by omega) (by omega) (by omega) (by omega) (by omega),fun i hi=>?_⟩
  have hpi:=Al hb hz (d:=i) (by omega)
  exact hpi.jb hb hk (by omega) (by omega) (by omega) (by omega) (by omega) (by omega) (by omega) (by omega)
 ·have hm:=Jc hi
  have hn:=h.nn _ hm
  have h1:=hp i (by omega)
  have h2:=NF (k:=k) hn.1 hn.2 (hw _ hm) (h.sz _ hm) hz (Nat.le_refl _)
  refine⟨h1.pw hk (by omega),h2.pw hk (by omega),Nat.le_trans h1.ln (by omega),Nat.le_trans h2.ln (by omega),?_⟩
  rw [Xb]
  have:=h1.Zb
  have:=h2.Zb
  omega
end
section
open Go.RowKit Ig
theorem Lm {p:Pt} {u:Int} {z:Nat} (h:Yk p u) (hu:0≤u) (hl:p.length≤3) (hd:∀ e∈p,e.2.sum≤2) (hz:∀ t∈JG p,JL t.1≤z):Bd (JG p) (u+1).toNat 3 z 2 where
 can:=h.can
 wd:=fun t ht=>by have:=h.wide t ht;omega
 nn:=fun t ht=>by
  refine⟨fun x hx=>(h.small t ht x hx).1,?_⟩
  unfold JG at ht
  obtain ⟨e,he,rfl⟩:=List.mem_map.1 ht
  exact hd e he
 ln:=by unfold JG;rw [List.length_map];exact hl
 sz:=hz
theorem Y5 {F:Gs} {b:Nat} {ts:List GA} {T:TypeId} (h:F b=some ((ts.flatMap WQ).toArray,T)):Q9 F (Mm b ts).1.q (Mm b ts).1.n 2 ((Mm b ts).2.flatMap WQ) :=
 Q9.of h (F4 (f:=WQ) VY ts)
theorem MK {b:Nat} {ts:List GA} (P:Pt) (hP:XB ts=P) (hp:∀ e∈P,e.1.length≤1000000∧e.2.length≤1000000) (hl:P.length≤1000000):VN (Mm b ts):=by
 refine OB (fun t ht=>?_) ?_
 ·have:(t.f,t.k)∈XB ts:=List.mem_map.2 ⟨t,ht,rfl⟩
  rw [hP] at this;exact hp _ this
 ·have:=congrArg List.length hP
  simp only [XB,List.length_map] at this;omega
theorem pC {a:Ku} (h:VN a):∀ e∈[a],VN e:=fun e he=>by rw [List.mem_singleton.1 he];exact h
theorem pB {a b:Ku} (h:VN a) (k:VN b):∀ e∈[a,b],VN e:=fun e he=>by
 rcases List.mem_cons.1 he with rfl | he
 ·exact h
 ·exact pC k e he
theorem kJ (a:List UInt8):Oh .neq (tx a) (tx a)=some (.bool false):=by simp [Oh,tx]
theorem Ny {F:Gs} {t:GA} (h:JP F t.r t.k):Yc F [t]:=fun x hx=>by rw [List.mem_singleton.1 hx];exact h
theorem NJ {F:Gs} {t:GA} {ts:List GA} (h:JP F t.r t.k) (hs:Yc F ts):Yc F (t::ts):=fun x hx=>by
 rcases List.mem_cons.1 hx with rfl | hx
 ·exact h
 ·exact hs x hx
theorem qZ {F:Gs} {a:Ku} (h1:Q9 F a.1.q a.1.n 2 (a.2.flatMap WQ)) (h2:Yc F a.2):YD F [a]:=fun x hx=>by rw [List.mem_singleton.1 hx];exact⟨h1,h2⟩
theorem ko {F:Gs} {a:Ku} {l:List Ku} (h1:Q9 F a.1.q a.1.n 2 (a.2.flatMap WQ)) (h2:Yc F a.2) (hs:YD F l):YD F (a::l):=fun x hx=>by
 rcases List.mem_cons.1 hx with rfl | hx
 ·exact⟨h1,h2⟩
 ·exact hs x hx
section
variable [Dr] [df:Df] {N:Nat} {m:Sl} {S:World→Prop} {ty:TypeId}
theorem GL {yT:TypeId} {x y:Operand} {a b c d:List UInt8} (hx:ev m x=some (.agg #[tx a,tx b])) (hy:ev m y=some (.agg #[tx c,tx d])) (h1:a=c) (h2:b=d):Qt Tryz.prog N m S (.binOp .neq 24 x y yT) ty (.bool false):=by
 have h:=Lb (N:=N) (m:=m) (S:=S) (ty:=ty) (yT:=yT) hx hy
 rw [h1,h2] at h
 simpa using h
end
theorem MT {w:World} {F:Gs} {a b:Ku} {P:Pt} (hF:Fits F w) (hA:VK F a.1 a.2 P) (hB:Q9 F b.1.q b.1.n 2 (b.2.flatMap WQ)) (hB2:Yc F b.2) (hl:b.2.length=b.1.n) (hP:XB b.2=P) (hp:∀ e∈P,e.1.length≤1000000∧e.2.length≤1000000) (hpl:P.length≤1000000) :
  QZ Tryz.prog 43 [a.1.v,b.1.v] w F (.bool true):=by
 have ht:=hA.gZ hp hpl
 have h:=Si (q:=a.1.q) (n:=a.1.n) (cap:=a.1.cap) (q2:=b.1.q) (n2:=b.1.n) (cap2:=b.1.cap) (a:=a.2) (b:=b.2) hF hA.1 hA.2.1 hB hB2 hA.2.2.2.2 hl (fun t h=>(ht.2.1 t h).2) ht.2.2
 rw [decide_eq_true (hA.2.2.1.trans hP.symm)] at h
 exact h
variable {w:World} {F:Gs}
theorem pW (hF:Fits F w) (hGl:JB F):QZ Tryz.prog 71 [tx [49,50,46,53,48]] w F (.tuple #[tx [50,53,47,50],.int .i64 0]):=by
 have h:=Lv (s:=[49,50,46,53,48]) hF hGl (by decide)
 rw [show RQ [49,50,46,53,48]=([50,53,47,50],0) from by decide +kernel] at h
 exact h
theorem pV (hF:Fits F w) (hGl:JB F):QZ Tryz.prog 17 [tx [45,51,47,56],.int .i64 2] w F (.tuple #[tx [45,49,47,52],.int .i64 0]):=by
 have h:=Fm (s:=[45,51,47,56]) (b:=2) hF hGl (by decide)
 rw [show S7 [45,51,47,56] 2=([45,49,47,52],0) from by decide +kernel] at h
 exact h
theorem pU (hF:Fits F w) (hGl:JB F):QZ Tryz.prog 18 [.agg #[tx [49,47,51],tx [50,47,51]],.int .i64 2] w F (.tuple #[.agg #[tx [49,47,52],tx [51,47,52]],.int .i64 0]):=by
 have h:=Fg (lo:=[49,47,51]) (hi:=[50,47,51]) (b:=2) hF hGl (by decide)
 rw [show Fh [49,47,51] [50,47,51] 2=(([49,47,52],[51,47,52]),0) from by decide +kernel] at h
 exact h
theorem pT (hF:Fits F w) (hGl:JB F):QZ Tryz.prog 47 [.agg #[tx [45,49],tx [50]],.agg #[tx [45,51],tx [49]]] w F (.tuple #[.agg #[tx [45,54],tx [51]],.int .i64 0]):=by
 have h:=Ra (a:=([45,49],[50])) (b:=([45,51],[49])) hF hGl (by unfold short;decide) (by unfold short;decide)
 rw [show Yf YJ ([45,49],[50]) ([45,51],[49])=(([45,54],[51]),0) from by decide +kernel] at h
 exact h
theorem pS (hF:Fits F w) (hGl:JB F):QZ Tryz.prog 48 [.agg #[tx [45,49],tx [50]],.int .i64 2] w F (.tuple #[.agg #[tx [48],tx [52]],.int .i64 0]):=by
 have h:=Na (lo:=[45,49]) (hi:=[50]) (n:=2) hF hGl (by decide)
 rw [show NT [45,49] [50] 2=(([48],[52]),0) from by decide +kernel] at h
 exact h
theorem Nt {a:Ku} {q:Option Addr} {n cap:Nat} {ss:List (List UInt8×List UInt8)} {P:Pt} {lo hi:List UInt8} (hF:Fits F w) (hGl:JB F) (hR:Q9 F a.1.q a.1.n 2 (a.2.flatMap WQ)) (hA:Yc F a.2) (ht:VN a) (hS:Q9 F q n 2 (ss.flatMap SX)) (hn:ss.length=n) (hl:∀ s∈ss,s.1.length≤1000000∧s.2.length≤1000000) (hnb:n≤1000000) (hP:XB a.2=P) (h:xw P ss=((lo,hi),0)) :
  QZ Tryz.prog 81 [a.1.v,.slice q n cap] w F (.tuple #[.agg #[tx lo,tx hi],.int .i64 0]):=by
 have h1:=Te (cap:=cap) hF hGl hR hA ht hS hn hl hnb
 rw [hP,h] at h1
 exact h1
theorem dO (hF:Fits F w):QZ Tryz.prog 66 [tx [120,95,49]] w F (.bool true):=by
 have h:=TS (s:=[120,95,49]) hF (by decide)
 rw [show PX [120,95,49]=true from by decide +kernel] at h
 exact h
theorem dN (hF:Fits F w):QZ Tryz.prog 66 [tx [49,120]] w F (.bool false):=by
 have h:=TS (s:=[49,120]) hF (by decide)
 rw [show PX [49,120]=false from by decide +kernel] at h
 exact h
theorem zA:FH ([[([49],[0])],[([49],[1]),([45,49],[0])]].map JG) ((0:Int)+1).toNat (JG [([49],[0,2]),([49],[1,0])]):=by
 refine xz (z:=2400) ⟨by decide +kernel,by decide +kernel,by decide +kernel,by decide +kernel,fun w hw=>?_⟩ (by decide) (by decide) (by decide)
 simp only [List.map_cons,List.map_nil,List.mem_cons,List.not_mem_nil,or_false] at hw
 rcases hw with rfl | rfl
 ·exact Lm (Vk (v:=0) (by decide +kernel)) (by decide) (by decide) (by decide) (by decide +kernel)
 ·exact Lm (Vk (v:=0) (by decide +kernel)) (by decide) (by decide) (by decide) (by decide +kernel)
theorem T2 (hF:Fits F w) (hGl:JB F):QZ Tryz.prog 16 [] w F (.bool true):=by
 refine QS.intro (G:=fun F=>JB F) Tryz.func16 rfl (by rfl) rfl rfl hF (fun F' hF'=>hGl.le hF')<|J_sr<|JS_as rfl<|JS_nt<|J_sr<|QI rfl (fun w F hF hGl=>pW hF hGl) (fun _=>JS_mv rfl<|QA (QM rfl rfl)<|QA (QM rfl rfl)<|JS_as rfl<|JS_as rfl<|JS_nt<|J_sr<|QI rfl (fun w F hF ⟨hGl,_⟩=>pV hF hGl) (fun _=>JS_mv rfl<|QA (QM rfl rfl)<|QA (QM rfl rfl)<|JS_as rfl<|JS_as rfl<|QE ?_))
 refine QC<|J_sr<|QA (Qy rfl Z7 ZN (.cons (vs:=[_]) rfl rfl rfl (.here .nil) (.cons (vs:=[_]) rfl rfl rfl (.skip (.here .nil)) .nil)))<|QI rfl (fun w F hF ⟨⟨hGl,_⟩,_⟩=>pU hF hGl) (fun _=>JS_mv rfl<|QA (QM rfl rfl)<|QA (QM rfl rfl)<|Qb ZN (fun b5=>QN (vs:=[_,_]) rfl rfl rfl JC rfl .here (.here (.here .nil)) ⟨rfl,rfl,trivial⟩<|JS_as rfl<|JS_nt<|J_sr<|QA (Qy rfl Z7 ZN (.cons (vs:=[_]) rfl rfl rfl (.here .nil) (.cons (vs:=[_]) rfl rfl rfl (.skip (.here .nil)) .nil)))<|QA (Qy rfl Z7 ZN (.cons (vs:=[_]) rfl rfl rfl (.here .nil) (.cons (vs:=[_]) rfl rfl rfl (.skip (.here .nil)) .nil)))<|QI rfl (fun w F hF ⟨⟨⟨hGl,_⟩,_⟩,_⟩=>pT hF hGl) (fun _=>JS_mv rfl<|QA (QM rfl rfl)<|QA (QM rfl rfl)<|Qb ZN (fun b7=>QN (vs:=[_,_]) rfl rfl rfl JC rfl .here (.here (.here .nil)) ⟨rfl,rfl,trivial⟩<|JS_as rfl<|QE ?_))))
 refine QC<|J_sr<|QA (Qy rfl Z7 ZN (.cons (vs:=[_]) rfl rfl rfl (.here .nil) (.cons (vs:=[_]) rfl rfl rfl (.skip (.here .nil)) .nil)))<|QI rfl (fun w F hF ⟨⟨⟨⟨hGl,_⟩,_⟩,_⟩,_⟩=>pS hF hGl) (fun _=>JS_mv rfl<|QA (QM rfl rfl)<|QA (QM rfl rfl)<|Qb ZN (fun b9=>QN (vs:=[_,_]) rfl rfl rfl JC rfl .here (.here (.here .nil)) ⟨rfl,rfl,trivial⟩<|JS_as rfl<|JS_nt<|J_sr<|QU rfl (Q6 Qf) Qp VQ rfl rfl (fun b44=>QA (Qy rfl ZH Xe (.cons (vs:=[_]) rfl rfl rfl (.here .nil) (.cons (vs:=[_]) rfl rfl rfl (.skip (.here .nil)) .nil)))<|QU rfl (Q6 Qf) Qp VQ rfl rfl (fun b46=>QA (Qy rfl ZH Xe (.cons (vs:=[_]) rfl rfl rfl (.here .nil) (.cons (vs:=[_]) rfl rfl rfl (.skip (.here .nil)) .nil)))<|QU rfl (Q6 Zh) Xr Xe rfl rfl (fun b48=>JS_as rfl<|JS_nt<|QG<|QB ?_)))))
 refine JS_mv rfl<|JS_mv rfl<|QI rfl (fun w F hF ⟨⟨⟨⟨⟨⟨⟨⟨hGl,_⟩,_⟩,_⟩,_⟩,_⟩,hs44⟩,hs46⟩,hs48⟩=>S8 (a:=(Mm b48 [Yq [49] b44 [1,0],Yq [49] b46 [0,1]])) (b:=(Mm b48 [Yq [49] b44 [1,0],Yq [49] b46 [0,1]])) (P:=[([49],[1,0]),([49],[0,1])]) (Q:=[([49],[1,0]),([49],[0,1])]) (R:=[([49],[2,0]),([50],[1,1]),([49],[0,2])]) hF hGl (ko (a:=(Mm b48 [Yq [49] b44 [1,0],Yq [49] b46 [0,1]])) (Y5 (ts:=[Yq [49] b44 [1,0],Yq [49] b46 [0,1]]) hs48) (NJ (J3 (k:=[1,0]) hs44) (Ny (J3 (k:=[0,1]) hs46))) (qZ (a:=(Mm b48 [Yq [49] b44 [1,0],Yq [49] b46 [0,1]])) (Y5 (ts:=[Yq [49] b44 [1,0],Yq [49] b46 [0,1]]) hs48) (NJ (J3 (k:=[1,0]) hs44) (Ny (J3 (k:=[0,1]) hs46))))) (pB (MK [([49],[1,0]),([49],[0,1])] rfl (by decide) (by decide)) (MK [([49],[1,0]),([49],[0,1])] rfl (by decide) (by decide))) rfl rfl (by decide +kernel) (by decide +kernel) (by decide +kernel) (by decide +kernel) (by decide +kernel)) (fun c52=>JS_mv rfl<|QA (QM rfl rfl)<|QA (QM rfl rfl)<|JS_as rfl<|JS_as rfl<|JS_nt<|J_sr<|QU rfl (Q6 Qf) Qp VQ rfl rfl (fun b56=>QA (Qy rfl ZH Xe (.cons (vs:=[_]) rfl rfl rfl (.here .nil) (.cons (vs:=[_]) rfl rfl rfl (.skip (.here .nil)) .nil)))<|QU rfl (Q6 Qf) Qp VQ rfl rfl (fun b58=>QA (Qy rfl ZH Xe (.cons (vs:=[_]) rfl rfl rfl (.here .nil) (.cons (vs:=[_]) rfl rfl rfl (.skip (.here .nil)) .nil)))<|QU rfl (Q6 Qf) Qp VQ rfl rfl (fun b60=>QA (Qy rfl ZH Xe (.cons (vs:=[_]) rfl rfl rfl (.here .nil) (.cons (vs:=[_]) rfl rfl rfl (.skip (.here .nil)) .nil)))<|QU rfl (Q6 Zh) Xr Xe rfl rfl (fun b62=>QI rfl (fun w F hF ⟨⟨⟨⟨⟨⟨⟨⟨⟨⟨⟨⟨⟨hGl,_⟩,_⟩,_⟩,_⟩,_⟩,hs44⟩,hs46⟩,hs48⟩,h52⟩,hs56⟩,hs58⟩,hs60⟩,hs62⟩=>NB (a:=(Mm b62 [Yq [50] b56 [0,2],Yq [45,51] b58 [1,0],Yq [49] b60 [0,0]])) (P:=[([50],[0,2]),([45,51],[1,0]),([49],[0,0])]) (R:=[([52],[0,1])]) hF hGl (qZ (a:=(Mm b62 [Yq [50] b56 [0,2],Yq [45,51] b58 [1,0],Yq [49] b60 [0,0]])) (Y5 (ts:=[Yq [50] b56 [0,2],Yq [45,51] b58 [1,0],Yq [49] b60 [0,0]]) hs62) (NJ (J3 (k:=[0,2]) hs56) (NJ (J3 (k:=[1,0]) hs58) (Ny (J3 (k:=[0,0]) hs60))))) (pC (MK [([50],[0,2]),([45,51],[1,0]),([49],[0,0])] rfl (by decide) (by decide))) rfl (by decide +kernel) (by decide +kernel) (by decide +kernel) (by decide +kernel) (by decide +kernel)) (fun c63=>JS_mv rfl<|QA (QM rfl rfl)<|QA (QM rfl rfl)<|JS_as rfl<|JS_as rfl ?_))))))
 refine JS_nt<|J_sr<|QU rfl (Q6 Qf) Qp VQ rfl rfl (fun b67=>QA (Qy rfl ZH Xe (.cons (vs:=[_]) rfl rfl rfl (.here .nil) (.cons (vs:=[_]) rfl rfl rfl (.skip (.here .nil)) .nil)))<|QU rfl (Q6 Qf) Qp VQ rfl rfl (fun b69=>QA (Qy rfl ZH Xe (.cons (vs:=[_]) rfl rfl rfl (.here .nil) (.cons (vs:=[_]) rfl rfl rfl (.skip (.here .nil)) .nil)))<|QU rfl (Q6 Zh) Xr Xe rfl rfl (fun b71=>QA (Qy rfl Z7 ZN (.cons (vs:=[_]) rfl rfl rfl (.here .nil) (.cons (vs:=[_]) rfl rfl rfl (.skip (.here .nil)) .nil)))<|QA (Qy rfl Z7 ZN (.cons (vs:=[_]) rfl rfl rfl (.here .nil) (.cons (vs:=[_]) rfl rfl rfl (.skip (.here .nil)) .nil)))<|QU rfl (Q6 SZ) JC ZN rfl rfl (fun b74=>QI rfl (fun w F hF ⟨⟨⟨⟨⟨⟨⟨⟨⟨⟨⟨⟨⟨⟨⟨⟨⟨⟨hGl,_⟩,_⟩,_⟩,_⟩,_⟩,hs44⟩,hs46⟩,hs48⟩,h52⟩,hs56⟩,hs58⟩,hs60⟩,hs62⟩,h63⟩,hs67⟩,hs69⟩,hs71⟩,hs74⟩=>Nt (a:=(Mm b71 [Yq [49] b67 [0,2],Yq [45,49] b69 [0,1]])) (ss:=[([48],[57]),([48],[49])]) (P:=[([49],[0,2]),([45,49],[0,1])]) (lo:=[45,49]) (hi:=[49]) hF hGl (Y5 (ts:=[Yq [49] b67 [0,2],Yq [45,49] b69 [0,1]]) hs71) (NJ (J3 (k:=[0,2]) hs67) (Ny (J3 (k:=[0,1]) hs69))) (MK [([49],[0,2]),([45,49],[0,1])] rfl (by decide) (by decide)) (Q9.of (n:=2) (sz:=2) (cs:=[([48],[57]),([48],[49])].flatMap SX) hs74 rfl) rfl (by decide) (by decide) rfl (by decide +kernel)) (fun _=>JS_mv rfl<|QA (QM rfl rfl)<|QA (QM rfl rfl)<|Qb ZN (fun b16=>QN (vs:=[_,_]) rfl rfl rfl JC rfl .here (.here (.here .nil)) ⟨rfl,rfl,trivial⟩<|JS_as rfl<|JS_nt<|J_sr<|QU rfl (Q6 Qf) Qp VQ rfl rfl (fun b79=>QA (Qy rfl ZH Xe (.cons (vs:=[_]) rfl rfl rfl (.here .nil) (.cons (vs:=[_]) rfl rfl rfl (.skip (.here .nil)) .nil))) ?_)))))))
 refine QU rfl (Q6 Qf) Qp VQ rfl rfl (fun b81=>QA (Qy rfl ZH Xe (.cons (vs:=[_]) rfl rfl rfl (.here .nil) (.cons (vs:=[_]) rfl rfl rfl (.skip (.here .nil)) .nil)))<|QU rfl (Q6 Zh) Xr Xe rfl rfl (fun b83=>QU rfl (Q6 Qf) Qp VQ rfl rfl (fun b84=>QA (Qy rfl ZH Xe (.cons (vs:=[_]) rfl rfl rfl (.here .nil) (.cons (vs:=[_]) rfl rfl rfl (.skip (.here .nil)) .nil)))<|QU rfl (Q6 Zh) Xr Xe rfl rfl (fun b86=>QU rfl (Q6 Qf) Qp VQ rfl rfl (fun b87=>QA (Qy rfl ZH Xe (.cons (vs:=[_]) rfl rfl rfl (.here .nil) (.cons (vs:=[_]) rfl rfl rfl (.skip (.here .nil)) .nil)))<|QU rfl (Q6 Qf) Qp VQ rfl rfl (fun b89=>QA (Qy rfl ZH Xe (.cons (vs:=[_]) rfl rfl rfl (.here .nil) (.cons (vs:=[_]) rfl rfl rfl (.skip (.here .nil)) .nil)))<|QU rfl (Q6 Zh) Xr Xe rfl rfl (fun b91=>QU rfl (Q6 Dc) ME j2 rfl rfl (fun b92=>QI rfl (fun w F hF ⟨⟨⟨⟨⟨⟨⟨⟨⟨⟨⟨⟨⟨⟨⟨⟨⟨⟨⟨⟨⟨⟨⟨⟨⟨⟨⟨⟨hGl,_⟩,_⟩,_⟩,_⟩,_⟩,hs44⟩,hs46⟩,hs48⟩,h52⟩,hs56⟩,hs58⟩,hs60⟩,hs62⟩,h63⟩,hs67⟩,hs69⟩,hs71⟩,hs74⟩,_⟩,hs79⟩,hs81⟩,hs83⟩,hs84⟩,hs86⟩,hs87⟩,hs89⟩,hs91⟩,hs92⟩=>Tn (a:=(Mm b83 [Yq [49] b79 [0,2],Yq [49] b81 [1,0]])) (ls:=[(Mm b86 [Yq [49] b84 [0]]),(Mm b91 [Yq [49] b87 [1],Yq [45,49] b89 [0]])]) (P:=[([49],[0,2]),([49],[1,0])]) (Ws:=[[([49],[0])],[([49],[1]),([45,49],[0])]]) (R:=[([49],[2]),([45,50],[1]),([50],[0])]) hF hGl (qZ (a:=(Mm b83 [Yq [49] b79 [0,2],Yq [49] b81 [1,0]])) (Y5 (ts:=[Yq [49] b79 [0,2],Yq [49] b81 [1,0]]) hs83) (NJ (J3 (k:=[0,2]) hs79) (Ny (J3 (k:=[1,0]) hs81)))) (MK [([49],[0,2]),([49],[1,0])] rfl (by decide) (by decide)) (Q9.of (n:=2) (sz:=1) (cs:=[(Mm b86 [Yq [49] b84 [0]]),(Mm b91 [Yq [49] b87 [1],Yq [45,49] b89 [0]])].map fun e=>e.1.v) hs92 rfl) (ko (a:=(Mm b86 [Yq [49] b84 [0]])) (Y5 (ts:=[Yq [49] b84 [0]]) hs86) (Ny (J3 (k:=[0]) hs84)) (qZ (a:=(Mm b91 [Yq [49] b87 [1],Yq [45,49] b89 [0]])) (Y5 (ts:=[Yq [49] b87 [1],Yq [45,49] b89 [0]]) hs91) (NJ (J3 (k:=[1]) hs87) (Ny (J3 (k:=[0]) hs89))))) rfl (pB (MK [([49],[0])] rfl (by decide) (by decide)) (MK [([49],[1]),([45,49],[0])] rfl (by decide) (by decide))) rfl rfl (by decide) (by decide) (by decide +kernel) (by decide) (by decide +kernel) zA (by decide +kernel) (by decide +kernel)) (fun c93=>JS_mv rfl<|QA (QM rfl rfl)<|QA (QM rfl rfl)<|JS_as rfl<|JS_as rfl<|JS_nt<|QG<|J_sr<|JS_mv rfl<|JS_mv rfl ?_)))))))))
 refine QA (Qu rfl rfl (by omega))<|JS_mv rfl<|QA (Qu rfl rfl (by omega))<|JS_mv rfl<|QA (Qu rfl rfl (by omega))<|JS_mv rfl<|QA (Qu rfl rfl (by omega))<|JS_mv rfl<|QA (Qu rfl rfl (by omega))<|JS_mv rfl<|QA (Qu rfl rfl (by omega))<|JS_mv rfl<|QA (Qu rfl rfl (by omega))<|JS_mv rfl<|QA (Qu rfl rfl (by omega))<|QA (QV (v:=.bool false) rfl rfl rfl)<|JS_mv rfl<|QL rfl rfl<|JS_mv rfl<|QL rfl rfl<|QA (QV (v:=.bool false) rfl rfl (kJ _))<|QA (Qh rfl rfl rfl)<|JS_mv rfl<|QL rfl rfl<|JS_mv rfl ?_
 refine QL rfl rfl<|QA (QV (v:=.bool false) rfl rfl (kJ _))<|QA (Qh rfl rfl rfl)<|JS_mv rfl<|QL rfl rfl<|QA (QJ (vs:=[_,_]) rfl JC (.there (.there (.there .here))) (.here (.here .nil)) rfl)<|QL rfl rfl<|QA (Qy rfl Z7 ZN (.cons (vs:=[_]) rfl rfl rfl (.here .nil) (.cons (vs:=[_]) rfl rfl rfl (.skip (.here .nil)) .nil)))<|QL rfl rfl<|QA (GL rfl rfl rfl rfl)<|QA (Qh rfl rfl rfl)<|JS_mv rfl<|QL rfl rfl<|QA (QJ (vs:=[_,_]) rfl JC (.there (.there .here)) (.here (.here .nil)) rfl)<|QL rfl rfl<|QA (Qy rfl Z7 ZN (.cons (vs:=[_]) rfl rfl rfl (.here .nil) (.cons (vs:=[_]) rfl rfl rfl (.skip (.here .nil)) .nil)))<|QL rfl rfl<|QA (GL rfl rfl rfl rfl)<|QA (Qh rfl rfl rfl)<|JS_mv rfl<|QL rfl rfl<|QA (QJ (vs:=[_,_]) rfl JC (.there .here) (.here (.here .nil)) rfl)<|QL rfl rfl<|QA (Qy rfl Z7 ZN (.cons (vs:=[_]) rfl rfl rfl (.here .nil) (.cons (vs:=[_]) rfl rfl rfl (.skip (.here .nil)) .nil)))<|QL rfl rfl ?_
 refine QA (GL rfl rfl rfl rfl)<|QA (Qh rfl rfl rfl)<|JS_mv rfl<|QL rfl rfl<|QA (QJ (vs:=[_,_]) rfl JC .here (.here (.here .nil)) rfl)<|QL rfl rfl<|QA (Qy rfl Z7 ZN (.cons (vs:=[_]) rfl rfl rfl (.here .nil) (.cons (vs:=[_]) rfl rfl rfl (.skip (.here .nil)) .nil)))<|QL rfl rfl<|QA (GL rfl rfl rfl rfl)<|QA (Qh rfl rfl rfl)<|JS_nt<|Z8 rfl<|QP<|QC<|QG<|J_sr<|JS_mv rfl<|QU rfl (Q6 Qf) Qp VQ rfl rfl (fun b143=>QA (Qy rfl ZH Xe (.cons (vs:=[_]) rfl rfl rfl (.here .nil) (.cons (vs:=[_]) rfl rfl rfl (.skip (.here .nil)) .nil)))<|QU rfl (Q6 Qf) Qp VQ rfl rfl (fun b145=>QA (Qy rfl ZH Xe (.cons (vs:=[_]) rfl rfl rfl (.here .nil) (.cons (vs:=[_]) rfl rfl rfl (.skip (.here .nil)) .nil)))<|QU rfl (Q6 Qf) Qp VQ rfl rfl (fun b147=>QA (Qy rfl ZH Xe (.cons (vs:=[_]) rfl rfl rfl (.here .nil) (.cons (vs:=[_]) rfl rfl rfl (.skip (.here .nil)) .nil))) ?_)))
 refine QU rfl (Q6 Zh) Xr Xe rfl rfl (fun b149=>QI rfl (fun w F hF ⟨⟨⟨⟨⟨⟨⟨⟨⟨⟨⟨⟨⟨⟨⟨⟨⟨⟨⟨⟨⟨⟨⟨⟨⟨⟨⟨⟨⟨⟨⟨⟨⟨hGl,_⟩,_⟩,_⟩,_⟩,_⟩,hs44⟩,hs46⟩,hs48⟩,h52⟩,hs56⟩,hs58⟩,hs60⟩,hs62⟩,h63⟩,hs67⟩,hs69⟩,hs71⟩,hs74⟩,_⟩,hs79⟩,hs81⟩,hs83⟩,hs84⟩,hs86⟩,hs87⟩,hs89⟩,hs91⟩,hs92⟩,h93⟩,hs143⟩,hs145⟩,hs147⟩,hs149⟩=>MT (a:=c52) (b:=(Mm b149 [Yq [49] b143 [2,0],Yq [50] b145 [1,1],Yq [49] b147 [0,2]])) (P:=[([49],[2,0]),([50],[1,1]),([49],[0,2])]) hF h52 (Y5 (ts:=[Yq [49] b143 [2,0],Yq [50] b145 [1,1],Yq [49] b147 [0,2]]) hs149) (NJ (J3 (k:=[2,0]) hs143) (NJ (J3 (k:=[1,1]) hs145) (Ny (J3 (k:=[0,2]) hs147)))) rfl rfl (by decide) (by decide)) (fun _=>QA (Yt rfl)<|JS_mv rfl<|QL rfl rfl<|JS_mv rfl<|QL rfl rfl<|QU rfl (Q6 Qf) Qp VQ rfl rfl (fun b154=>QL rfl rfl<|QA (Qy rfl ZH Xe (.cons (vs:=[_]) rfl rfl rfl (.here .nil) (.cons (vs:=[_]) rfl rfl rfl (.skip (.here .nil)) .nil)))<|QL rfl rfl<|QU rfl (Q6 Zh) Xr Xe rfl rfl (fun b156=>QL rfl rfl<|QI rfl (fun w F hF ⟨⟨⟨⟨⟨⟨⟨⟨⟨⟨⟨⟨⟨⟨⟨⟨⟨⟨⟨⟨⟨⟨⟨⟨⟨⟨⟨⟨⟨⟨⟨⟨⟨⟨⟨⟨hGl,_⟩,_⟩,_⟩,_⟩,_⟩,hs44⟩,hs46⟩,hs48⟩,h52⟩,hs56⟩,hs58⟩,hs60⟩,hs62⟩,h63⟩,hs67⟩,hs69⟩,hs71⟩,hs74⟩,_⟩,hs79⟩,hs81⟩,hs83⟩,hs84⟩,hs86⟩,hs87⟩,hs89⟩,hs91⟩,hs92⟩,h93⟩,hs143⟩,hs145⟩,hs147⟩,hs149⟩,_⟩,hs154⟩,hs156⟩=>MT (a:=c63) (b:=(Mm b156 [Yq [52] b154 [0,1]])) (P:=[([52],[0,1])]) hF h63 (Y5 (ts:=[Yq [52] b154 [0,1]]) hs156) (Ny (J3 (k:=[0,1]) hs154)) rfl rfl (by decide) (by decide)) (fun _=>QL rfl rfl<|QA (Yt rfl)<|QA (Qh rfl rfl rfl)<|JS_nt<|Z8 rfl<|QP<|QC<|J_sr<|JS_mv rfl ?_)))))
 refine QU rfl (Q6 Qf) Qp VQ rfl rfl (fun b161=>QA (Qy rfl ZH Xe (.cons (vs:=[_]) rfl rfl rfl (.here .nil) (.cons (vs:=[_]) rfl rfl rfl (.skip (.here .nil)) .nil)))<|QU rfl (Q6 Qf) Qp VQ rfl rfl (fun b163=>QA (Qy rfl ZH Xe (.cons (vs:=[_]) rfl rfl rfl (.here .nil) (.cons (vs:=[_]) rfl rfl rfl (.skip (.here .nil)) .nil)))<|QU rfl (Q6 Qf) Qp VQ rfl rfl (fun b165=>QA (Qy rfl ZH Xe (.cons (vs:=[_]) rfl rfl rfl (.here .nil) (.cons (vs:=[_]) rfl rfl rfl (.skip (.here .nil)) .nil)))<|QU rfl (Q6 Zh) Xr Xe rfl rfl (fun b167=>QI rfl (fun w F hF ⟨⟨⟨⟨⟨⟨⟨⟨⟨⟨⟨⟨⟨⟨⟨⟨⟨⟨⟨⟨⟨⟨⟨⟨⟨⟨⟨⟨⟨⟨⟨⟨⟨⟨⟨⟨⟨⟨⟨⟨⟨hGl,_⟩,_⟩,_⟩,_⟩,_⟩,hs44⟩,hs46⟩,hs48⟩,h52⟩,hs56⟩,hs58⟩,hs60⟩,hs62⟩,h63⟩,hs67⟩,hs69⟩,hs71⟩,hs74⟩,_⟩,hs79⟩,hs81⟩,hs83⟩,hs84⟩,hs86⟩,hs87⟩,hs89⟩,hs91⟩,hs92⟩,h93⟩,hs143⟩,hs145⟩,hs147⟩,hs149⟩,_⟩,hs154⟩,hs156⟩,_⟩,hs161⟩,hs163⟩,hs165⟩,hs167⟩=>MT (a:=c93) (b:=(Mm b167 [Yq [49] b161 [2],Yq [45,50] b163 [1],Yq [50] b165 [0]])) (P:=[([49],[2]),([45,50],[1]),([50],[0])]) hF h93 (Y5 (ts:=[Yq [49] b161 [2],Yq [45,50] b163 [1],Yq [50] b165 [0]]) hs167) (NJ (J3 (k:=[2]) hs161) (NJ (J3 (k:=[1]) hs163) (Ny (J3 (k:=[0]) hs165)))) rfl rfl (by decide) (by decide)) (fun _=>JS_mv rfl<|QL rfl rfl<|QI rfl (fun w F hF ⟨⟨⟨⟨⟨⟨⟨⟨⟨⟨⟨⟨⟨⟨⟨⟨⟨⟨⟨⟨⟨⟨⟨⟨⟨⟨⟨⟨⟨⟨⟨⟨⟨⟨⟨⟨⟨⟨⟨⟨⟨⟨hGl,_⟩,_⟩,_⟩,_⟩,_⟩,hs44⟩,hs46⟩,hs48⟩,h52⟩,hs56⟩,hs58⟩,hs60⟩,hs62⟩,h63⟩,hs67⟩,hs69⟩,hs71⟩,hs74⟩,_⟩,hs79⟩,hs81⟩,hs83⟩,hs84⟩,hs86⟩,hs87⟩,hs89⟩,hs91⟩,hs92⟩,h93⟩,hs143⟩,hs145⟩,hs147⟩,hs149⟩,_⟩,hs154⟩,hs156⟩,_⟩,hs161⟩,hs163⟩,hs165⟩,hs167⟩,_⟩=>dO hF) (fun _=>QA (Qi rfl rfl rfl)<|JS_mv rfl<|QL rfl rfl<|QI rfl (fun w F hF ⟨⟨⟨⟨⟨⟨⟨⟨⟨⟨⟨⟨⟨⟨⟨⟨⟨⟨⟨⟨⟨⟨⟨⟨⟨⟨⟨⟨⟨⟨⟨⟨⟨⟨⟨⟨⟨⟨⟨⟨⟨⟨⟨hGl,_⟩,_⟩,_⟩,_⟩,_⟩,hs44⟩,hs46⟩,hs48⟩,h52⟩,hs56⟩,hs58⟩,hs60⟩,hs62⟩,h63⟩,hs67⟩,hs69⟩,hs71⟩,hs74⟩,_⟩,hs79⟩,hs81⟩,hs83⟩,hs84⟩,hs86⟩,hs87⟩,hs89⟩,hs91⟩,hs92⟩,h93⟩,hs143⟩,hs145⟩,hs147⟩,hs149⟩,_⟩,hs154⟩,hs156⟩,_⟩,hs161⟩,hs163⟩,hs165⟩,hs167⟩,_⟩,_⟩=>dN hF) (fun _=>QL rfl rfl<|QA (Yt rfl)<|QA (Qi rfl rfl rfl)<|JS_as rfl<|JS_nt<|QT ?_)))))))
 exact QQ (()) rfl (.tmp rfl .nil) (rfl) (fun F ⟨⟨⟨⟨⟨⟨⟨⟨⟨⟨⟨⟨⟨⟨⟨⟨⟨⟨⟨⟨⟨⟨⟨⟨⟨⟨⟨⟨⟨⟨⟨⟨⟨⟨⟨⟨⟨⟨⟨⟨⟨⟨⟨⟨hGl,_⟩,_⟩,_⟩,_⟩,_⟩,hs44⟩,hs46⟩,hs48⟩,h52⟩,hs56⟩,hs58⟩,hs60⟩,hs62⟩,h63⟩,hs67⟩,hs69⟩,hs71⟩,hs74⟩,_⟩,hs79⟩,hs81⟩,hs83⟩,hs84⟩,hs86⟩,hs87⟩,hs89⟩,hs91⟩,hs92⟩,h93⟩,hs143⟩,hs145⟩,hs147⟩,hs149⟩,_⟩,hs154⟩,hs156⟩,_⟩,hs161⟩,hs163⟩,hs165⟩,hs167⟩,_⟩,_⟩,_⟩=>trivial)
end
end Go.Proofs.YtknegjaeoffnbaaGreatDoor
