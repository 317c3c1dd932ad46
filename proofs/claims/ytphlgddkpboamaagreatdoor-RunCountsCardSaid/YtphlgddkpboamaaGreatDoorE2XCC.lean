/- Steps of the proof of the theorem in the last file. -/
import Derived.Test.YtphlgddkpboamaaGreatDoorE1XCC
set_option linter.all false
set_option maxHeartbeats 4000000
open Go.Proofs.Tryz
open Go.Value renaming int -> aa,bool -> af
open List renaming range -> ae,range_succ -> aj
open Nat renaming zero_le -> ah,lt_or_ge -> ak
open Bool renaming and_eq_true -> ai
namespace Go.Proofs.YtphlgddkpboamaaGreatDoor
variable{m:Mt}{i:Nat}{s:FA}{w:World}{F:Gs}
open Go.RowKit Ig
def QBZ(x:Int):QHG x=!N4 x (-999999999) 999999999:=rfl
structure MnV(m:Mt):Prop where
 v:RE m.p
 sl:(m.sl.length:Int)=m.p.sh
 fl:(m.fl.length:Int)=m.p.sh
 ll:m.ll.length=m.p.ul.length
 sh:∀k:Nat,(k:Int)<m.p.sh->Dh m k=true
def MnV.of(h:WV m=0):MnV m:=by
 unfold WV at h;by_cases h0:Vo m.p=0
 ·rw[if_neg (by simpa using h0)]at h;split at h
  ·cases h
  rename_i hl;have hl2:(m.sl.length:Int)=m.p.sh/\(m.fl.length:Int)=m.p.sh/\m.ll.length=m.p.ul.length:=by simpa using hl
  split at h
  ·rename_i ho;unfold okM at ho;rw[ai,ai]at ho;exact⟨RE.of h0,hl2.1,hl2.2.1,hl2.2.2,λk hk=>List.all_eq_true.1 ho.1.2 k (List.mem_range.2 O)⟩
  cases h
 rw[if_pos h0]at h;exact absurd h h0
def MnV.lost(h:MnV m){k:Nat}(hk:(k:Int)<m.p.sh):0<=(el m.fl k).lost/\(el m.fl k).lost<=999999999:=by
 have:=h.sh k hk;unfold Dh ok4 N4 at this;simp at this;omega
def NA(s:FA)(i:Nat):Bool:=decide (MV (J4 (el s.rl i)).num<0)||decide (Dt (J4 (el s.rl i)) 1>=0)||!N4 (el s.lal i) (-999999999) 999999999
def DZ(m:Mt)(s:FA)(i:Nat):Bool:=H8 (el m.p.ul i)||(el s.rl i==[48]&&el s.lal i==0)
def Na(s:FA)(i:Nat):Bool:=(el s.hl i).2.any λx=>!N4 x (-999999999) 999999999
def My(m:Mt)(s:FA)(i:Nat):Int:=if JO (el s.rl i)≠0 then JO (el s.rl i)else if(NA s i||!DZ m s i)=true then 3 else if(((el s.hl i).1.n:Nat):Int)≠el m.ll i then 2 else if Na s i=true then 3 else 0
def Uz(m:Mt)(s:FA)(k:Nat):Bool:=!N4 (el s.shl k) (-999999999) 999999999||!N4 (el s.sel k) (el s.shl k-(el m.fl k).lost) (el s.shl k)
def VR(m:Mt)(s:FA):Bool:=(s.sh.n:Int) != m.p.sh||(s.se.n:Int) != m.p.sh||(s.rs.n:Int) != (m.p.un.n:Int)||(s.la.n:Int) != (m.p.un.n:Int)||(s.hd.n:Int) != (m.p.un.n:Int)
def Nl(m:Mt)(s:FA):Int:=if N4 s.steps 0 999999999=false then 3 else if VR m s=true then 2 else if(ae m.p.sh.toNat).any (Uz m s)=true then 3 else JB ((ae m.p.ul.length).map (My m s))
def Ai{n:Nat}{f:Nat->Bool}(h:i<n)(e:f i=true):(ae n).any f=true:=List.any_eq_true.2 ⟨i,List.mem_range.2 h,e⟩
structure QJr(n:Nat)(f:Nat->Bool) where
 i:Nat
 le:i<=n
 ok:(ae i).any f=false
def kJ{f:Nat->Bool}(h:(ae i).any f=false)(e:f i=false):(ae (i+1)).any f=false:=by rw[aj,List.any_append,h];simp[e]
structure QJp(n:Nat)(f:Nat->Int) where
 i:Nat
 le:i<=n
 ok:∀j,j<i->f j=0
def j5{n:Nat}{f:Nat->Int}(h:∀j,j<i->f j=0)(hi:i<n)(e:f i≠0):JB ((ae n).map f)=f i:=by
 induction n with
 |zero=>omega
 |succ n ih =>
  rw[aj,List.map_append,qd];by_cases hin:i<n
  ·rw[ih hin,VI e]
  have:i=n:=O;subst this;rw[MB (l:=(ae i).map f) (λx hx=>by obtain⟨j,hj,rfl⟩:=List.mem_map.1 hx;exact h j (List.mem_range.1 hj)),VJ];show JB [JB [f i]]=f i;rw[MA,MA]
def yv{n:Nat}{f:Nat->Int}(h:∀j,j<n->f j=0):JB ((ae n).map f)=0:=MB λx hx=>by obtain⟨j,hj,rfl⟩:=List.mem_map.1 hx;exact h j (List.mem_range.1 hj)
structure QLK{α:Type}(l:List α)(f:α->Bool) where
 i:Nat
 le:i<=l.length
 ok:∀x∈l.take i,f x=false
def QCd{α:Type}[Inhabited α]{l:List α}{f:α->Bool}{i:Nat}(h:i<l.length)(e:f (el l i)=true):l.any f=true:=List.any_eq_true.2 ⟨_,Q2 h,e⟩
def QAH{α:Type}{l:List α}{f:α->Bool}(h:∀x∈l,f x=false):l.any f=false:=List.any_eq_false.2 λx hx=>by rw[h x hx];decide
def qB(h:VR m s=false):(s.sh.n:Int)=m.p.sh/\(s.se.n:Int)=m.p.sh/\s.rs.n=m.p.un.n/\s.la.n=m.p.un.n/\s.hd.n=m.p.un.n:=by
 unfold VR at h;simp at h;omega
theorem cB{s:List UInt8}(hF:Fits F w)(h:JO s=0):Qi prog 156 [tx s,tx [49]] w F (.int .i64 (Dt (J4 s) 1)):=by
 have h1:=QDe (x:=J4 s) hF (wi<|YS h);rw[<-(ZR h).1]at h1;exact h1
theorem C0{i:Nat}(hF:Fits F w)(hM:BB F m)(hS:N3 F s)(hi:i<m.p.ul.length)(h1:m.ll.length=m.p.ul.length)(h2:s.rl.length=m.p.ul.length)(h3:s.lal.length=m.p.ul.length)(h4:s.hl.length=m.p.ul.length)(hL:ShM m)(hC:ShC s):Qi prog 82 [m.v,s.v,.int .i64 (i:Nat)] w F (.int .i64 (My m s i)):=by
 have Ax:=hM.p.Mf;have hll:=hM.QBj;have hrn:=hS.rsn;have hln:=hS.lan;have Ay:=hS.Ay;have hrc:=hC.rl (el s.rl i) (Q2 O);have hhm:(el s.hl i)∈s.hl:=Q2 O;have hhn:=(hS.hh _ hhm).2;have hhc:=hC.hh _ hhm;refine QS.go (G:=λF=>BB F m/\N3 F s) func82 hF ⟨hM,hS⟩ ?_;refine QLF<|Q9 I (vs:=[_,_,_,_,_,_,_,_]) I λb3=>Q9 I (vs:=[_,_,_,_,_,_]) I λb4=>wR I<|JN (b:=b3) .u1<|JN (b:=b4) .here ?_
 refine K4 (ι:=PLift (JO (el s.rl i)=0)) [(2,_),(3,_),(4,_)] (λk1=>[]) (λk1=>[]) (λk1 F=>True) (by exact wV) ?_ ?_
 ·refine QLF<|QA (QH I DN Xg)<|QA (QW 3 w9 rfl Xg I)<|QJm I<|QA (Qo (n:=s.rs.n) (i) (λF h9=>h9.1.1.2.rs) rfl rfl Z2 Ja O)<|QA (Ql (n:=s.rs.n) ((i)*1) (λF h9=>h9.1.1.2.rs) O rfl Ja (Jo (f:=tx) (l:=s.rl) O))<|QL I (λ_ _ f k=>NF f O) λ_=>QMW 9 I ?_
  refine QO I (λhc2=>?_) λhc2=>?_
  ·have hc1:JO (el s.rl i)≠0:=by simpa using hc2
   refine wA 7 I ?_;exact QMn I I (congrArg (aa .i64) (by unfold My;rw[if_pos hc1])) wz
  refine QN ?_;exact Kb (⟨by simpa using hc2⟩) wV QKK λF h9=>⟨⟨⟨⟨h9.1.1.1.1,h9.1.1.1.2⟩,h9.1.1.2⟩,h9.1.2⟩,trivial⟩
 intro k1;have hc0:=k1.down;refine K4 (ι:=PLift (NA s i=false)) [(2,_),(3,_),(4,_)] (λk4=>[]) (λk4=>[]) (λk4 F=>True) (by exact wV) ?_ ?_
 ·refine QLF<|QA (QH I DN Xg)<|QA (QW 3 (λF h9=>h9.1.2) rfl Xg I)<|QJm I<|QA (Qo (n:=s.rs.n) (i) (λF h9=>h9.1.1.1.2.rs) rfl rfl Z2 Ja O)<|QA (Ql (n:=s.rs.n) ((i)*1) (λF h9=>h9.1.1.1.2.rs) O rfl Ja (Jo (f:=tx) (l:=s.rl) O))<|QL I (λ_ _ f k=>QAu f hc0) λ_=>wB 2 I ?_
  refine Qa (t:=25) rfl (λhb25=>?_) λhb25=>?_
  ·refine QMW 19 I<|Jv I<|wA 6 I ?_
   exact QMn I I (congrArg (aa .i64) (by unfold My;rw[if_neg (by simpa using hc0),if_pos (by unfold NA;simp_all)])) wz
  refine QK I I<|QA (QH I DN Xg)<|QK I I<|QA (QW 3 (λF h9=>h9.1.1.2) rfl Xg I)<|wB 3 I<|QA (Qo (n:=s.rs.n) (i) (λF h9=>h9.1.1.1.1.2.rs) rfl rfl Z2 Ja O)<|QK I I<|QA (Ql (n:=s.rs.n) ((i)*1) (λF h9=>h9.1.1.1.1.2.rs) O rfl Ja (Jo (f:=tx) (l:=s.rl) O))<|QK I I<|QL I (λ_ _ f k=>cB f hc0) λ_=>wB 4 I ?_
  refine Qa (t:=34) rfl (λhb34=>?_) λhb34=>?_
  ·refine QMW 10 I<|Jv I<|wA 6 I ?_
   exact QMn I I (congrArg (aa .i64) (by unfold My;rw[if_neg (by simpa using hc0),if_pos (by unfold NA;simp_all)])) wz
  refine QK I I<|QA (QH I UP Qu)<|QK I I<|QA (QW 4 (λF h9=>h9.1.1.1.2) rfl Qu I)<|wB 3 I<|QA (Qo (n:=s.la.n) (i) (λF h9=>h9.1.1.1.1.1.2.la) rfl rfl Qd QY O)<|QK I I<|QA (Ql (n:=s.la.n) ((i)*1) (λF h9=>h9.1.1.1.1.1.2.la) O rfl QY (Jo (f:=Qs) (l:=s.lal) O))<|QK I I<|QL I (λ_ _ f k=>jQ f) λ_=>QK I I<|QA (Xv I)<|QMW 3 I ?_
  refine QO I (λhc2=>?_) λhc2=>?_
  ·refine wA 6 I ?_;exact QMn I I (congrArg (aa .i64) (by unfold My;rw[if_neg (by simpa using hc0),if_pos (by unfold NA;simp_all)])) wz
  refine QN ?_;exact Kb (⟨by unfold NA;simp_all⟩) wV QKK λF ⟨⟨⟨⟨⟨⟨⟨hM,hS⟩,hz3⟩,hz4⟩,_⟩,_⟩,_⟩,_⟩=>⟨⟨⟨⟨⟨hM,hS⟩,hz3⟩,hz4⟩,trivial⟩,trivial⟩
 intro k4;have hr0:=k4.down;refine K4 (ι:=PLift (DZ m s i=true)) [(2,_),(3,_),(4,_)] (λk6=>[]) (λk6=>[]) (λk6 F=>True) (by exact wV) ?_ ?_
 ·refine QLF<|QA (QH I Ks ZL)<|QA (QH I XP Jf)<|QA (QW 1 (λF h9=>h9.1.1.1.2) rfl Jf I)<|QJm I<|QA (Qo (n:=m.p.un.n) (i) (λF h9=>h9.1.1.1.1.1.p.un) rfl rfl Xk XJ O)<|QA (XE (n:=m.p.un.n) (vs:=[tx (el m.p.ul (i)).kd,.slice (el m.p.ul (i)).fd.q (el m.p.ul (i)).fd.n (el m.p.ul (i)).fd.cap,Qs ((el m.p.ul (i)).ou),tx (el m.p.ul (i)).st,.slice (el m.p.ul (i)).cv.q (el m.p.ul (i)).cv.n (el m.p.ul (i)).cv.cap]) ((i)*5) (λF h9=>h9.1.1.1.1.1.p.un) O rfl XJ I λj v hv=>JR (f:=MR) (l:=m.p.ul) ZI O hv)<|QL I (λ_ _ f k=>yF f) λ_=>QA (Xv I)<|QJm I ?_
  refine Qa (t:=51) rfl (λhb51=>?_) λhb51=>?_
  ·refine QK I I<|QA (QH I DN Xg)<|QK I I<|QA (QW 3 (λF h9=>h9.1.1.1.2) rfl Xg I)<|wB 3 I<|QA (Qo (n:=s.rs.n) (i) (λF h9=>h9.1.1.1.1.1.2.rs) rfl rfl Z2 Ja O)<|QK I I<|QA (Ql (n:=s.rs.n) ((i)*1) (λF h9=>h9.1.1.1.1.1.2.rs) O rfl Ja (Jo (f:=tx) (l:=s.rl) O))<|QK I I<|QA (Rv I I)<|wB 2 I ?_
   refine Qa (t:=58) rfl (λhb58=>?_) λhb58=>?_
   ·refine QMW 11 I<|Jv I<|wA 6 I ?_
    exact QMn I I (congrArg (aa .i64) (by unfold My;rw[if_neg (by simpa using hc0),if_pos (by unfold DZ;simp_all)])) wz
   refine QK I I<|QA (QH I UP Qu)<|QK I I<|QA (QW 4 (λF h9=>h9.1.1.1.2) rfl Qu I)<|wB 3 I<|QA (Qo (n:=s.la.n) (i) (λF h9=>h9.1.1.1.1.1.2.la) rfl rfl Qd QY O)<|QK I I<|QA (Ql (n:=s.la.n) ((i)*1) (λF h9=>h9.1.1.1.1.1.2.la) O rfl QY (Jo (f:=Qs) (l:=s.lal) O))<|QMW 7 I ?_
   refine QO I (λhc2=>?_) λhc2=>?_
   ·refine wA 6 I ?_;exact QMn I I (congrArg (aa .i64) (by unfold My;rw[if_neg (by simpa using hc0),if_pos (by unfold DZ;simp_all)])) wz
   refine QN ?_;exact Kb (⟨by unfold DZ;simp_all⟩) wV QKK λF ⟨⟨⟨⟨⟨⟨hM,hS⟩,hz3⟩,hz4⟩,_⟩,_⟩,_⟩=>⟨⟨⟨⟨⟨⟨hM,hS⟩,hz3⟩,hz4⟩,trivial⟩,trivial⟩,trivial⟩
  refine wB 7 I<|Qz I I<|Qz I I<|Qz I I<|Qz I I<|Qz I I<|Qz I I<|QMW 4 I<|Zg I<|QN ?_
  exact Kb (⟨by unfold DZ;simp_all⟩) wV QKK λF ⟨⟨⟨⟨⟨⟨hM,hS⟩,hz3⟩,hz4⟩,_⟩,_⟩,_⟩=>⟨⟨⟨⟨⟨⟨hM,hS⟩,hz3⟩,hz4⟩,trivial⟩,trivial⟩,trivial⟩
 intro k6;have hn0:=k6.down;refine QG<|QG<|JE QKK mixed wj<|QJ (QH I BO Vn)<|QJ (QW 5 (λF h9=>h9.1.1.1.2) rfl Vn I)<|QJ (QC I)<|QJ (Qo (n:=s.hd.n) (i) (λF h9=>h9.1.1.1.1.1.2.hd) rfl rfl M7 Qu O)<|QJ (Ql (n:=s.hd.n) ((i)*1) (λF h9=>h9.1.1.1.1.1.2.hd) O rfl Qu (Jo (f:=λe:Sr×List Int=>e.1.v) (l:=s.hl) O))<|QJ (Qc I Qd)<|QJ (QH I DO Qu)<|QJ (QW 7 (λF h9=>h9.1.1.1.1.2) rfl Qu I)<|QJ (QC I)<|QJ (Qo (n:=m.lg.n) (i) (λF h9=>h9.1.1.1.1.1.1.lg) rfl rfl Qd QY O)<|QJ (Ql (n:=m.lg.n) ((i)*1) (λF h9=>h9.1.1.1.1.1.1.lg) O rfl QY (Jo (f:=Qs) (l:=m.ll) O))<|QJ (QP I I I)<|Qy<|QD ?_
 refine QO I (λhc2=>?_) λhc2=>?_
 ·have hl2:((((el s.hl i).1.n:Nat)):Int)≠el m.ll i:=by simpa using hc2
  refine wA 6 I ?_;exact QMn I I (congrArg (aa .i64) (by unfold My;rw[if_neg (by simpa using hc0),if_neg (by rw[hr0,hn0];decide),if_pos hl2])) wz
 have hl2:((((el s.hl i).1.n:Nat)):Int)=el m.ll i:=by simpa using hc2
 refine QMX 5 I<|wR rfl<|QQ<|Jt (ι:=QLK (el s.hl i).2 λx=>!N4 x (-999999999) 999999999) [(2,_),(4,_)] (λi1=>[(8,.int .i64 ((i1.i:Nat):Int))]) (λi1=>(el s.hl i).2.length-i1.i) (⟨0,ah _,λx h=>by cases h⟩) wU wT λi1=>?_
 have hi1:=i1.le;refine wA 4 I<|QA (QH I BO Vn)<|QA (QW 5 (λF h9=>h9.1.1.1.2) rfl Vn I)<|QJm I<|QA (Qo (n:=s.hd.n) (i) (λF h9=>h9.1.1.1.1.1.2.hd) rfl rfl M7 Qu O)<|QA (Ql (n:=s.hd.n) ((i)*1) (λF h9=>h9.1.1.1.1.1.2.hd) O rfl Qu (Jo (f:=λe:Sr×List Int=>e.1.v) (l:=s.hl) O))<|QA (Qc I Qd)<|QMW 3 I ?_
 refine QO I (λhc2=>?_) λhc2=>?_
 ·have hlt:i1.i<(el s.hl i).2.length:=wi<|QLr hc2
  refine QMX 6 I<|QA (QH I BO Vn)<|QA (QW 5 (λF h9=>h9.1.1.1.2) rfl Vn I)<|QJm I<|QA (Qo (n:=s.hd.n) (i) (λF h9=>h9.1.1.1.1.1.2.hd) rfl rfl M7 Qu O)<|QA (Ql (n:=s.hd.n) ((i)*1) (λF h9=>h9.1.1.1.1.1.2.hd) O rfl Qu (Jo (f:=λe:Sr×List Int=>e.1.v) (l:=s.hl) O))<|QJm I<|QA (Qo (n:=(el s.hl (i)).1.n) (i1.i) (λF h9=>(h9.1.1.1.1.1.2.hh _ (Q2 (show i<s.hl.length by omega))).1) rfl rfl Qd QY O)<|QA (Ql (n:=(el s.hl (i)).1.n) ((i1.i)*1) (λF h9=>(h9.1.1.1.1.1.2.hh _ (Q2 (show i<s.hl.length by omega))).1) O rfl QY (Jo (f:=Qs) (l:=(el s.hl (i)).2) O))<|QL I (λ_ _ f k=>jQ f) λ_=>QA (Xv I)<|QF<|QD ?_
  refine QO I (λhc2=>?_) λhc2=>?_
  ·refine wA 5 I<|ZS ?_
   exact QMn I I (congrArg (aa .i64) (by unfold My;rw[if_neg (by simpa using hc0),if_neg (by rw[hr0,hn0];decide),if_neg (by simpa using hl2),if_pos (show Na s i=true from QCd (f:=λx=>!N4 x (-999999999) 999999999) hlt hc2)])) wz
  refine QN<|Qg<|QMY 3 I<|QA (Qn I I O)<|wB 2 I ?_
  exact Qj (⟨i1.i+1,hlt,B4 hlt i1.ok hc2⟩) (by show(el s.hl i).2.length-(i1.i+1)<(el s.hl i).2.length-i1.i;omega) wV QKK w8
 have hge:(el s.hl i).2.length<=i1.i:=wi<|QLs hc2
 refine JK ?_;refine wA 6 I ?_;exact QMn I I (congrArg (aa .i64) (by unfold My;rw[if_neg (by simpa using hc0),if_neg (by rw[hr0,hn0];decide),if_neg (by simpa using hl2),if_neg (by unfold Na;rw[QAH (λx hx=>i1.ok x (by rw[List.take_of_length_le hge];exact hx))];decide)])) wz
theorem OG(hF:Fits F w)(hM:BB F m)(hS:N3 F s)(hE:WV m=0)(hL:ShM m)(hC:ShC s):Qi prog 32 [m.v,s.v] w F (.int .i64 (Nl m s)):=by
 have hV:=MnV.of hE;have Ax:=hM.p.Mf;have hsh1:=hV.v.sh;have hll:=hV.ll;have hfl:=hV.fl;have hfn:=hM.E9;have hun:=hL.un;have hsn:=hS.shn;have hen:=hS.sen;have hrn:=hS.rsn;have hln:=hS.lan;have Ay:=hS.Ay;refine QS.go (G:=λF=>BB F m/\N3 F s) func32 hF ⟨hM,hS⟩ ?_;refine QLF<|Q9 I (vs:=[_,_,_,_,_,_,_,_]) I λb2=>Q9 I (vs:=[_,_,_,_,_,_]) I λb3=>wR I<|JN (b:=b2) .u1<|JN (b:=b3) .here ?_
 refine K4 (ι:=PLift (N4 s.steps 0 999999999=true)) [(2,_),(3,_)] (λk1=>[]) (λk1=>[]) (λk1 F=>True) (by exact wU) ?_ ?_
 ·refine QLF<|QA (QH I QB6 QY)<|QA (QW 0 w9 rfl QY I)<|QL I (λ_ _ f k=>Bb f) λ_=>QA (Xv I)<|QF<|QD ?_
  refine QO I (λhc2=>?_) λhc2=>?_
  ·have h0:N4 s.steps 0 999999999=false:=by simpa using hc2
   refine wA 6 I ?_;exact QMn I I (congrArg (aa .i64) (by unfold Nl;rw[if_pos h0])) wz
  refine QN ?_;exact Kb (⟨by simpa using hc2⟩) wU QKK λF h9=>⟨⟨⟨⟨h9.1.1.1.1,h9.1.1.1.2⟩,h9.1.1.2⟩,h9.1.2⟩,trivial⟩
 intro k1;have hst:=k1.down;refine QG<|JE QKK mixed wj<|QJ (QH I Ks ZL)<|QJ (QH I K9 QY)<|QJ (QW 0 (λF h9=>h9.1.1.2) rfl QY I)<|QJ (QH I Ks ZL)<|QJ (QH I XP Jf)<|QJ (QW 1 (λF h9=>h9.1.1.2) rfl Jf I)<|QJ (Qc I Xk)<|QJ (QE I)<|QJ (QE I)<|Qy<|QD ?_
 refine K4 (ι:=PLift (VR m s=false)) [(2,_),(3,_),(5,_),(6,_)] (λk4=>[]) (λk4=>[]) (λk4 F=>True) (by exact wW) ?_ ?_
 ·refine QLF<|QA (QH I UQ Qu)<|QA (QW 1 (λF h9=>h9.1.2) rfl Qu I)<|QA (Qc I Qd)<|wB 3 I ?_
  refine Qa (t:=26) rfl (λhb26=>?_) λhb26=>?_
  ·refine QMW 29 I<|Jv I<|wA 6 I ?_
   exact QMn I I (congrArg (aa .i64) (by unfold Nl;rw[if_neg (by rw[hst];decide),if_pos (by unfold VR;simp_all)])) wz
  refine QK I I<|QA (QH I CG Qu)<|QK I I<|QA (QW 2 (λF h9=>h9.1.2) rfl Qu I)<|QK I I<|QA (Qc I Qd)<|wB 6 I ?_
  refine Qa (t:=33) rfl (λhb33=>?_) λhb33=>?_
  ·refine QMW 22 I<|Jv I<|wA 6 I ?_
   exact QMn I I (congrArg (aa .i64) (by unfold Nl;rw[if_neg (by rw[hst];decide),if_pos (by unfold VR;simp_all)])) wz
  refine QK I I<|QA (QH I DN Xg)<|QK I I<|QA (QW 3 (λF h9=>h9.1.2) rfl Xg I)<|QK I I<|QA (Qc I Z2)<|wB 6 I ?_
  refine Qa (t:=40) rfl (λhb40=>?_) λhb40=>?_
  ·refine QMW 15 I<|Jv I<|wA 6 I ?_
   exact QMn I I (congrArg (aa .i64) (by unfold Nl;rw[if_neg (by rw[hst];decide),if_pos (by unfold VR;simp_all)])) wz
  refine QK I I<|QA (QH I UP Qu)<|QK I I<|QA (QW 4 (λF h9=>h9.1.2) rfl Qu I)<|QK I I<|QA (Qc I Qd)<|wB 6 I ?_
  refine Qa (t:=47) rfl (λhb47=>?_) λhb47=>?_
  ·refine QMW 8 I<|Jv I<|wA 6 I ?_
   exact QMn I I (congrArg (aa .i64) (by unfold Nl;rw[if_neg (by rw[hst];decide),if_pos (by unfold VR;simp_all)])) wz
  refine QK I I<|QA (QH I BO Vn)<|QK I I<|QA (QW 5 (λF h9=>h9.1.2) rfl Vn I)<|QK I I<|QA (Qc I M7)<|QMW 7 I ?_
  refine QO I (λhc2=>?_) λhc2=>?_
  ·refine wA 6 I ?_;exact QMn I I (congrArg (aa .i64) (by unfold Nl;rw[if_neg (by rw[hst];decide),if_pos (by unfold VR;simp_all)])) wz
  refine QN ?_;exact Kb (⟨by unfold VR;simp_all⟩) wW QKK λF h9=>⟨⟨⟨⟨⟨h9.1.1.1.1,h9.1.1.1.2⟩,h9.1.1.2⟩,h9.1.2⟩,trivial⟩,trivial⟩
 intro k4;have hsp:=k4.down;obtain⟨hp1,hp2,hp3,hp4,hp5⟩:=qB hsp;refine wA 7 I<|Jt (ι:=QJr m.p.sh.toNat (Uz m s)) [(2,_),(3,_),(5,_),(6,_)] (λi=>[(7,.int .i64 ((i.i:Nat):Int))]) (λi=>m.p.sh.toNat-i.i) (⟨0,ah _,rfl⟩) wW wT λi=>?_
 have hi:=i.le;refine wA 8 I ?_;refine QO I (λhc2=>?_) λhc2=>?_
 ·have hlt:i.i<m.p.sh.toNat:=wi<|QLr hc2
  refine QMX 5 I<|JE QKK mixed wj<|QJ (QH I UQ Qu)<|QJ (QW 1 (λF h9=>h9.1.1.2) rfl Qu I)<|QJ (QC I)<|QJ (Qo (n:=s.sh.n) i.i (λF h9=>h9.1.1.1.1.2.sh) rfl rfl Qd QY O)<|QJ (Ql (n:=s.sh.n) ((i.i)*1) (λF h9=>h9.1.1.1.1.2.sh) O rfl QY (Jo (f:=Qs) (l:=s.shl) O))<|QZ I (λ_ _ f k=>jQ f) λ_=>QJ (Xv I)<|QJ (QC I) ?_
  refine KH (t:=66) rfl (λhb66=>?_) λhb66=>?_
  ·refine Q7 I I I<|Q7 I I I<|Q7 I I I<|Q7 I I I<|Q7 I I I<|Q7 I I I<|Q7 I I I<|Q7 I I I<|Q7 I I I<|Q7 I I I<|Q7 I I I<|Q7 I I I<|Q7 I I I<|Q7 I I I<|Q7 I I I<|Q7 I I I<|Q7 I I I<|Q7 I I I<|Q7 I I I<|Q7 I I I<|Q7 I I I<|Q7 I I I<|Q7 I I I<|Q7 I I I<|QJ (QR I I I)<|Qy<|QD<|Jv I<|wA 5 I<|ZS ?_
   exact QMn I I (congrArg (aa .i64) (by unfold Nl;rw[if_neg (by rw[hst];decide),if_neg (by rw[hsp];decide),if_pos (Ai hlt (by unfold Uz;simp_all))])) wz
  have hlo:=hV.lost (k:=i.i) O;have hnr : -999999999<=(el s.shl i.i)/\(el s.shl i.i)<=999999999:=by simp[N4]at hb66;omega
  refine JA I I<|QJ (QH I CG Qu)<|JA I I<|QJ (QW 2 (λF h9=>h9.1.1.2) rfl Qu I)<|JA I I<|QJ (QC I)<|JA I I<|QJ (Qo (n:=s.se.n) i.i (λF h9=>h9.1.1.1.1.2.se) rfl rfl Qd QY O)<|JA I I<|QJ (Ql (n:=s.se.n) ((i.i)*1) (λF h9=>h9.1.1.1.1.2.se) O rfl QY (Jo (f:=Qs) (l:=s.sel) O))<|JA I I<|QJ (QH I UQ Qu)<|JA I I<|QJ (QW 1 (λF h9=>h9.1.1.2) rfl Qu I)<|JA I I<|QJ (QC I)<|JA I I<|QJ (Qo (n:=s.sh.n) i.i (λF h9=>h9.1.1.1.1.2.sh) rfl rfl Qd QY O)<|JA I I<|QJ (Ql (n:=s.sh.n) ((i.i)*1) (λF h9=>h9.1.1.1.1.2.sh) O rfl QY (Jo (f:=Qs) (l:=s.shl) O))<|JA I I<|QJ (QH I UR MS)<|JA I I<|QJ (QW 6 (λF h9=>h9.1.1.1.2) rfl MS I)<|JA I I<|QJ (QC I)<|JA I I<|QJ (Qo (n:=m.fa.n) i.i (λF h9=>h9.1.1.1.1.1.fa) rfl rfl IN IM O)<|JA I I<|QJ (QH I xH QY)<|JA I I<|QJ (Ql (n:=m.fa.n) ((i.i)*3+0) (λF h9=>h9.1.1.1.1.1.fa) O rfl QY (JR (f:=pyC) (l:=m.fl) AA O rfl))<|JA I I<|QJ (Jg I I O)<|JA I I<|QJ (QH I UQ Qu)<|JA I I<|QJ (QW 1 (λF h9=>h9.1.1.2) rfl Qu I)<|JA I I<|QJ (QC I)<|JA I I ?_
  refine QJ (Qo (n:=s.sh.n) i.i (λF h9=>h9.1.1.1.1.2.sh) rfl rfl Qd QY O)<|JA I I<|QJ (Ql (n:=s.sh.n) ((i.i)*1) (λF h9=>h9.1.1.1.1.2.sh) O rfl QY (Jo (f:=Qs) (l:=s.shl) O))<|JA I I<|QZ I (λ_ _ f k=>Bb f) λ_=>JA I I<|QJ (Xv I)<|QJ (QT I I I)<|Qy<|QD ?_
  refine QO I (λhc2=>?_) λhc2=>?_
  ·refine wA 5 I<|ZS ?_
   exact QMn I I (congrArg (aa .i64) (by unfold Nl;rw[if_neg (by rw[hst];decide),if_neg (by rw[hsp];decide),if_pos (Ai hlt (by unfold Uz;simp_all))])) wz
  refine QN<|Qg<|QMY 3 I<|QA (Qn I I O)<|wB 2 I ?_
  exact Qj (⟨i.i+1,hlt,kJ i.ok (by unfold Uz;simp_all)⟩) (by show m.p.sh.toNat-(i.i+1)<m.p.sh.toNat-i.i;omega) wX QKK λF h=>h.1.1
 have hge:i.i=m.p.sh.toNat:=by have:=QLs hc2;have:=i.le;omega
 refine JK ?_;refine wA 7 I<|Jt (ι:=QJp m.p.ul.length (My m s)) [(2,_),(3,_),(6,_)] (λi2=>[(8,.int .i64 ((i2.i:Nat):Int))]) (λi2=>m.p.ul.length-i2.i) (⟨0,ah _,λj h=>O⟩) wV wT λi2=>?_
 have hi2:=i2.le;refine wA 8 I ?_;refine QO I (λhc2=>?_) λhc2=>?_
 ·have hlt2:i2.i<m.p.ul.length:=wi<|QLr hc2
  refine QMX 6 I<|QA (Jj (λF h9=>h9.1.1.1.2) rfl Mz I)<|QA (Jj (λF h9=>h9.1.1.2) rfl qA I)<|QJm I<|QL I (λ_ _ f k=>C0 f k.1.1.1.1.1 k.1.1.1.1.2 hlt2 hll O O O hL hC) λ_=>QMW 9 I ?_
  refine QO I (λhc2=>?_) λhc2=>?_
  ·have hu0:My m s i2.i≠0:=by simpa using hc2
   refine wA 6 I<|ZS ?_
   exact QMn I I (congrArg (aa .i64) (by unfold Nl;rw[if_neg (by rw[hst];decide),if_neg (by rw[hsp];decide),if_neg (by have:=i.ok;rw[hge]at this;rw[this];decide),j5 i2.ok hlt2 hu0])) wz
  have hu0:My m s i2.i=0:=by simpa using hc2
  refine QN<|Qg<|QMY 3 I<|QA (Qn I I O)<|wB 2 I ?_
  exact Qj (⟨i2.i+1,hlt2,λj hj=>by rcases ak j i2.i with g | g;exact i2.ok j g;rw[show j=i2.i by omega];exact hu0⟩) (by show m.p.ul.length-(i2.i+1)<m.p.ul.length-i2.i;omega) wW QKK w8
 have hge2:i2.i=m.p.ul.length:=by have:=QLs hc2;have:=i2.le;omega
 refine JK ?_;refine wA 6 I ?_;exact QMn I I (congrArg (aa .i64) (by unfold Nl;rw[if_neg (by rw[hst];decide),if_neg (by rw[hsp];decide),if_neg (by have:=i.ok;rw[hge]at this;rw[this];decide),yv (λj hj=>i2.ok j O)])) wz
theorem Ro{x:Int}(hF:Fits F w):Qi prog 59 [.int .i64 x] w F (.bool (N4 x (-999999999) 999999999)):=by
 have h:=vT (x:=x) hF;rw[QBZ,Bool.not_not]at h;exact h
def Rq(m:Mt)(s:FA)(i:Nat):Int:=JB [if(NA s i||!DZ m s i)=true then 3 else 0,if(((((el s.hl i).1.n:Nat)):Int) != el m.ll i)=true then 2 else 0,if Na s i=true then 3 else 0]
def vC(m:Mt)(s:FA)(i:Nat):My m s i=if JO (el s.rl i)≠0 then JO (el s.rl i)else Rq m s i:=by
 unfold My Rq;split
 ·rfl
 by_cases h1:(NA s i||!DZ m s i)=true
 ·rw[if_pos h1,if_pos h1];rfl
 rw[if_neg h1,if_neg h1];by_cases h2:((((el s.hl i).1.n:Nat)):Int)≠el m.ll i
 ·rw[if_pos h2,if_pos (show(((((el s.hl i).1.n:Nat)):Int) != el m.ll i)=true by simpa using h2)];rfl
 rw[if_neg h2,if_neg (show ¬(((((el s.hl i).1.n:Nat)):Int) != el m.ll i)=true by simpa using h2)];by_cases h3:Na s i=true
 ·rw[if_pos h3];rfl
 rw[if_neg h3];rfl
def AQ(m:Mt)(s:FA):Int:=JB [if(!N4 s.steps 0 999999999)=true then 3 else 0,if VR m s=true then 2 else 0]
def QEI(h:AQ m s≠0):Nl m s=AQ m s:=by
 unfold AQ Nl at *
 by_cases h1:N4 s.steps 0 999999999=false
 ·rw[if_pos h1,if_pos (by rw[h1];rfl)];rfl
 have h2:¬(!N4 s.steps 0 999999999)=true:=by simpa using h1
 rw[if_neg h1];rw[if_neg h2]at h ⊢;by_cases h3:VR m s=true
 ·rw[if_pos h3,if_pos h3];rfl
 rw[if_neg h3]at h;exact absurd rfl h
def QEH(h:AQ m s=0):N4 s.steps 0 999999999=true/\VR m s=false:=by
 unfold AQ at h;by_cases h1:(!N4 s.steps 0 999999999)=true
 ·rw[if_pos h1]at h;cases h
 rw[if_neg h1]at h;by_cases h3:VR m s=true
 ·rw[if_pos h3]at h;cases h
 exact⟨by simpa using h1,by simpa using h3⟩
def QJc(m:Mt)(s:FA):Int:=if WV m≠0 then WV m else Nl m s
theorem Cb{x:Int}(hF:Fits F w):Qi prog 77 [.int .i64 x] w F (.bool (!N4 x (-999999999) 999999999)):=by
 refine QS.go (G:=λF=>True) func77 hF trivial ?_;refine wA 8 I<|QL I (λ_ _ f _=>Ro f) λ_=>QA (Xv I)<|wR I<|QU ?_
 exact QMn I I (rfl) wz
theorem Ca(hF:Fits F w)(hGl:Ka F)(hM:BB F m)(hS:N3 F s)(hE:WV m=0)(hL:ShM m)(hC:ShC s):Qi prog 31 [m.v,s.v] w F (.int .i64 (Nl m s)):=by
 have hV:=MnV.of hE;have Ax:=hM.p.Mf;have hsh1:=hV.v.sh;have hllu:=hV.ll;have hll:=hM.QBj;have hfl:=hV.fl;have hfn:=hM.E9;have hun:=hL.un;have hsn:=hS.shn;have hen:=hS.sen;have hrn:=hS.rsn;have hln:=hS.lan;have Ay:=hS.Ay;refine QS.go (G:=λF=>BB F m/\N3 F s/\Ka F) func31 hF ⟨hM,hS,hGl⟩ ?_;refine QLF<|Q9 I (vs:=[_,_,_,_,_,_,_,_]) I λb2=>Q9 I (vs:=[_,_,_,_,_,_]) I λb3=>wR I<|QG<|JN (b:=b2) .u1<|JN (b:=b3) .here<|JE QKK mixed wj<|QJ (QH I Ks ZL)<|QJ (QH I K9 QY)<|QJ (QW 0 (λF h9=>h9.1.2) rfl QY I)<|QJ (QH I Ks ZL)<|QJ (QH I XP Jf)<|QJ (QW 1 (λF h9=>h9.1.2) rfl Jf I)<|QJ (Qc I Xk)<|QJ (QE I)<|QJ (QE I)<|Qy<|QD ?_
 refine Xq [(2,_),(3,_)] [(7,.bool ((VR m s)))] wU ?_ ?_
 ·refine QB<|QA (QH I UQ Qu)<|QA (QW 1 w9 rfl Qu I)<|QA (Qc I Qd)<|wB 3 I ?_
  refine Qa (t:=30) rfl (λhb30=>?_) λhb30=>?_
  ·refine wB 29 I ?_;exact Jc ⟨rfl,rfl,(congrArg (λb:Bool=>some (af b)) (by unfold VR;simp_all)),trivial⟩ QKK w7
  refine QK I I<|QA (QH I CG Qu)<|QK I I<|QA (QW 2 w9 rfl Qu I)<|QK I I<|QA (Qc I Qd)<|wB 6 I ?_
  refine Qa (t:=37) rfl (λhb37=>?_) λhb37=>?_
  ·refine wB 22 I ?_;exact Jc ⟨rfl,rfl,(congrArg (λb:Bool=>some (af b)) (by unfold VR;simp_all)),trivial⟩ QKK w7
  refine QK I I<|QA (QH I DN Xg)<|QK I I<|QA (QW 3 w9 rfl Xg I)<|QK I I<|QA (Qc I Z2)<|wB 6 I ?_
  refine Qa (t:=44) rfl (λhb44=>?_) λhb44=>?_
  ·refine wB 15 I ?_;exact Jc ⟨rfl,rfl,(congrArg (λb:Bool=>some (af b)) (by unfold VR;simp_all)),trivial⟩ QKK w7
  refine QK I I<|QA (QH I UP Qu)<|QK I I<|QA (QW 4 w9 rfl Qu I)<|QK I I<|QA (Qc I Qd)<|wB 6 I ?_
  refine Qa (t:=51) rfl (λhb51=>?_) λhb51=>?_
  ·refine wB 8 I ?_;exact Jc ⟨rfl,rfl,(congrArg (λb:Bool=>some (af b)) (by unfold VR;simp_all)),trivial⟩ QKK w7
  refine QK I I<|QA (QH I BO Vn)<|QK I I<|QA (QW 5 w9 rfl Vn I)<|QK I I<|QA (Qc I M7)<|wB 7 I ?_
  exact Jc ⟨rfl,rfl,(congrArg (λb:Bool=>some (af b)) (by unfold VR;simp_all)),trivial⟩ QKK w7
 refine K4 (ι:=PLift (AQ m s=0)) [(2,_),(3,_)] (λk3=>[]) (λk3=>[]) (λk3 F=>True) (by exact wU) ?_ ?_
 ·refine QLF<|QA (QH I QB6 QY)<|QA (QW 0 w9 rfl QY I)<|QL I (λ_ _ f k=>Vv f) λ_=>QA (Xv I)<|QL I (λ_ _ f k=>Vx f) λ_=>QJm I<|QL I (λ_ _ f k=>Vx f) λ_=>JG I (J2 GL) DY Ia I I λb65=>QL I (λ_ _ f k=>W6 (l:=[if(!N4 s.steps 0 999999999)=true then 3 else 0,if VR m s=true then 2 else 0]) f (JC.of k.2 I) wk) λ_=>QMW 9 I ?_
  refine QO I (λhc2=>?_) λhc2=>?_
  ·have h0:AQ m s≠0:=by have h:(AQ m s != 0)=true:=hc2;simpa using h
   refine wA 7 I ?_;exact QMn I I (congrArg (aa .i64) (QEI h0)) wz
  refine QN ?_;exact Kb (⟨by have h:(AQ m s != 0)=false:=hc2;simpa using h⟩) wU QKK λF ⟨⟨⟨⟨⟨⟨⟨⟨hM,hS,hGl⟩,hz2⟩,hz3⟩,_⟩,_⟩,_⟩,hs65⟩,_⟩=>⟨⟨⟨⟨hM,hS,hGl⟩,hz2⟩,hz3⟩,trivial⟩
 intro k3;obtain⟨hst,hsp⟩:=QEH k3.down;obtain⟨hp1,hp2,hp3,hp4,hp5⟩:=qB hsp;refine QG<|QLF<|QA (QH I UQ Qu)<|QA (QW 1 (λF h9=>h9.1.2) rfl Qu I)<|QA (Qc I Qd)<|QMW 4 I<|Jt (ι:=QJr m.p.sh.toNat (Uz m s)) [(2,_),(3,_),(71,_),(72,_)] (λi=>[(73,.int .i64 ((i.i:Nat):Int))]) (λi=>m.p.sh.toNat-i.i) (⟨0,ah _,rfl⟩) wW wT λi=>?_
 have hi:=i.le;refine wA 6 I ?_;refine QO I (λhc2=>?_) λhc2=>?_
 ·have hlt:i.i<m.p.sh.toNat:=wi<|QLr hc2
  refine QMX 7 I<|QA (Qo (n:=s.sh.n) i.i (λF h9=>h9.1.1.1.2.1.sh) rfl rfl Qd QY O)<|QA (Ql (n:=s.sh.n) ((i.i)*1) (λF h9=>h9.1.1.1.2.1.sh) O rfl QY (Jo (f:=Qs) (l:=s.shl) O))<|QMW 5 I<|JE QKK mixed wj<|QJ (QC I)<|QZ I (λ_ _ f k=>Ro f) λ_=>QJ (Xv I)<|QJ (QC I) ?_
  refine KH (t:=81) rfl (λhb81=>?_) λhb81=>?_
  ·refine Q7 I I I<|Q7 I I I<|Q7 I I I<|Q7 I I I<|Q7 I I I<|Q7 I I I<|Q7 I I I<|Q7 I I I<|Q7 I I I<|Q7 I I I<|Q7 I I I<|Q7 I I I<|Q7 I I I<|Q7 I I I<|Q7 I I I<|Q7 I I I<|QJ (QR I I I)<|Qy<|QD<|Jv I<|wA 5 I<|ZS ?_
   exact QMn I I (congrArg (aa .i64) (by unfold Nl;rw[if_neg (by rw[hst];decide),if_neg (by rw[hsp];decide),if_pos (Ai hlt (by unfold Uz;simp_all))])) wz
  have hlo:=hV.lost (k:=i.i) O;have hnr : -999999999<=(el s.shl i.i)/\(el s.shl i.i)<=999999999:=by simp[N4]at hb81;omega
  refine JA I I<|QJ (QH I CG Qu)<|JA I I<|QJ (QW 2 (λF h9=>h9.1.2) rfl Qu I)<|JA I I<|QJ (QC I)<|JA I I<|QJ (Qo (n:=s.se.n) i.i (λF h9=>h9.1.1.1.2.1.se) rfl rfl Qd QY O)<|JA I I<|QJ (Ql (n:=s.se.n) ((i.i)*1) (λF h9=>h9.1.1.1.2.1.se) O rfl QY (Jo (f:=Qs) (l:=s.sel) O))<|JA I I<|QJ (QC I)<|JA I I<|QJ (QH I UR MS)<|JA I I<|QJ (QW 6 (λF h9=>h9.1.1.2) rfl MS I)<|JA I I<|QJ (QC I)<|JA I I<|QJ (Qo (n:=m.fa.n) i.i (λF h9=>h9.1.1.1.1.fa) rfl rfl IN IM O)<|JA I I<|QJ (QH I xH QY)<|JA I I<|QJ (Ql (n:=m.fa.n) ((i.i)*3+0) (λF h9=>h9.1.1.1.1.fa) O rfl QY (JR (f:=pyC) (l:=m.fl) AA O rfl))<|JA I I<|QJ (Jg I I O)<|JA I I<|QJ (QC I)<|JA I I<|QZ I (λ_ _ f k=>Vv f) λ_=>JA I I<|QJ (Xv I)<|QJ (QT I I I)<|Qy<|QD ?_
  refine QO I (λhc2=>?_) λhc2=>?_
  ·refine wA 5 I<|ZS ?_
   exact QMn I I (congrArg (aa .i64) (by unfold Nl;rw[if_neg (by rw[hst];decide),if_neg (by rw[hsp];decide),if_pos (Ai hlt (by unfold Uz;simp_all))])) wz
  refine QN<|Qg<|QD<|QB<|QA (Qn I I O)<|wB 2 I ?_
  exact Qj (⟨i.i+1,hlt,kJ i.ok (by unfold Uz;simp_all)⟩) (by show m.p.sh.toNat-(i.i+1)<m.p.sh.toNat-i.i;omega) wX QKK λF h=>h.1.1
 have hge:i.i=m.p.sh.toNat:=by have:=QLs hc2;have:=i.le;omega
 refine JK ?_;refine QG<|QLF<|QA (QH I Ks ZL)<|QA (QH I XP Jf)<|QA (QW 1 (λF h9=>h9.1.1.2) rfl Jf I)<|QA (Qc I Xk)<|QMW 4 I<|Jt (ι:=QJp m.p.ul.length (My m s)) [(2,_),(3,_),(102,_),(103,_)] (λi2=>[(104,.int .i64 ((i2.i:Nat):Int))]) (λi2=>m.p.ul.length-i2.i) (⟨0,ah _,λj h=>O⟩) wW wT λi2=>?_
 have hi2:=i2.le;refine wA 6 I ?_;refine QO I (λhc2=>?_) λhc2=>?_
 ·have hlt2:i2.i<m.p.ul.length:=wi<|QLr hc2
  have hrc:=hC.rl (el s.rl i2.i) (Q2 O);have hhm:(el s.hl i2.i)∈s.hl:=Q2 O;have hhn:=(hS.hh _ hhm).2;have hhc:=hC.hh _ hhm;refine QMX 7 I<|QA (Qo (n:=m.p.un.n) (i2.i) (λF h9=>h9.1.1.1.1.p.un) rfl rfl Xk XJ O)<|QA (XE (n:=m.p.un.n) (vs:=[tx (el m.p.ul (i2.i)).kd,.slice (el m.p.ul (i2.i)).fd.q (el m.p.ul (i2.i)).fd.n (el m.p.ul (i2.i)).fd.cap,Qs ((el m.p.ul (i2.i)).ou),tx (el m.p.ul (i2.i)).st,.slice (el m.p.ul (i2.i)).cv.q (el m.p.ul (i2.i)).cv.n (el m.p.ul (i2.i)).cv.cap]) ((i2.i)*5) (λF h9=>h9.1.1.1.1.p.un) O rfl XJ I λj v hv=>JR (f:=MR) (l:=m.p.ul) ZI O hv)<|Qk TM λb12=>QJn I<|QV (vs:=[_,_,_,_,_]) I I I XJ I .here .h5 wX<|QJl<|JN (b:=b12) .here ?_
  refine K4 (ι:=PLift (JO (el s.rl i2.i)=0)) [(2,_),(3,_),(11,_),(12,_),(102,_),(103,_),(104,_)] (λk15=>[]) (λk15=>[]) (λk15 F=>True) (by exact wZ) ?_ ?_
  ·refine QLF<|QA (QH I DN Xg)<|QA (QW 3 (λF h9=>h9.1.1.2) rfl Xg I)<|QJm I<|QA (Qo (n:=s.rs.n) (i2.i) (λF h9=>h9.1.1.1.1.2.1.rs) rfl rfl Z2 Ja O)<|QA (Ql (n:=s.rs.n) ((i2.i)*1) (λF h9=>h9.1.1.1.1.2.1.rs) O rfl Ja (Jo (f:=tx) (l:=s.rl) O))<|QL I (λ_ _ f k=>TG f k.1.1.1.1.2.2 O) λ_=>QMW 9 I ?_
   refine QO I (λhc2=>?_) λhc2=>?_
   ·have hc1:JO (el s.rl i2.i)≠0:=by simpa using hc2
    have hu0:My m s i2.i=JO (el s.rl i2.i):=by rw[vC,if_pos hc1]
    refine wA 6 I<|ZS ?_
    exact QMn I I (congrArg (aa .i64) (by unfold Nl;rw[if_neg (by rw[hst];decide),if_neg (by rw[hsp];decide),if_neg (by have:=i.ok;rw[hge]at this;rw[this];decide),j5 i2.ok hlt2 (by rw[hu0];first | exact hc1 | exact hr0),hu0])) wz
   refine QN ?_;exact Kb (⟨by simpa using hc2⟩) wZ QKK λF ⟨⟨⟨⟨⟨⟨hM,hS,hGl⟩,hz2⟩,hz3⟩,_⟩,hz12⟩,_⟩=>⟨⟨⟨⟨⟨⟨hM,hS,hGl⟩,hz2⟩,hz3⟩,trivial⟩,hz12⟩,trivial⟩
  intro k15;have hc0:=k15.down;refine QLF<|QA (QH I DN Xg)<|QA (QW 3 (λF h9=>h9.1.1.1.2) rfl Xg I)<|QJm I<|QA (Qo (n:=s.rs.n) (i2.i) (λF h9=>h9.1.1.1.1.1.2.1.rs) rfl rfl Z2 Ja O)<|QA (Ql (n:=s.rs.n) ((i2.i)*1) (λF h9=>h9.1.1.1.1.1.2.1.rs) O rfl Ja (Jo (f:=tx) (l:=s.rl) O))<|QL I (λ_ _ f k=>Pm (r:=J4 (el s.rl i2.i)) f k.1.1.1.1.1.2.2 (ZR hc0).1 O) λc123=>Qk VA λb14=>QV (vs:=[_,_,_,_]) I I I Jn I .here .h4 wW<|QJl<|JN (b:=b14) .here ?_
  refine Xq [(2,_),(3,_),(11,_),(14,_),(102,_),(103,_),(104,_)] [(15,.bool ((DZ m s i2.i)))] wZ ?_ ?_
  ·refine QB<|QA (Jj (λF h9=>h9.1.1.1.2) rfl XJ I)<|QL I (λ_ _ f k=>uB f) λ_=>QJm I ?_
   refine Qa (t:=126) rfl (λhb126=>?_) λhb126=>?_
   ·refine wB 7 I<|Qz I I<|Qz I I<|Qz I I<|Qz I I<|Qz I I<|Qz I I<|wB 4 I ?_
    exact Jc ⟨rfl,rfl,rfl,rfl,rfl,rfl,rfl,(congrArg (λb:Bool=>some (af b)) (by unfold DZ;simp_all)),trivial⟩ QKK w8
   refine QK I I<|QA (QH I DN Xg)<|QK I I<|QA (QW 3 (λF h9=>h9.1.1.1.1.1.1.2) rfl Xg I)<|wB 3 I<|QA (Qo (n:=s.rs.n) (i2.i) (λF h9=>h9.1.1.1.1.1.1.1.1.2.1.rs) rfl rfl Z2 Ja O)<|QK I I<|QA (Ql (n:=s.rs.n) ((i2.i)*1) (λF h9=>h9.1.1.1.1.1.1.1.1.2.1.rs) O rfl Ja (Jo (f:=tx) (l:=s.rl) O))<|QK I I<|QA (Xc I I)<|wB 2 I ?_
   refine Qa (t:=133) rfl (λhb133=>?_) λhb133=>?_
   ·refine QK I I<|QA (QH I UP Qu)<|QK I I<|QA (QW 4 (λF h9=>h9.1.1.1.1.1.1.2) rfl Qu I)<|wB 3 I<|QA (Qo (n:=s.la.n) (i2.i) (λF h9=>h9.1.1.1.1.1.1.1.1.2.1.la) rfl rfl Qd QY O)<|QK I I<|QA (Ql (n:=s.la.n) ((i2.i)*1) (λF h9=>h9.1.1.1.1.1.1.1.1.2.1.la) O rfl QY (Jo (f:=Qs) (l:=s.lal) O))<|wB 7 I ?_
    exact Jc ⟨rfl,rfl,rfl,rfl,rfl,rfl,rfl,(congrArg (λb:Bool=>some (af b)) (by unfold DZ;simp_all)),trivial⟩ QKK w8
   refine wB 11 I ?_;exact Jc ⟨rfl,rfl,rfl,rfl,rfl,rfl,rfl,(congrArg (λb:Bool=>some (af b)) (by unfold DZ;simp_all)),trivial⟩ QKK w8
  refine QLF<|QA (QH I BO Vn)<|QA (QW 5 (λF h9=>h9.1.1.1.1.1.2) rfl Vn I)<|QJm I<|QA (Qo (n:=s.hd.n) (i2.i) (λF h9=>h9.1.1.1.1.1.1.1.2.1.hd) rfl rfl M7 Qu O)<|QA (Ql (n:=s.hd.n) ((i2.i)*1) (λF h9=>h9.1.1.1.1.1.1.1.2.1.hd) O rfl Qu (Jo (f:=λe:Sr×List Int=>e.1.v) (l:=s.hl) O))<|QL I (λw F f k=>uQ (c1:=[]) (c2:=[]) (p:=λx=>!N4 x (-999999999) 999999999) (l:=(el s.hl i2.i).2) (G0:=λ_=>True) f (λ_ _ _ h=>h) trivial (k.1.1.1.1.1.1.1.2.1.hh _ hhm).1 hhn O λe _ w F f _=>Cb f) λ_=>QMW 3 I ?_
  refine Xq [(2,_),(3,_),(102,_),(103,_),(104,_)] [(17,.int .i64 ((Rq m s i2.i)))] wX ?_ ?_
  ·refine JE QKK mixed wj<|QJ (Jj (λF h9=>h9.1.2) rfl Jn I)<|QZ I (λ_ _ f k=>uD f k.1.1.2) λ_=>QJ (QP I I I)<|QJ (QC I) ?_
   refine KH (t:=151) rfl (λhb151=>?_) λhb151=>?_
   ·refine Q7 I I I<|Q7 I I I<|Q7 I I I<|Q7 I I I<|QJ (QR I I I)<|QJ (QC I)<|Q7 I I I<|Q7 I I I<|Q7 I I I<|Q7 I I I<|Q7 I I I<|Q7 I I I<|Q7 I I I<|QJ (QR I I I)<|QJ (QC I)<|Q7 I I I<|Q7 I I I<|QJ (QR I I I)<|QZ I (λ_ _ f k=>Vx f) λ_=>QJ (QH I BO Vn)<|QJ (QW 5 (λF h9=>h9.1.1.1.1.1.1.2) rfl Vn I)<|QJ (QC I)<|QJ (Qo (n:=s.hd.n) (i2.i) (λF h9=>h9.1.1.1.1.1.1.1.1.2.1.hd) rfl rfl M7 Qu O)<|QJ (Ql (n:=s.hd.n) ((i2.i)*1) (λF h9=>h9.1.1.1.1.1.1.1.1.2.1.hd) O rfl Qu (Jo (f:=λe:Sr×List Int=>e.1.v) (l:=s.hl) O))<|QJ (Qc I Qd)<|QJ (QH I DO Qu)<|QJ (QW 7 (λF h9=>h9.1.1.1.1.1.1.1.2) rfl Qu I)<|QJ (QC I)<|QJ (Qo (n:=m.lg.n) (i2.i) (λF h9=>h9.1.1.1.1.1.1.1.1.1.lg) rfl rfl Qd QY O)<|QJ (Ql (n:=m.lg.n) ((i2.i)*1) (λF h9=>h9.1.1.1.1.1.1.1.1.1.lg) O rfl QY (Jo (f:=Qs) (l:=m.ll) O))<|QJ (QP I I I)<|QZ I (λ_ _ f k=>Vx f) λ_=>QJ (QC I)<|QZ I (λ_ _ f k=>Vx f) λ_=>?_
    refine XU I (J2 GL) DY Ia I I (λb186=>?_) λw h=>h.imp .slnil λF h=>h.1.1.1.1
    first
    |refine QZ I (λ_ _ f k=>W6 (l:=[if true=true then 3 else 0,if(((((el s.hl i2.i).1.n:Nat)):Int) != el m.ll i2.i)=true then 2 else 0,if Na s i2.i=true then 3 else 0]) f (JC.of k.2 I) wk) λ_=>?_
    |refine QZ I (λ_ _ f k=>W6 (l:=[if(!DZ m s i2.i)=true then 3 else 0,if(((((el s.hl i2.i).1.n:Nat)):Int) != el m.ll i2.i)=true then 2 else 0,if Na s i2.i=true then 3 else 0]) f (JC.of k.2 I) wk) λ_=>?_
    refine QJ (QE I)<|Qy ?_
    exact Jc ⟨rfl,rfl,rfl,rfl,rfl,(congrArg (λz:Int=>some (aa .i64 z)) (by unfold Rq NA;simp_all)),trivial⟩ QKK λ_ h=>h.1.1.1.1.1.1
   refine JA I I<|QJ (Jj (λF h9=>h9.1.2) rfl Jn I)<|JA I I<|QZ I (λ_ _ f k=>f_g (n:=1) f wk wk) λc153=>JA I I<|QZ I (λ_ _ f k=>xF f k.1.1.1.1.2 k.2 (wi<|YS hc0) wk) λ_=>JA I I<|QJ (QP I I I)<|QJ (QT I I I)<|QJ (QC I) ?_
   refine KH (t:=157) rfl (λhb157=>?_) λhb157=>?_
   ·refine Q7 I I I<|Q7 I I I<|Q7 I I I<|Q7 I I I<|Q7 I I I<|Q7 I I I<|Q7 I I I<|QJ (QR I I I)<|QJ (QC I)<|Q7 I I I<|Q7 I I I<|QJ (QR I I I)<|QZ I (λ_ _ f k=>Vx f) λ_=>QJ (QH I BO Vn)<|QJ (QW 5 (λF h9=>h9.1.1.1.1.1.1.2) rfl Vn I)<|QJ (QC I)<|QJ (Qo (n:=s.hd.n) (i2.i) (λF h9=>h9.1.1.1.1.1.1.1.1.2.1.hd) rfl rfl M7 Qu O)<|QJ (Ql (n:=s.hd.n) ((i2.i)*1) (λF h9=>h9.1.1.1.1.1.1.1.1.2.1.hd) O rfl Qu (Jo (f:=λe:Sr×List Int=>e.1.v) (l:=s.hl) O))<|QJ (Qc I Qd)<|QJ (QH I DO Qu)<|QJ (QW 7 (λF h9=>h9.1.1.1.1.1.1.1.2) rfl Qu I)<|QJ (QC I)<|QJ (Qo (n:=m.lg.n) (i2.i) (λF h9=>h9.1.1.1.1.1.1.1.1.1.lg) rfl rfl Qd QY O)<|QJ (Ql (n:=m.lg.n) ((i2.i)*1) (λF h9=>h9.1.1.1.1.1.1.1.1.1.lg) O rfl QY (Jo (f:=Qs) (l:=m.ll) O))<|QJ (QP I I I)<|QZ I (λ_ _ f k=>Vx f) λ_=>QJ (QC I)<|QZ I (λ_ _ f k=>Vx f) λ_=>?_
    refine XU I (J2 GL) DY Ia I I (λb186=>?_) λw h=>h.imp .slnil λF h=>h.1.1.1.1.1.1
    first
    |refine QZ I (λ_ _ f k=>W6 (l:=[if true=true then 3 else 0,if(((((el s.hl i2.i).1.n:Nat)):Int) != el m.ll i2.i)=true then 2 else 0,if Na s i2.i=true then 3 else 0]) f (JC.of k.2 I) wk) λ_=>?_
    |refine QZ I (λ_ _ f k=>W6 (l:=[if(!DZ m s i2.i)=true then 3 else 0,if(((((el s.hl i2.i).1.n:Nat)):Int) != el m.ll i2.i)=true then 2 else 0,if Na s i2.i=true then 3 else 0]) f (JC.of k.2 I) wk) λ_=>?_
    refine QJ (QE I)<|Qy ?_
    exact Jc ⟨rfl,rfl,rfl,rfl,rfl,(congrArg (λz:Int=>some (aa .i64 z)) (by unfold Rq NA;simp_all)),trivial⟩ QKK λ_ h=>h.1.1.1.1.1.1.1.1
   refine JA I I<|QJ (QH I UP Qu)<|JA I I<|QJ (QW 4 (λF h9=>h9.1.1.1.1.1.1.2) rfl Qu I)<|JA I I<|QJ (QC I)<|JA I I<|QJ (Qo (n:=s.la.n) (i2.i) (λF h9=>h9.1.1.1.1.1.1.1.1.2.1.la) rfl rfl Qd QY O)<|JA I I<|QJ (Ql (n:=s.la.n) ((i2.i)*1) (λF h9=>h9.1.1.1.1.1.1.1.1.2.1.la) O rfl QY (Jo (f:=Qs) (l:=s.lal) O))<|JA I I<|QZ I (λ_ _ f k=>Ro f) λ_=>JA I I<|QJ (Xv I)<|QJ (QT I I I)<|QJ (QC I) ?_
   refine KH (t:=166) rfl (λhb166=>?_) λhb166=>?_
   ·refine Q7 I I I<|Q7 I I I<|QJ (QR I I I)<|QZ I (λ_ _ f k=>Vx f) λ_=>QJ (QH I BO Vn)<|QJ (QW 5 (λF h9=>h9.1.1.1.1.1.1.2) rfl Vn I)<|QJ (QC I)<|QJ (Qo (n:=s.hd.n) (i2.i) (λF h9=>h9.1.1.1.1.1.1.1.1.2.1.hd) rfl rfl M7 Qu O)<|QJ (Ql (n:=s.hd.n) ((i2.i)*1) (λF h9=>h9.1.1.1.1.1.1.1.1.2.1.hd) O rfl Qu (Jo (f:=λe:Sr×List Int=>e.1.v) (l:=s.hl) O))<|QJ (Qc I Qd)<|QJ (QH I DO Qu)<|QJ (QW 7 (λF h9=>h9.1.1.1.1.1.1.1.2) rfl Qu I)<|QJ (QC I)<|QJ (Qo (n:=m.lg.n) (i2.i) (λF h9=>h9.1.1.1.1.1.1.1.1.1.lg) rfl rfl Qd QY O)<|QJ (Ql (n:=m.lg.n) ((i2.i)*1) (λF h9=>h9.1.1.1.1.1.1.1.1.1.lg) O rfl QY (Jo (f:=Qs) (l:=m.ll) O))<|QJ (QP I I I)<|QZ I (λ_ _ f k=>Vx f) λ_=>QJ (QC I)<|QZ I (λ_ _ f k=>Vx f) λ_=>?_
    refine XU I (J2 GL) DY Ia I I (λb186=>?_) λw h=>h.imp .slnil λF h=>h.1.1.1.1.1.1.1
    first
    |refine QZ I (λ_ _ f k=>W6 (l:=[if true=true then 3 else 0,if(((((el s.hl i2.i).1.n:Nat)):Int) != el m.ll i2.i)=true then 2 else 0,if Na s i2.i=true then 3 else 0]) f (JC.of k.2 I) wk) λ_=>?_
    |refine QZ I (λ_ _ f k=>W6 (l:=[if(!DZ m s i2.i)=true then 3 else 0,if(((((el s.hl i2.i).1.n:Nat)):Int) != el m.ll i2.i)=true then 2 else 0,if Na s i2.i=true then 3 else 0]) f (JC.of k.2 I) wk) λ_=>?_
    refine QJ (QE I)<|Qy ?_
    exact Jc ⟨rfl,rfl,rfl,rfl,rfl,(congrArg (λz:Int=>some (aa .i64 z)) (by unfold Rq NA;simp_all)),trivial⟩ QKK λ_ h=>h.1.1.1.1.1.1.1.1.1
   refine JA I I<|QJ (QC I)<|JA I I<|QJ (Xv I)<|QJ (QT I I I)<|QZ I (λ_ _ f k=>Vx f) λ_=>QJ (QH I BO Vn)<|QJ (QW 5 (λF h9=>h9.1.1.1.1.1.1.2) rfl Vn I)<|QJ (QC I)<|QJ (Qo (n:=s.hd.n) (i2.i) (λF h9=>h9.1.1.1.1.1.1.1.1.2.1.hd) rfl rfl M7 Qu O)<|QJ (Ql (n:=s.hd.n) ((i2.i)*1) (λF h9=>h9.1.1.1.1.1.1.1.1.2.1.hd) O rfl Qu (Jo (f:=λe:Sr×List Int=>e.1.v) (l:=s.hl) O))<|QJ (Qc I Qd)<|QJ (QH I DO Qu)<|QJ (QW 7 (λF h9=>h9.1.1.1.1.1.1.1.2) rfl Qu I)<|QJ (QC I)<|QJ (Qo (n:=m.lg.n) (i2.i) (λF h9=>h9.1.1.1.1.1.1.1.1.1.lg) rfl rfl Qd QY O)<|QJ (Ql (n:=m.lg.n) ((i2.i)*1) (λF h9=>h9.1.1.1.1.1.1.1.1.1.lg) O rfl QY (Jo (f:=Qs) (l:=m.ll) O))<|QJ (QP I I I)<|QZ I (λ_ _ f k=>Vx f) λ_=>QJ (QC I)<|QZ I (λ_ _ f k=>Vx f) λ_=>?_
   refine XU I (J2 GL) DY Ia I I (λb186=>?_) λw h=>h.imp .slnil λF h=>h.1.1.1.1.1.1.1
   first
   |refine QZ I (λ_ _ f k=>W6 (l:=[if true=true then 3 else 0,if(((((el s.hl i2.i).1.n:Nat)):Int) != el m.ll i2.i)=true then 2 else 0,if Na s i2.i=true then 3 else 0]) f (JC.of k.2 I) wk) λ_=>?_
   |refine QZ I (λ_ _ f k=>W6 (l:=[if(!DZ m s i2.i)=true then 3 else 0,if(((((el s.hl i2.i).1.n:Nat)):Int) != el m.ll i2.i)=true then 2 else 0,if Na s i2.i=true then 3 else 0]) f (JC.of k.2 I) wk) λ_=>?_
   refine QJ (QE I)<|Qy ?_
   exact Jc ⟨rfl,rfl,rfl,rfl,rfl,(congrArg (λz:Int=>some (aa .i64 z)) (by show JB _=Rq m s i2.i;unfold Rq;rw[show NA s i2.i=false from by unfold NA;rw[show decide (MV (J4 (el s.rl i2.i)).num<0)=false from hb151,show decide (Dt (J4 (el s.rl i2.i)) 1>=0)=false from hb157,show N4 (el s.lal i2.i) (-999999999) 999999999=true by simpa using hb166];rfl,Bool.false_or])),trivial⟩ QKK λ_ h=>h.1.1.1.1.1.1.1.1.1
  refine wA 6 I ?_;refine QO I (λhc2=>?_) λhc2=>?_
  ·have hr0:Rq m s i2.i≠0:=by simpa using hc2
   have hu0:My m s i2.i=Rq m s i2.i:=by rw[vC,if_neg (by simpa using hc0)]
   refine wA 6 I<|ZS ?_
   exact QMn I I (congrArg (aa .i64) (by unfold Nl;rw[if_neg (by rw[hst];decide),if_neg (by rw[hsp];decide),if_neg (by have:=i.ok;rw[hge]at this;rw[this];decide),j5 i2.ok hlt2 (by rw[hu0];first | exact hc1 | exact hr0),hu0])) wz
  have hr0:Rq m s i2.i=0:=by simpa using hc2
  have hu0:My m s i2.i=0:=by rw[vC,if_neg (by simpa using hc0)];exact hr0
  refine QN<|Qg<|QD<|QB<|QA (Qn I I O)<|wB 2 I ?_
  exact Qj (⟨i2.i+1,hlt2,λj hj=>by rcases ak j i2.i with g | g;exact i2.ok j g;rw[show j=i2.i by omega];exact hu0⟩) (by show m.p.ul.length-(i2.i+1)<m.p.ul.length-i2.i;omega) wX QKK λF h=>h.1.1.1.1.1
 have hge2:i2.i=m.p.ul.length:=by have:=QLs hc2;have:=i2.le;omega
 refine JK ?_;refine wA 6 I ?_;exact QMn I I (congrArg (aa .i64) (by unfold Nl;rw[if_neg (by rw[hst];decide),if_neg (by rw[hsp];decide),if_neg (by have:=i.ok;rw[hge]at this;rw[this];decide),yv (λj hj=>i2.ok j O)])) wz
theorem C7(hF:Fits F w)(hGl:Ka F)(hM:BB F m)(hS:N3 F s)(hL:ShM m)(hC:ShC s):Qi prog 8 [m.v,s.v] w F (.int .i64 (QJc m s)):=by
 refine QS.go (G:=λF=>BB F m/\N3 F s/\Ka F) func8 hF ⟨hM,hS,hGl⟩ ?_;refine QLF<|Q9 I (vs:=[_,_,_,_,_,_,_,_]) I λb2=>Q9 I (vs:=[_,_,_,_,_,_]) I λb3=>QMW 5 I<|JN (b:=b2) .u1<|JN (b:=b3) .here<|QB<|QA (Jj (λF h9=>h9.1.2) rfl Mz I)<|QL I (λ_ _ f k=>CZ f k.1.1.2.2 k.1.1.1 hL.l) λ_=>QMW 9 I ?_
 refine QO I (λhc2=>?_) λhc2=>?_
 ·have h0:WV m≠0:=by simpa using hc2
  refine wA 7 I ?_;exact QMn I I (congrArg (aa .i64) (if_pos h0)) wz
 have h0:WV m=0:=by simpa using hc2
 refine QMX 4 I<|QA (Jj (λF h9=>h9.1.1.2) rfl Mz I)<|QA (Jj (λF h9=>h9.1.2) rfl qA I)<|QL I (λ_ _ f k=>Ca f k.1.1.1.2.2 k.1.1.1.1 k.1.1.1.2.1 h0 hL hC) λ_=>wR I<|QU ?_
 exact QMn I I (congrArg (aa .i64) (if_neg (by simpa using h0))) wz
theorem dH(hF:Fits F w)(hM:BB F m)(hS:N3 F s)(hL:ShM m)(hC:ShC s):Qi prog 9 [m.v,s.v] w F (.int .i64 (QJc m s)):=by
 refine QS.go (G:=λF=>BB F m/\N3 F s) func9 hF ⟨hM,hS⟩ ?_;refine QLF<|Q9 I (vs:=[_,_,_,_,_,_,_,_]) I λb2=>Q9 I (vs:=[_,_,_,_,_,_]) I λb3=>QMW 5 I<|JN (b:=b2) .u1<|JN (b:=b3) .here<|QB<|QA (Jj (λF h9=>h9.1.2) rfl Mz I)<|QL I (λ_ _ f k=>DK f k.1.1.1 hL.l) λ_=>QMW 9 I ?_
 refine QO I (λhc2=>?_) λhc2=>?_
 ·have h0:WV m≠0:=by simpa using hc2
  refine wA 7 I ?_;exact QMn I I (congrArg (aa .i64) (if_pos h0)) wz
 have h0:WV m=0:=by simpa using hc2
 refine QMX 4 I<|QA (Jj (λF h9=>h9.1.1.2) rfl Mz I)<|QA (Jj (λF h9=>h9.1.2) rfl qA I)<|QL I (λ_ _ f k=>OG f k.1.1.1.1 k.1.1.1.2 h0 hL hC) λ_=>wR I<|QU ?_
 exact QMn I I (congrArg (aa .i64) (if_neg (by simpa using h0))) wz
end Go.Proofs.YtphlgddkpboamaaGreatDoor
