/- Steps of the proof of the theorem in the last file. -/
import Derived.Test.YtogkbhegfnklhaaGreatDoorE0XCB
import Derived.Test.YtogkbhegfnklhaaGreatDoorM11XCB
set_option linter.all false
set_option maxHeartbeats 4000000
open List renaming cons_append -> aa,nil_append -> ae,perm_append_comm -> ai
open Go.Value renaming bool -> af,int -> ak
open And renaming intro -> ah
open Nat renaming zero_le -> aj
namespace Go.Proofs.YtogkbhegfnklhaaGreatDoor
open Go.RowKit Ig
def QFR:(Lib.pow10Tab.map λz=>ak .u64 z)=Ev.QHw.map λz=>ak .u64 z:=by unfold Lib.pow10Tab Ev.QHw;rfl
theorem QAO{w:World}{F:Gs}(b:Fits F w)(a:JU F):QX Tryz.prog 8 [] w F (.bool true):=by
 obtain⟨_,T,h2⟩:=a;obtain⟨fr,e⟩:=b.row _ _ _ h2;rw[QFR]at e;obtain⟨r,h3,h4⟩:=Ev.QGx;exact .of (enters_of Tryz.func8 wi wi) b (Ev.uj wi wj h3 h4 e)
theorem ve{w:World}{F:Gs}{y:YA}{z:List UInt8}{k:Nat}(hF:Fits F w)(hGl:JU F)(hy:KM F y)(hl:ke y)(hsn:y.st.n<=9223372036854775807)(hk:k<256):QX Tryz.prog 3 [y.v,.int .u8 (k:Nat),tx z] w F (.bool true):=by
 have Y:=hy.ok;have L:=hy.Sq;have hrl:=hy.EC;refine QU.intro (G:=λF=>JU F/\KM F y) Tryz.func3 rfl wm rfl rfl hF (λF' hF'=>⟨hGl.le hF',hy.le hF'⟩)<|QNz<|Qv rfl (vs:=[_,_,_]) rfl λb3=>Kg (b:=b3) .here<|wQ rfl<|QG ?_
 refine Xl [(1,_),(2,_),(3,_)] [(37,.bool ((QAq y z)))] wU ?_ ?_
 ·refine QB<|QA (J0 (n:=1) (vs:=[.slice y.nm.q y.nm.n y.nm.cap,.slice y.rt.q y.rt.n y.rt.cap,.slice y.st.q y.st.n y.st.cap]) ((0)*3) (λF h9=>(Qz.of (n:=1) (sz:=3) h9.2 I)) O rfl H5 I λj v hv=>by simpa using hv)<|QL I (λ_ _ f k=>QHt (y:=y) (v:=2) (d:=2) (g:=4) f k.1.1 k.1.2 hl wj) λ_=>QA (Jw I)<|QMu I ?_
  refine QY (t:=23) rfl (λhb23=>?_) λhb23=>?_
  ·refine wB 15 I ?_;exact Q4 ⟨rfl,rfl,rfl,(congrArg (λb=>some (af b)) (by unfold QAq;rw[hb23];rfl)),trivial⟩ QNG w7
  refine QJ I I<|QA (J0 (n:=1) (vs:=[.slice y.nm.q y.nm.n y.nm.cap,.slice y.rt.q y.rt.n y.rt.cap,.slice y.st.q y.st.n y.st.cap]) ((0)*3) (λF h9=>(Qz.of (n:=1) (sz:=3) h9.1.2 I)) O rfl H5 I λj v hv=>by simpa using hv)<|QJ I I<|QL I (λ_ _ f k=>QA4 (y:=y) f k.1.1.2 hsn) λ_=>QJ I I<|QA (Jw I)<|wB 2 I ?_
  refine QY (t:=28) rfl (λhb28=>?_) λhb28=>?_
  ·refine wB 10 I ?_;exact Q4 ⟨rfl,rfl,rfl,(congrArg (λb=>some (af b)) (by unfold QAq;rw[hb23,hb28];rfl)),trivial⟩ QNG λ_ h=>h.1.1
  refine wB 3 I<|QL I (λ_ _ f k=>Fa (d:=4) f wj) λ_=>QJ I I<|QA (Jw I)<|wB 2 I ?_
  refine QY (t:=33) rfl (λhb33=>?_) λhb33=>?_
  ·refine wB 5 I ?_;exact Q4 ⟨rfl,rfl,rfl,(congrArg (λb=>some (af b)) (by unfold QAq;rw[hb23,hb28,hb33];rfl)),trivial⟩ QNG λ_ h=>h.1.1.1
  refine wB 3 I<|QL I (λ_ _ f k=>QFG f (Ek (d:=4) (by simpa using hb33))) λ_=>wB 4 I ?_
  exact Q4 ⟨rfl,rfl,rfl,(congrArg (λb=>some (af b)) (by unfold QAq;rw[hb23,hb28,hb33];rfl)),trivial⟩ QNG λ_ h=>h.1.1.1.1
 simp only[aa,ae];refine QP I (λU=>?_) λU=>?_
 ·refine QNz<|QL I (λ_ _ f k=>QAO f k.1.1) λ_=>wQ I<|QW ?_
  exact QO2 I I (rfl) wy
 have hN:TsF y z:=QJi U;obtain⟨hye,hss,hsm,hs4,hm2,hnm⟩:=hN.sm hl hrl Y L;obtain⟨hstn,hrsn,hs0⟩:=hN.sn hl hrl Y L;have ht:Sg y:=hl.ts hss;have hsln:y.sl.length=y.rt.n:=L.trans hstn;have hst4:=hN.st hl hrl Y L;have hcw:JW z=0:=Ek hN.fw;have hbc:∀s∈y.sl,JW s.1=0/\JW s.2=0:=λs hs=>by
  have h1:=yV (d:=4) (List.all_eq_true.1 hst4 s hs);exact⟨h1.1,h1.2.1⟩
 have hwz:=hN.wz hl hrl Y L;have hlw:(Q5 (-Jr z)).length<=1000000/\z.length<=1000000:=by
  have h1:=yW hN.fw;have h2:=WA (-Jr z);rw[Mj]at h2;exact⟨O,O⟩
 have htl:(qm y (Jr z)).length=y.rt.n:=by simp[qm]
 refine QOn 5 I<|QA (Fb (n:=(k:Int)) I QHh k_3 O)<|QA (KV I I O wj) ?_
 rw[show((k:Int)%4)=((k%4:Nat):Int)from by omega];refine QA (Qk I I O) ?_;rw[show((1:Int)+((k%4:Nat):Int))=((1+k%4:Nat):Int)from by omega];refine wQ I<|QG ?_
 obtain⟨n,hn⟩:∃n,n=1+k%4:=⟨_,rfl⟩;rw[<-hn];have hn1:1<=n:=O;have hn4:n<=4:=O;have hO:=hN.points hl hrl Y L hn1 hn4;have hz0:(Jp ([48],[48]))=((0:Rat),(0:Rat)):=wk;refine QB<|QA (J0 (n:=1) (vs:=[.slice y.nm.q y.nm.n y.nm.cap,.slice y.rt.q y.rt.n y.rt.cap,.slice y.st.q y.st.n y.st.cap]) ((0)*3) (λF h9=>(Qz.of (n:=1) (sz:=3) h9.2 rfl)) O rfl H5 rfl λj v hv=>by simpa using hv)<|QMu rfl<|QL rfl (λ_ _ f k=>QJw (y:=y) (o:=n) (n:=y.rt.n) f k.1.1 k.1.2 ht hye (hN.sys hl hrl Y L hn4) hnm) λc46=>J5 _ (λ_ _ f k=>k.2.len) λl46=>QMu rfl<|QA (Qi rfl rfl)<|QA (Qi rfl rfl)<|QMv rfl<|wQ rfl<|QG<|JO QNG mixed wi<|QK (J0 (n:=1) (vs:=[.slice y.nm.q y.nm.n y.nm.cap,.slice y.rt.q y.rt.n y.rt.cap,.slice y.st.q y.st.n y.st.cap]) ((0)*3) (λF h9=>(Qz.of (n:=1) (sz:=3) h9.1.2 rfl)) O rfl H5 rfl λj v hv=>by simpa using hv)<|QZ rfl (λ_ _ f k=>O7 (s:=[48]) f) λ_=>QK (QH rfl Vv ZF)<|QK (Qu (n:=1) ((0)*3+2) (λF h9=>(Qz.of (n:=1) (sz:=3) h9.1.2 rfl)) O rfl ZF rfl)<|QK (QC rfl)<|QZ rfl (λ_ _ f k=>vG (y:=y) (n:=n) (t:=([48],[48])) (r:=y.st) (l:=y.sl) f k.1.1.1.1 k.1.1.1.2 ht ⟨wj,wj⟩ ⟨k.1.1.1.2.st,L⟩ hO) λc55=>KL _ (λw F hF ⟨⟨⟨⟨⟨hGl,hy⟩,hz3⟩,h46⟩,_⟩,h55⟩=>ah h55.QJk h55.len) λn55=>?_
 rw[ZM,Wj,hsln]at n55;obtain⟨n55,m55⟩:=n55;refine QK (QC I)<|QK (Qi I I)<|QK (Qi I I)<|QK (QF I)<|QK (QF I)<|Qw<|QOo 9 I<|QA (QH I Vv ZF)<|QA (Qu (n:=1) ((0)*3+2) (λF h9=>(Qz.of (n:=1) (sz:=3) h9.1.1.1.2 I)) O rfl ZF I)<|QA (Qb I ZG)<|QOm 4 I<|Jf (ι:=QCS (y.st.n) ((λi=>wdS (Jr z) (Jp (el y.sl i))))) [(2,_),(3,_),(7,_),(8,_),(9,_),(10,_),(11,_),(59,_),(60,_)] (λi=>[(12,i.v),(61,.int .i64 ((i.i:Nat):Int))]) (λi=>i.ob) (λi F=>True) (λi=>(y.st.n)-i.i) (QCS.start _ _) wa wT QNG wy λi=>?_
 simp only[aa,ae];have hi:=i.le;refine wA 6 I ?_;refine QP I (λU=>?_) λU=>?_
 ·have hlt:i.i<y.st.n:=wg<|QOW U
  have hem:=Qy (show i.i<y.sl.length by omega);refine QOn 6 I<|QA (Qs (n:=y.st.n) i.i (λF h9=>h9.1.1.1.1.1.2.st) rfl rfl ZG Xb O)<|QA (J0 (n:=y.st.n) (vs:=[tx (el y.sl i.i).1,tx (el y.sl i.i).2]) ((i.i)*2) (λF h9=>h9.1.1.1.1.1.2.st) O rfl Xb I λj v hv=>JX (f:=D0) (l:=y.sl) Yy O hv)<|Qe Mh λb14=>QV (vs:=[_,_]) I I I Xb I .here .h2 wT<|QMt<|MH (b:=b14) .here<|JO tA mixed wi<|QK (QC I)<|QK (QH I Vu JQ)<|QK (Qu (n:=1) ((0)*2+0) (λF h9=>(Qz.of (n:=1) (sz:=2) h9.2 I)) O rfl JQ I)<|QK (QC I)<|QZ I (λ_ _ f k=>QCu f (hbc _ hem).1 hcw) λ_=>QK (QH I WM JQ)<|QK (Qu (n:=1) ((0)*2+1) (λF h9=>(Qz.of (n:=1) (sz:=2) h9.2 I)) O rfl JQ I)<|QK (QC I)<|QZ I (λ_ _ f k=>QCy f (hbc _ hem).2 hcw) λ_=>QK (XM I xz Mh (wP I I I)) ?_
  refine JK I (Jc ZG) Xb Mh I I (λb75=>?_) (λw h=>h.imp tA λF h=>h.1.1);refine VG (ai (l₁:=[])) ?_;refine V1 (n:=i.i) (k:=1) (sz:=2) (news:=(Ln (wdS (Jr z) (Jp (el y.sl i.i))))) I I ZG Xb Mh I QDW i.hr (Src.row (off:=0) w8 (λj q hq=>by rw[Nat.zero_add];rw[List.getElem?_toArray];exact hq) rfl) O O (QFF _) QNG (λ_ h=>h.1.1.1) (λv76 ob76 hr76=>?_);refine VG (ai (l₂:=[]))<|QK (QF I)<|Qw<|Qf<|QD<|QB<|QA (Qk I I O)<|wB 2 I ?_
  exact Qh (i.next hlt hr76 rfl) (by show y.st.n-(i.i+1)<y.st.n-i.i;omega) wc QNG λF h=>⟨h.1.1.1.1.1,trivial⟩
 have hge:i.i=y.st.n:=by have:=QOX U;have:=i.le;omega
 refine Kc ?_
 repeat first|refine XI ?_|refine XA wm ?_
 refine XJ<|QD<|QG ?_
 obtain⟨⟨rq,rn,rc⟩,hv8,hrn,hrc,hfix⟩:=Q2.fix (w0:=w) (F0:=F) (bs1:=[]) (G:=_) i.hr;refine P5 hfix ?_;dsimp only at hrn hrc hfix;have hrn:rn=y.rt.n:=(hrn.trans hge).trans hstn;subst hrn;rw[hv8,hge.trans hstn];dsimp only[Sr.v];have hI:=hN.QLe hl hrl Y L hn1 hn4 (r:=⟨rq,y.rt.n,rc⟩) I;have hIN:(List.range y.rt.n).map (λi=>wdS (Jr z) (Jp (el y.sl i)))=qm y (Jr z):=by
  unfold qm;exact List.map_congr_left λi hi=>by rw[show el (lV y.sl) i=Jp (el y.sl i)from QDO _ (by rw[hsln];exact List.mem_range.1 hi)]
 have hsS:Fq (n+1) (Jk y.rs (Jp ([48],[48])) (lV y.sl) n) (Jk y.rs (Jp (Q5 (-(Jr z)),z)) (lV (UD (qm y (Jr z)))) n):=by
  rw[QBf,hz0,hI.2.2];have hsg:=hN.sg;exact LU ⟨by show -Jr z<=0;grind,Rat.le_refl,hsg⟩ hI.2.1 n
 refine JO QNG mixed wi<|QK (J0 (n:=1) (vs:=[.slice y.nm.q y.nm.n y.nm.cap,.slice y.rt.q y.rt.n y.rt.cap,.slice y.st.q y.st.n y.st.cap]) ((0)*3) (λF h9=>(Qz.of (n:=1) (sz:=3) h9.1.1.1.1.1.2 rfl)) O rfl H5 rfl λj v hv=>by simpa using hv)<|QK (QC rfl)<|QZ rfl (λ_ _ f k=>QHs f hcw) λ_=>QK (QC rfl)<|QK (XM rfl xz Mh (wP rfl rfl rfl))<|QK (QC rfl)<|QK (QC rfl)<|QZ rfl (λ_ _ f k=>vG (y:=y) (n:=n) (t:=(Q5 (-(Jr z)),z)) (r:=⟨rq,y.rt.n,rc⟩) (l:=UD (qm y (Jr z))) f k.1.1.1.1.1.1.1.1 k.1.1.1.1.1.1.1.2 ht hlw (QKr (c:=rc) k.1.2 hIN).bxa hI.1) λE=>KL _ (λw F hF ⟨⟨⟨⟨⟨⟨⟨⟨⟨hGl,hy⟩,hz3⟩,h46⟩,_⟩,h55⟩,_⟩,hrow⟩,_⟩,h86⟩=>ah h86.QJk h86.len) λn86=>?_
 rw[ZM,Wj,Pz,htl]at n86;obtain⟨n86,m86⟩:=n86;refine QK (QC I)<|QK (Qi I I)<|QK (Qi I I)<|QK (QF I)<|QK (QF I)<|Qw<|QD<|QNz<|QA (QH I G6 Ks)<|QA (Qu (n:=1) ((0)*3+0) (λF h9=>(Qz.of (n:=1) (sz:=3) h9.1.1.1.1.1.1.1.2 I)) O rfl Ks I)<|QA (Qb I Kt) ?_
 rw[hnm];refine QOm 7 I<|QA (QM (v:=.bool false) rfl rfl (rfl))<|wB 4 I<|QA (QM (v:=.bool false) rfl rfl (rfl))<|wB 5 I<|QA (QM (v:=.bool false) rfl rfl (rfl))<|wB 5 I<|QA (Qb I xA)<|wB 3 I<|QA (QM (v:=.bool false) rfl rfl (QDv _))<|wB 5 I<|QA (Qb I UF)<|wB 3 I<|QA (QM (v:=.bool false) rfl rfl (by rw[n55];exact QDv _))<|wB 2 I ?_
 refine wB 3 I<|QA (Qb I UF)<|wB 3 I<|QA (QM (v:=.bool false) rfl rfl (by rw[n86];exact QDv _))<|QOm 3 I<|Zq I<|QOn 9 I<|J2 (ι:=QMr y.rt.n) [(7,_),(8,_),(10,_),(15,_),(17,_)] (λm=>[(18,.int .i64 ((m.i:Nat):Int))]) (λm=>y.rt.n-m.i) (⟨0,aj _⟩) wW wS λm=>?_
 simp only[aa,ae];have hi2:=m.le;refine wA 8 I ?_;refine QP I (λU=>?_) λU=>?_
 ·have K:m.i<y.rt.n:=wg<|QOW U
  have hlA:m.i<(Jk y.rs (Jp ([48],[48])) (lV y.sl) n).length:=by rw[ZM,Wj,hsln];exact K
  have hlB:m.i<(Jk y.rs (Jp (Q5 (-(Jr z)),z)) (lV (UD (qm y (Jr z)))) n).length:=by rw[ZM,Wj,Pz,htl];exact K
  have hllA:=Kf y.rs (Jp ([48],[48])) (lV y.sl) n (i:=m.i) (by rw[Wj,hsln];exact K);have hllB:=Kf y.rs (Jp (Q5 (-Jr z),z)) (lV (UD (qm y (Jr z)))) n (i:=m.i) (by rw[Wj,Pz,htl];exact K);refine XD _ (λw F hF ⟨⟨⟨⟨⟨⟨⟨⟨⟨hGl,hy⟩,hz3⟩,h46⟩,_⟩,h55⟩,_⟩,hrow⟩,_⟩,h86⟩=>ah (h46.at_ m.i K).2 (ah (vC.q (h55.el _ hlA)).len (vC.q (h86.el _ hlB)).len)) (λX=>?_);rw[hllA,hllB]at X;have X:(el c46.2 m.i).n=n+1/\(el c55.2 m.i).n=n+1/\(el E.2 m.i).n=n+1:=⟨X.1,X.2.1.symm,X.2.2.symm⟩;have hrb:BxT (el E.2 m.i) (UD (el (Jk y.rs (Jp (Q5 (-(Jr z)),z)) (lV (UD (qm y (Jr z)))) n) m.i))/\M6 (el E.2 m.i).n (UD (el (Jk y.rs (Jp (Q5 (-(Jr z)),z)) (lV (UD (qm y (Jr z)))) n) m.i))=0:=⟨QEx (F:=F) (by rw[hllB];exact X.2.2.symm) O (λa ha=>(hI.1.sz _ (Qy hlB) a ha).mono wj),QAN (by rw[hllB];exact X.2.2.symm) (hI.1.sz _ (Qy hlB)) (hsS.2 _ hlA).2.QJ6⟩;refine QOn 9 I<|QA (Qs (n:=y.rt.n) (m.i) (λF h9=>h9.1.1.1.1.1.1.2.row) rfl rfl xA US O)<|QA (Qu (n:=y.rt.n) ((m.i)*1) (λF h9=>h9.1.1.1.1.1.1.2.row) O rfl US (X0 (f:=Sr.v) (l:=c46.2) O))<|QA (Qb I D3)<|QMu I<|QA (Qk I I O) ?_
  rw[show((n:Int)+1)=((n+1:Nat):Int)from by omega];refine QA (QM (v:=.bool false) rfl rfl (by rw[X.1];exact QDv _))<|wB 6 I<|QA (Qs (n:=c55.1.n) (m.i) (λF h9=>h9.1.1.1.1.2.row) rfl rfl UF ZF O)<|QJ I I<|QA (Qu (n:=c55.1.n) ((m.i)*1) (λF h9=>h9.1.1.1.1.2.row) O rfl ZF (X0 (f:=Sr.v) (l:=c55.2) O))<|QJ I I<|QA (Qb I ZG)<|wB 3 I<|QA (Qk I I O) ?_
  rw[show((n:Int)+1)=((n+1:Nat):Int)from by omega];refine QJ I I<|QA (QM (v:=.bool false) rfl rfl (by rw[X.2.1];exact QDv _))<|wB 7 I<|QA (Qs (n:=E.1.n) (m.i) (λF h9=>h9.2.row) rfl rfl UF ZF O)<|QJ I I<|QA (Qu (n:=E.1.n) ((m.i)*1) (λF h9=>h9.2.row) O rfl ZF (X0 (f:=Sr.v) (l:=E.2) O))<|QJ I I<|QA (Qb I ZG)<|wB 3 I<|QA (Qk I I O) ?_
  rw[show((n:Int)+1)=((n+1:Nat):Int)from by omega];refine QJ I I<|QA (QM (v:=.bool false) rfl rfl (by rw[X.2.2];exact QDv _))<|wB 7 I<|QA (Qs (n:=y.rt.n) (m.i) (λF h9=>h9.1.1.1.1.1.1.2.row) rfl rfl xA US O)<|QJ I I<|QA (Qu (n:=y.rt.n) ((m.i)*1) (λF h9=>h9.1.1.1.1.1.1.2.row) O rfl US (X0 (f:=Sr.v) (l:=c46.2) O))<|QJ I I<|QL I (λ_ _ f k=>QHr (A:=(Se.IG y.rs y.s0 (m.i+1))) (o:=n) f (k.1.1.1.1.1.1.2.at_ m.i K).1 X.1 hn4 λj hj=>(hN.sys hl hrl Y L hn4).sz (m.i+1) O j hj) λ_=>QJ I I<|QA (QM (v:=.bool false) rfl rfl (rfl))<|wB 7 I<|QA (Qs (n:=E.1.n) (m.i) (λF h9=>h9.1.2.row) rfl rfl UF ZF O)<|QJ I I<|QA (Qu (n:=E.1.n) ((m.i)*1) (λF h9=>h9.1.2.row) O rfl ZF (X0 (f:=Sr.v) (l:=E.2) O))<|QJ I I<|QL I (λ_ _ f k=>QHu (c:=el E.2 m.i) (rs:=el (Jk y.rs (Jp (Q5 (-(Jr z)),z)) (lV (UD (qm y (Jr z)))) n) m.i) f (k.1.2.el _ hlB).bxa hrb.1 hrb.2) λ_=>QJ I I<|QA (QM (v:=.bool false) rfl rfl (rfl))<|QOm 3 I<|Zq I<|QOn 7 I ?_
  refine QQ<|J2 (ι:=QMr (n+1)) [(7,_),(8,_),(10,_),(15,_),(17,_),(18,_),(134,_),(135,_),(136,_),(137,_),(138,_),(139,_),(140,_),(141,_),(144,_),(145,_),(146,_),(147,_),(148,_),(149,_),(150,_),(151,_),(154,_),(155,_),(156,_),(157,_),(158,_),(159,_),(162,_),(163,_),(164,_),(165,_),(166,_),(167,_)] (λH=>[(19,.int .i64 ((H.i:Nat):Int))]) (λH=>n+1-H.i) (⟨0,aj _⟩) ⟨rfl,rfl,rfl,rfl,rfl,rfl,rfl,rfl,rfl,rfl,rfl,rfl,rfl,rfl,rfl,rfl,rfl,rfl,rfl,rfl,rfl,rfl,rfl,rfl,rfl,rfl,rfl,rfl,rfl,rfl,rfl,rfl,rfl,rfl,trivial⟩ wS λH=>?_
  simp only[aa,ae];have hi3:=H.le;refine wA 8 I ?_;refine QP I (λU=>?_) λU=>?_
  ·have hlt3:H.i<=n:=wg<|QOW U
   have hcm:=hN.cmp hl hrl Y L (n:=n) K hlt3;rw[<-hz0]at hcm;have hst:el (Fl (Se.IG y.rs y.s0 (m.i+1)) n) H.i=Q5 ((Se.IG y.rs y.s0 (m.i+1)) H.i):=QHn _ O;have hin:Dy ((Se.IG y.rs y.s0 (m.i+1)) H.i) (el (el (Jk y.rs (Jp (Q5 (-(Jr z)),z)) (lV (UD (qm y (Jr z)))) n) m.i) H.i):=by
    have h1:=QJo ((hsS.2 _ hlA).2.2 H.i O);rw[hcm]at h1;exact h1.1
   refine QOn 5 I<|JO QNG mixed wi<|QK (QC I)<|QK (QC I)<|QK (Qs (n:=c55.1.n) (m.i) (λF h9=>h9.1.1.1.1.1.1.2.row) rfl rfl UF ZF O)<|QK (Qu (n:=c55.1.n) ((m.i)*1) (λF h9=>h9.1.1.1.1.1.1.2.row) O rfl ZF (X0 (f:=Sr.v) (l:=c55.2) O))<|QK (QC I)<|QK (Qs (n:=(el c55.2 (m.i)).n) (H.i) (λF h9=>(vC.q (h9.1.1.1.1.1.1.2.el _ O)).row) rfl rfl ZG Xb O)<|QK (J0 (n:=(el c55.2 (m.i)).n) (vs:=[tx (Q5 (el (el (Jk y.rs (Jp ([48],[48])) (lV y.sl) n) (m.i)) (H.i)).1),tx (Q5 (el (el (Jk y.rs (Jp ([48],[48])) (lV y.sl) n) (m.i)) (H.i)).2)]) ((H.i)*2) (λF h9=>(vC.q (h9.1.1.1.1.1.1.2.el _ O)).row) O rfl Xb I λj v hv=>JX (f:=Ln) (l:=(el (Jk y.rs (Jp ([48],[48])) (lV y.sl) n) (m.i))) xL O hv)<|QK (QC I)<|QK (QC I)<|QK (Qs (n:=y.rt.n) (m.i) (λF h9=>h9.1.1.1.1.1.1.1.1.2.row) rfl rfl xA US O)<|QK (Qu (n:=y.rt.n) ((m.i)*1) (λF h9=>h9.1.1.1.1.1.1.1.1.2.row) O rfl US (X0 (f:=Sr.v) (l:=c46.2) O))<|QK (QC I)<|QK (Qs (n:=(el c46.2 (m.i)).n) (H.i) (λF h9=>(h9.1.1.1.1.1.1.1.1.2.at_ (m.i) O).1) rfl rfl D3 JQ O)<|QK (Qu (n:=(el c46.2 (m.i)).n) ((H.i)*1) (λF h9=>(h9.1.1.1.1.1.1.1.1.2.at_ (m.i) O).1) O rfl JQ (X0 (f:=tx) (l:=Fl (Se.IG y.rs y.s0 (m.i+1)) n) (by rw[Lk];omega)))<|QZ I (λ_ _ f k=>O7 (s:=el (Fl (Se.IG y.rs y.s0 (m.i+1)) n) H.i) f) λ_=>QK (vJ I I (by rw[hcm,hst]) (by rw[hcm,hst]))<|QK (QC I)<|JF I I<|QK (QC I)<|JF I I<|QK (QC I)<|JF I I<|QK (Qs (n:=y.rt.n) (m.i) (λF h9=>h9.1.1.1.1.1.1.1.1.2.row) rfl rfl xA US O)<|JF I I<|QK (Qu (n:=y.rt.n) ((m.i)*1) (λF h9=>h9.1.1.1.1.1.1.1.1.2.row) O rfl US (X0 (f:=Sr.v) (l:=c46.2) O))<|JF I I<|QK (QC I)<|JF I I<|QK (Qs (n:=(el c46.2 (m.i)).n) (H.i) (λF h9=>(h9.1.1.1.1.1.1.1.1.2.at_ (m.i) O).1) rfl rfl D3 JQ O)<|JF I I<|QK (Qu (n:=(el c46.2 (m.i)).n) ((H.i)*1) (λF h9=>(h9.1.1.1.1.1.1.1.1.2.at_ (m.i) O).1) O rfl JQ (X0 (f:=tx) (l:=Fl (Se.IG y.rs y.s0 (m.i+1)) n) (by rw[Lk];omega)))<|JF I I<|QK (QC I)<|JF I I<|QK (QC I) ?_
   refine JF I I<|QK (Qs (n:=E.1.n) (m.i) (λF h9=>h9.1.1.2.row) rfl rfl UF ZF O)<|JF I I<|QK (Qu (n:=E.1.n) ((m.i)*1) (λF h9=>h9.1.1.2.row) O rfl ZF (X0 (f:=Sr.v) (l:=E.2) O))<|JF I I<|QK (QC I)<|JF I I<|QK (Qs (n:=(el E.2 (m.i)).n) (H.i) (λF h9=>(vC.q (h9.1.1.2.el _ O)).row) rfl rfl ZG Xb O)<|JF I I<|QK (J0 (n:=(el E.2 (m.i)).n) (vs:=[tx (Q5 (el (el (Jk y.rs (Jp (Q5 (-(Jr z)),z)) (lV (UD (qm y (Jr z)))) n) (m.i)) (H.i)).1),tx (Q5 (el (el (Jk y.rs (Jp (Q5 (-(Jr z)),z)) (lV (UD (qm y (Jr z)))) n) (m.i)) (H.i)).2)]) ((H.i)*2) (λF h9=>(vC.q (h9.1.1.2.el _ O)).row) O rfl Xb I λj v hv=>JX (f:=Ln) (l:=(el (Jk y.rs (Jp (Q5 (-(Jr z)),z)) (lV (UD (qm y (Jr z)))) n) (m.i))) xL O hv)<|JF I I<|QZ I (λ_ _ f k=>QL5 (x:=(Se.IG y.rs y.s0 (m.i+1)) H.i) (B:=el (el (Jk y.rs (Jp (Q5 (-(Jr z)),z)) (lV (UD (qm y (Jr z)))) n) m.i) H.i) hst f ((hN.sys hl hrl Y L hn4).sz (m.i+1) O H.i O) (hI.1.sz _ (Qy hlB) _ (Qy O)) hin) λ_=>JF I I<|QK (Jw I)<|QK (QS I I I)<|Qw<|QD<|Zq I<|QN<|Qf<|QOo 3 I<|QA (Qk I I O)<|wB 2 I ?_
   exact Qh (⟨H.i+1,O⟩) (by show n+1-(H.i+1)<n+1-H.i;omega) ⟨rfl,rfl,rfl,rfl,rfl,rfl,rfl,rfl,rfl,rfl,rfl,rfl,rfl,rfl,rfl,rfl,rfl,rfl,rfl,rfl,rfl,rfl,rfl,rfl,rfl,rfl,rfl,rfl,rfl,rfl,rfl,rfl,rfl,rfl,rfl,trivial⟩ QNG λF h=>h.1.1
  refine Kc ?_
  repeat first|refine XI ?_|refine XA wm ?_
  refine XJ<|Qf<|QOo 3 I<|QA (Qk I I O)<|wB 2 I ?_
  exact Qh (⟨m.i+1,K⟩) (by show y.rt.n-(m.i+1)<y.rt.n-m.i;omega) wX QNG λF h=>h.1.1
 refine Kc ?_
 repeat first|refine XI ?_|refine XA wm ?_
 refine XJ<|QD<|QNz<|QL I (λ_ _ f k=>QAO f k.1.1.1.1.1.1.1.1.1) λ_=>wQ I<|QW ?_
 exact QO2 I I (rfl) wy
end Go.Proofs.YtogkbhegfnklhaaGreatDoor
