/- Steps of the proof of the theorem in the last file. -/
import Derived.Test.YtphlgddkpboamaaGreatDoorE1XCD
set_option linter.all false
set_option maxHeartbeats 4000000
open Go.Proofs.Tryz
open Go.Value renaming bool -> aa
open Int renaming toNat_of_nonneg -> ae
open List renaming length_replicate -> af,getElem_of_mem -> ah,length_set -> ak,getElem_map -> aq,length_map -> ar,replicate -> au,append_assoc -> ay,ext_getElem -> aA,cons_append -> aB,map_append -> aC,map_cons -> aE,Sublist -> aF
open List.Perm renaming of_eq -> ai
open Bool renaming and_eq_true -> aj
open Nat renaming zero_le -> ao,le_refl -> aG
open List.Sublist renaming refl -> ax
open And renaming intro -> aD
namespace Go.Proofs.YtphlgddkpboamaaGreatDoor
variable{m:Mt}{w:World}{F:Gs}
open Go.RowKit Ig
def Xc4{sh:Int}{u:Xi}(h:G3 sh u)(hi:H8 u=true):u.fl.length=2:=by
 have h1:=h.shp;have h2:u.kd=WA:=by unfold H8 at hi;simpa using hi
 unfold PC at h1;rw[if_pos h2]at h1;simp at h1;exact h1.1
def Xd6(m:Mt)(i:Nat):Prop:=el m.ll i=0/\(H8 (el m.p.ul i)=true->¬Rch m.p.ul (el (el m.p.ul i).fl 0).k (el m.p.ul i).ou/\∀t,Rch m.p.ul (el (el m.p.ul i).fl 1).k t->dA m.p.ul t=false)
def Xc7(m:Mt):Prop:=(∀j,j<m.fl.length->(el m.fl j).lost=0)/\∀j,j<m.p.ul.length->Xd6 m j
structure Xa6(n:Nat)(P:Nat->Prop) where
 i:Nat
 le:i<=n
 h:∀j,j<i->P j
def Xa6.start(n:Nat)(P:Nat->Prop):Xa6 n P:=⟨0,ao _,λj h=>by cases h⟩
def Xa6.next{n:Nat}{P:Nat->Prop}(s:Xa6 n P)(h:s.i<n)(e:P s.i):Xa6 n P:=⟨s.i+1,h,λj hj=>by
 rcases Nat.lt_succ_iff_lt_or_eq.1 hj with h1 | rfl
 ·exact s.h j h1
 exact e⟩
def Xa3(h:WV m=0):(m.sl.length:Int)=m.p.sh/\(m.fl.length:Int)=m.p.sh/\m.ll.length=m.p.ul.length:=by
 unfold WV at h;split at h
 ·contradiction
 split at h
 ·cases h
 rename_i g;exact Classical.not_not.1 g
theorem Xbi(hF:Fits F w)(hM:BB F m)(hL:QH0 m)(h0:WV m=0):QS prog 14 [m.v] w F (λc:Bool=>.bool c) (λc F=>c=true↔Xc7 m):=by
 have Ax:=hM.p.Mf;have hfl:=hM.E9;have hll:=hM.QBj;have hun:=hL.p.un;have hV:=RE.of (Xa5 h0);have hsh:=hV.sh;have hlen:=Xa3 h0;refine QS.go (G:=λF=>BB F m) func14 hF hM ?_;refine QLF<|Q9 I (vs:=[_,_,_,_,_,_,_,_]) I λb1=>QMW 5 I<|JN (b:=b1) .here<|QMX 5 I<|Jt (ι:=Xa6 m.fl.length λj=>(el m.fl j).lost=0) [(1,_)] (λi=>[(3,.int .i64 ((i.i:Nat):Int))]) (λi=>m.fl.length-i.i) (Xa6.start _ _) wT wT λi=>?_
 have hi:=i.le;refine wA 4 I<|QA (QH I Ks ZL)<|QA (QH I K9 QY)<|QA (Ql (n:=1) ((0)*8+0) (λF h9=>(JC.of (n:=1) (sz:=8) h9.2 I)) O rfl QY I)<|QMW 3 I ?_
 refine QO I (λhc2=>?_) λhc2=>?_
 ·have hlt:i.i<m.fl.length:=wi<|QLr hc2
  refine QMX 6 I<|QA (QH I UR MS)<|QA (Ql (n:=1) ((0)*8+6) (λF h9=>(JC.of (n:=1) (sz:=8) h9.2 I)) O rfl MS I)<|QJm I<|QA (Qo (n:=m.fa.n) i.i (λF h9=>h9.1.fa) rfl rfl IN IM O)<|QA (QH I xH QY)<|QA (Ql (n:=m.fa.n) ((i.i)*3+0) (λF h9=>h9.1.fa) O rfl QY (JR (f:=pyC) (l:=m.fl) AA O rfl))<|QMW 3 I ?_
  refine QO I (λhc2=>?_) λhc2=>?_
  ·have hq:(el m.fl i.i).lost≠0:=bne_iff_ne.1 hc2;refine wA 5 I<|ZS ?_
   exact QM (false) rfl (wO rfl) (rfl) λF h9=>⟨λh=>(by cases h),λh=>absurd (h.1 i.i hlt) hq⟩
  have hq:(el m.fl i.i).lost=0:=bne_eq_false_iff_eq.1 hc2;refine QN<|Qg<|QMY 3 I<|QA (Qn I I O)<|wB 2 I ?_
  exact Qj (i.next hlt hq) (by show m.fl.length-(i.i+1)<m.fl.length-i.i;omega) wU QKK w7
 have hge:m.fl.length<=i.i:=wi<|QLs hc2
 refine JK ?_;refine wA 7 I<|Jt (ι:=Xa6 m.p.ul.length (Xd6 m)) [(1,_)] (λi2=>[(4,.int .i64 ((i2.i:Nat):Int))]) (λi2=>m.p.ul.length-i2.i) (Xa6.start _ _) wT wT λi2=>?_
 have hi2:=i2.le;refine wA 4 I<|QA (QH I Ks ZL)<|QA (QH I XP Jf)<|QA (Ql (n:=1) ((0)*8+1) (λF h9=>(JC.of (n:=1) (sz:=8) h9.2 I)) O rfl Jf I)<|QA (Qc I Xk)<|QMW 3 I ?_
 refine QO I (λhc2=>?_) λhc2=>?_
 ·have hlt2:i2.i<m.p.ul.length:=wi<|QLr hc2
  have hum:=Q2 hlt2;have hfn:=(hM.p.us _ hum).E9;have hou:=(hV.us _ hum).ou;refine QMX 6 I<|QA (QH I Ks ZL)<|QA (QH I XP Jf)<|QA (Ql (n:=1) ((0)*8+1) (λF h9=>(JC.of (n:=1) (sz:=8) h9.2 I)) O rfl Jf I)<|QJm I<|QA (Qo (n:=m.p.un.n) (i2.i) (λF h9=>h9.1.p.un) rfl rfl Xk XJ O)<|QA (XE (n:=m.p.un.n) (vs:=[tx (el m.p.ul (i2.i)).kd,.slice (el m.p.ul (i2.i)).fd.q (el m.p.ul (i2.i)).fd.n (el m.p.ul (i2.i)).fd.cap,Qs ((el m.p.ul (i2.i)).ou),tx (el m.p.ul (i2.i)).st,.slice (el m.p.ul (i2.i)).cv.q (el m.p.ul (i2.i)).cv.n (el m.p.ul (i2.i)).cv.cap]) ((i2.i)*5) (λF h9=>h9.1.p.un) O rfl XJ I λj v hv=>JR (f:=MR) (l:=m.p.ul) ZI O hv)<|Qk TM λb5=>QV (vs:=[_,_,_,_,_]) I I I XJ I .here .h5 wX<|QMW 4 I<|JN (b:=b5) .here<|QB<|QA (QH I DO Qu)<|QA (Ql (n:=1) ((0)*8+7) (λF h9=>(JC.of (n:=1) (sz:=8) h9.1.2 I)) O rfl Qu I)<|QJm I<|QA (Qo (n:=m.lg.n) (i2.i) (λF h9=>h9.1.1.lg) rfl rfl Qd QY O)<|QA (Ql (n:=m.lg.n) ((i2.i)*1) (λF h9=>h9.1.1.lg) O rfl QY (Jo (f:=Qs) (l:=m.ll) O))<|QMW 3 I ?_
  refine QO I (λhc2=>?_) λhc2=>?_
  ·have hq:el m.ll i2.i≠0:=bne_iff_ne.1 hc2;refine wA 5 I<|ZS ?_
   exact QM (false) rfl (wO rfl) (rfl) λF h9=>⟨λh=>(by cases h),λh=>absurd (h.2 i2.i hlt2).1 hq⟩
  have hq:el m.ll i2.i=0:=bne_eq_false_iff_eq.1 hc2;refine QMX 5 I<|QA (XE (n:=1) (vs:=[tx (el m.p.ul (i2.i)).kd,.slice (el m.p.ul (i2.i)).fd.q (el m.p.ul (i2.i)).fd.n (el m.p.ul (i2.i)).fd.cap,Qs ((el m.p.ul (i2.i)).ou),tx (el m.p.ul (i2.i)).st,.slice (el m.p.ul (i2.i)).cv.q (el m.p.ul (i2.i)).cv.n (el m.p.ul (i2.i)).cv.cap]) ((0)*5) (λF h9=>(JC.of (n:=1) (sz:=5) h9.2 I)) O rfl XJ I λj v hv=>by simpa using hv)<|QL I (λ_ _ f k=>yF f) λ_=>QA (Xv I)<|QF<|QD ?_
  refine QO I (λhc2=>?_) λhc2=>?_
  ·have hni:H8 (el m.p.ul i2.i)=false:=by simpa using hc2
   refine JK ?_;refine wA 2 I<|QA (Qn I I O)<|wB 2 I ?_
   exact Qj (i2.next hlt2 ⟨hq,λh=>by rw[hni]at h;cases h⟩) (by show m.p.ul.length-(i2.i+1)<m.p.ul.length-i2.i;omega) wU QKK λF h=>h.1.1
  have hii:H8 (el m.p.ul i2.i)=true:=by simpa using hc2
  have hf2:=Xc4 (hV.us _ hum) hii;refine QMX 4 I<|JE QKK mixed wj<|QJ (QH rfl Ks ZL)<|QJ (XE (n:=1) (vs:=[Qs m.p.sh,.slice m.p.un.q m.p.un.n m.p.un.cap,.slice m.p.ot.q m.p.ot.n m.p.ot.cap]) ((0)*8) (λF h9=>(JC.of (n:=1) (sz:=8) h9.1.1.2 rfl)) O rfl ZL rfl λj v hv=>by match j,hv with | 0,h=>exact h | 1,h=>exact h | 2,h=>exact h | _+3,h=>cases h)<|QJ (QH rfl Zz Xd)<|QJ (Ql (n:=1) ((0)*5+1) (λF h9=>(JC.of (n:=1) (sz:=5) h9.1.2 rfl)) O rfl Xd rfl)<|QJ (Qo (n:=(el m.p.ul (i2.i)).fd.n) (0) (λF h9=>((h9.1.1.1.p.us _ (Q2 (show i2.i<m.p.ul.length from O)))).fd) rfl wN YV Kf O)<|QJ (QH rfl GQ QY)<|QJ (Ql (n:=(el m.p.ul (i2.i)).fd.n) ((0)*2+0) (λF h9=>((h9.1.1.1.p.us _ (Q2 (show i2.i<m.p.ul.length from O)))).fd) O rfl QY (JR (f:=Uj) (l:=(el m.p.ul (i2.i)).fl) YT O rfl))<|QZ rfl (λ_ _ f k=>Xat f k.1.1.1.p hun hV ((hV.us _ hum).fd _ (Q2 (show 0<(el m.p.ul i2.i).fl.length by omega))).1) λc53=>Gm _ (λw F hF ⟨⟨⟨⟨hM,hz1⟩,hz5⟩,_⟩,h⟩=>aD h.2.1 h.2.2.2) λn53=>QJ (QH rfl Yf QY)<|QJ (Ql (n:=1) ((0)*5+2) (λF h9=>(JC.of (n:=1) (sz:=5) h9.1.2 rfl)) O rfl QY rfl)<|QZ rfl (λ_ _ f k=>Xb7 f k.2.1 n53.1.symm (wi n53.2.2.len)) λ_=>Qy<|QD ?_
  refine QO I (λhc2=>?_) λhc2=>?_
  ·have hin:=(n53.2.1 _).1 (QLr hc2);refine wA 5 I<|ZS ?_
   exact QM (false) rfl (wO rfl) (rfl) λF h9=>⟨λh=>(by cases h),λh=>absurd hin ((h.2 i2.i hlt2).2 hii).1⟩
  have hno:¬Rch m.p.ul (el (el m.p.ul i2.i).fl 0).k (el m.p.ul i2.i).ou:=λh=>QLs hc2 ((n53.2.1 _).2 h);refine QMX 3 I<|JE QKK mixed wj<|QJ (QH rfl Ks ZL)<|QJ (XE (n:=1) (vs:=[Qs m.p.sh,.slice m.p.un.q m.p.un.n m.p.un.cap,.slice m.p.ot.q m.p.ot.n m.p.ot.cap]) ((0)*8) (λF h9=>(JC.of (n:=1) (sz:=8) h9.1.1.1.1.2 rfl)) O rfl ZL rfl λj v hv=>by match j,hv with | 0,h=>exact h | 1,h=>exact h | 2,h=>exact h | _+3,h=>cases h)<|QJ (QH rfl Zz Xd)<|QJ (Ql (n:=1) ((0)*5+1) (λF h9=>(JC.of (n:=1) (sz:=5) h9.1.1.1.2 rfl)) O rfl Xd rfl)<|QJ (Qo (n:=(el m.p.ul (i2.i)).fd.n) (1) (λF h9=>((h9.1.1.1.1.1.p.us _ (Q2 (show i2.i<m.p.ul.length from O)))).fd) rfl wN YV Kf O)<|QJ (QH rfl GQ QY)<|QJ (Ql (n:=(el m.p.ul (i2.i)).fd.n) ((1)*2+0) (λF h9=>((h9.1.1.1.1.1.p.us _ (Q2 (show i2.i<m.p.ul.length from O)))).fd) O rfl QY (JR (f:=Uj) (l:=(el m.p.ul (i2.i)).fl) YT O rfl))<|QZ rfl (λ_ _ f k=>Xat f k.1.1.1.1.1.p hun hV ((hV.us _ hum).fd _ (Q2 (show 1<(el m.p.ul i2.i).fl.length by omega))).1) λc64=>Gm _ (λw F hF ⟨⟨⟨⟨⟨⟨hM,hz1⟩,hz5⟩,_⟩,h53⟩,_⟩,h⟩=>aD h.2.1 h.2.2.2) λn64=>QJ (QE rfl)<|Qy<|QD<|QLF<|wR rfl<|QQ<|Jt (ι:=Xa6 c64.2.length λj=>dA m.p.ul (el c64.2 j)=false) [(1,_),(4,_),(6,_)] (λk=>[(7,.int .i64 ((k.i:Nat):Int))]) (λk=>c64.2.length-k.i) (Xa6.start _ _) wV wT λk=>?_
  have hki:=k.le;refine wA 5 I<|QA (Qc I Qd)<|QMW 3 I ?_
  refine QO I (λhc2=>?_) λhc2=>?_
  ·have hlk:k.i<c64.2.length:=wi<|QLr hc2
   have hlen64:=n64.2.2.len;refine QMX 5 I<|JE QKK mixed wj<|QJ (QH rfl Ks ZL)<|QJ (XE (n:=1) (vs:=[Qs m.p.sh,.slice m.p.un.q m.p.un.n m.p.un.cap,.slice m.p.ot.q m.p.ot.n m.p.ot.cap]) ((0)*8) (λF h9=>(JC.of (n:=1) (sz:=8) h9.1.1.1.1.1.2 rfl)) O rfl ZL rfl λj v hv=>by match j,hv with | 0,h=>exact h | 1,h=>exact h | 2,h=>exact h | _+3,h=>cases h)<|QJ (QC rfl)<|QJ (QC rfl)<|QJ (Qo (n:=c64.1.n) (k.i) (λF h9=>h9.2.1) rfl rfl Qd QY O)<|QJ (Ql (n:=c64.1.n) ((k.i)*1) (λF h9=>h9.2.1) O rfl QY (Jo (f:=Qs) (l:=c64.2) O))<|QZ rfl (λ_ _ f k=>qK f k.1.1.1.1.1.1.p O) λ_=>QJ (QE rfl)<|Qy<|QD<|wS rfl<|QA (QP rfl rfl rfl)<|QJm rfl ?_
   refine Qa (t:=80) rfl (λhb80=>?_) λhb80=>?_
   ·have hd0:0<=(Va m.p.ul (el c64.2 k.i)):=QLr hb80;have hdl:=xK m.p.ul (el c64.2 k.i);have hdr:dA m.p.ul (el c64.2 k.i)=H8 (el m.p.ul (Va m.p.ul (el c64.2 k.i)).toNat):=by unfold dA;rw[decide_eq_false O];rfl
    refine QK I I<|QA (QH I Ks ZL)<|QK I I<|QA (QH I XP Jf)<|QK I I<|QA (Ql (n:=1) ((0)*8+1) (λF h9=>(JC.of (n:=1) (sz:=8) h9.1.1.1.1.1.1.2 I)) O rfl Jf I)<|wB 3 I<|QA (Qo (n:=m.p.un.n) ((Va m.p.ul (el c64.2 k.i)).toNat) (λF h9=>h9.1.1.1.1.1.1.1.p.un) rfl wN Xk XJ O)<|QK I I<|QA (XE (n:=m.p.un.n) (vs:=[tx (el m.p.ul ((Va m.p.ul (el c64.2 k.i)).toNat)).kd,.slice (el m.p.ul ((Va m.p.ul (el c64.2 k.i)).toNat)).fd.q (el m.p.ul ((Va m.p.ul (el c64.2 k.i)).toNat)).fd.n (el m.p.ul ((Va m.p.ul (el c64.2 k.i)).toNat)).fd.cap,Qs ((el m.p.ul ((Va m.p.ul (el c64.2 k.i)).toNat)).ou),tx (el m.p.ul ((Va m.p.ul (el c64.2 k.i)).toNat)).st,.slice (el m.p.ul ((Va m.p.ul (el c64.2 k.i)).toNat)).cv.q (el m.p.ul ((Va m.p.ul (el c64.2 k.i)).toNat)).cv.n (el m.p.ul ((Va m.p.ul (el c64.2 k.i)).toNat)).cv.cap]) (((Va m.p.ul (el c64.2 k.i)).toNat)*5) (λF h9=>h9.1.1.1.1.1.1.1.p.un) O rfl XJ I λj v hv=>JR (f:=MR) (l:=m.p.ul) ZI O hv)<|QK I I<|QL I (λ_ _ f k=>yF f) λ_=>QMW 3 I ?_
    refine QO I (λhc2=>?_) λhc2=>?_
    ·have hdt:dA m.p.ul (el c64.2 k.i)=true:=by rw[hdr];exact hc2
     refine wA 5 I<|ZS ?_
     exact QM (false) rfl (wO rfl) (rfl) λF h9=>⟨λh=>(by cases h),λh=>by have:=((h.2 i2.i hlt2).2 hii).2 _ ((n64.2.1 _).1 (Q2 hlk));rw[hdt]at this;cases this⟩
    have hdf:dA m.p.ul (el c64.2 k.i)=false:=by
     first
     |exact hdr
     |(rw[hdr];exact hc2)
    refine QN<|Qg<|QMY 3 I<|QA (Qn I I O)<|wB 2 I ?_
    exact Qj (k.next hlk hdf) (by show c64.2.length-(k.i+1)<c64.2.length-k.i;omega) wW QKK λF h=>h.1.1
   have hdr:dA m.p.ul (el c64.2 k.i)=false:=by unfold dA;rw[decide_eq_true (wi<|QLs hb80)];rfl
   refine QMW 10 I<|Zg I<|QN<|Qg<|QMY 3 I<|QA (Qn I I O)<|wB 2 I ?_
   exact Qj (k.next hlk hdr) (by show c64.2.length-(k.i+1)<c64.2.length-k.i;omega) wW QKK w8
  have hgk:c64.2.length<=k.i:=wi<|QLs hc2
  refine JK ?_;refine wA 2 I<|QA (Qn I I O)<|wB 2 I ?_
  exact Qj (i2.next hlt2 ⟨hq,λ_=>⟨hno,λt ht=>by
   obtain⟨j,hj,rfl⟩:=ah ((n64.2.1 t).2 ht);have:=k.h j O
   rwa [ZH hj]at this⟩⟩) (by show m.p.ul.length-(i2.i+1)<m.p.ul.length-i2.i;omega) wU QKK λF h=>h.1.1.1.1.1
 have hge2:m.p.ul.length<=i2.i:=wi<|QLs hc2
 refine JK ?_;refine wA 6 I ?_;exact QM (true) rfl (wO I) (rfl) λF h9=>⟨λ_=>⟨λj hj=>i.h j O,λj hj=>i2.h j O⟩,λ_=>rfl⟩
structure RB where
 b:Nat
 l:List Bool
variable{rl:List RB}
instance :Inhabited RB:=⟨⟨0,[]⟩⟩
def rbO(l:List Bool):Obj:=.cells (l.map aa++[]).toArray 4 (0,0)
def rbB(r:RB):Nat×Obj:=(r.b,rbO r.l)
def rbV(n:Nat)(r:RB):Value:=.slice (some ⟨r.b,0,none⟩) n n
def Xa1(rl:List RB)(i:Nat)(l:List Bool):List RB:=rl.set i ⟨(el rl i).b,l⟩
section
variable{rl:List RB}{i j:Nat}{l:List Bool}
def Xbj(hi:i<rl.length):rl=rl.take i++el rl i::rl.drop (i+1):=by rw[<-Gj hi,List.take_append_drop]
def Xd1(hi:i<rl.length)(bs:List (Nat×Obj)):Own (rl.map rbB++bs) (el rl i).b (rbO (el rl i).l) (λo'=>(rl.take i).map rbB++((el rl i).b,o')::((rl.drop (i+1)).map rbB++bs)):=by
 have e:rl.map rbB++bs=(rl.take i).map rbB++rbB (el rl i)::((rl.drop (i+1)).map rbB++bs):=by
  conv=>lhs;rw[Xbj hi]
  rw[aC,aE,ay,aB]
 rw[e];exact Own.skip .here _
def Xa2(hi:i<rl.length)(l:List Bool)(bs:List (Nat×Obj)):(rl.take i).map rbB++((el rl i).b,rbO l)::((rl.drop (i+1)).map rbB++bs)=(Xa1 rl i l).map rbB++bs:=by
 unfold Xa1;rw[List.set_eq_take_append_cons_drop,if_pos hi,aC,aE,ay,aB];rfl
def Xai(rl:List RB)(i:Nat)(l:List Bool):(Xa1 rl i l).length=rl.length:=ak ..
def Xa7(hi:i<rl.length)(l:List Bool)(j:Nat):el (Xa1 rl i l) j=if j=i then⟨(el rl i).b,l⟩else el rl j:=Aa hi
def Xcc(hi:i<rl.length)(l:List Bool)(j:Nat):(el (Xa1 rl i l) j).b=(el rl j).b:=by
 rw[Xa7 hi];split
 ·subst j;rfl
 rfl
def Xay(hi:i<rl.length):Xa1 rl i (el rl i).l=rl:=by
 unfold Xa1;rw[ZH hi];exact List.set_getElem_self hi
def Xa8(hi:i<rl.length)(l:List Bool)(bs:List (Nat×Obj)):Own ((Xa1 rl i l).map rbB++bs) (el rl i).b (rbO l) (λo'=>(rl.take i).map rbB++((el rl i).b,o')::((rl.drop (i+1)).map rbB++bs)):=by
 rw[<-Xa2 hi];exact Own.skip .here _
def Xcd(hi:i<rl.length)(hj:j<rl.length)(hne:j≠i)(l:List Bool)(bs:List (Nat×Obj)):∃f,Own ((Xa1 rl i l).map rbB++bs) (el rl j).b (rbO (el rl j).l) f:=by
 have:=Xd1 (rl:=Xa1 rl i l) (i:=j) (by rw[Xai];exact hj) bs;rw[Xa7 hi,if_neg hne]at this;exact⟨_,this⟩
end
def St.Xax{w0:World}{F0:Gs}{bs:List (Nat×Obj)}:∀ {l:List RB} {G:Gs->Prop},St ⟨w0,F0,l.map rbB++bs,G⟩ w->St ⟨w0,F0,bs,λF=>G F/\∀r∈l,F r.b=some ((r.l.map aa++[]).toArray,4)⟩ w
 |[],_,h=>h.TO λF h=>⟨h,λ_ h=>by cases h⟩
 |r::l,G,h=>by
  have h1:=St.freeze (w0:=w0) (F0:=F0) [] (post:=l.map rbB++bs) (b:=r.b) h;have h2:=St.Xax (l:=l) h1;exact h2.TO λF h=>⟨h.1.1,λx hx=>by
   rcases List.mem_cons.1 hx with rfl | hx
   ·exact h.1.2
   exact h.2 x hx⟩
def Mk(p:YB)(k:Nat)(s t:Int):Prop:=(Dn p k s/\Rch p.ul s t)\/(¬Dn p k s/\s=t)
def Xb8{us:List Xi}{s t:Int}(h:Xa0 us s=[]):Rch us s t↔s=t:=by
 refine⟨λr=>?_,λe=>e ▸ .refl _⟩;cases r with
 |refl=>rfl
 |step hf _=>rw[h]at hf;cases hf
def Xca{us:List Xi}{s t:Int}:Rch us s t↔s=t\/∃f∈Xa0 us s,Rch us f.k t:=by
 refine⟨λr=>?_,λe=>?_⟩
 ·cases r with
  |refl=>exact .inl rfl
  |step hf h=>exact .inr ⟨_,hf,h⟩
 rcases e with rfl | ⟨f,h1,h2⟩
 ·exact .refl _
 exact .step h1 h2
def Mk.start{p:YB}{s t:Int}:Mk p 0 s t↔s=t:=by
 unfold Mk;by_cases h:Dn p 0 s
 ·have hd:Va p.ul s<0:=h.elim id λg=>by simp at g
  have:=Xb8 (us:=p.ul) (s:=s) (t:=t) (by unfold Xa0;exact if_pos (.inl hd));simp[h,this]
 simp[h]
section
variable{p:YB}(hV:RE p){k:Nat}(hk:k<p.ul.length){s t:Int}
include hV hk
theorem Xb6:Xa0 p.ul (oU p k).ou=if H8 (oU p k)=true then[]else(oU p k).fl:=by
 obtain⟨i,h1,_,h3,_⟩:=hV.unit hk;unfold Xa0;rw[h3,hV.Va h1,show((i:Nat):Int).toNat=i from rfl];by_cases h:H8 (el p.ul i)=true
 ·rw[if_pos (.inr h),if_pos h]
 rw[if_neg (by simp[h]),if_neg h]
theorem Xct(hs:s≠(oU p k).ou):Dn p (k+1) s↔Dn p k s:=⟨λh=>(hV.next hk h).elim id λe=>absurd e hs,Dn.mono⟩
theorem Xd5:Dn p (k+1) (oU p k).ou:=by
 obtain⟨i,h1,h2,h3,_⟩:=hV.unit hk;refine .inr ?_;rw[h3,hV.Va h1,ZB (wi hV.ord),h2];simp
theorem Xcx(hs:s≠(oU p k).ou):Mk p (k+1) s t↔Mk p k s t:=by
 have:=Xct hV hk hs;unfold Mk;rw[this]
theorem Xc8:Mk p (k+1) (oU p k).ou t↔Rch p.ul (oU p k).ou t:=by
 have:=Xd5 hV hk;unfold Mk;simp[this]
theorem Xc9:Mk p k (oU p k).ou t↔(oU p k).ou=t:=by
 have:=hV.QKU hk;unfold Mk;simp[this]
theorem Xd7(hi:H8 (oU p k)=true):Mk p (k+1) s t↔Mk p k s t:=by
 by_cases h:s=(oU p k).ou
 ·subst h;rw[Xc8 hV hk,Xc9 hV hk,Xb8 (by rw[Xb6 hV hk,if_pos hi])]
 exact Xcx hV hk h
theorem Xcy(hi:H8 (oU p k)=false){f:Lf}(hf:f∈(oU p k).fl):Dn p k f.k:=hV.fdD hk (by
 have:(oU p k).kd≠WA:=by unfold H8 at hi;simpa using hi
 unfold K6;rw[if_neg this];exact hf)
theorem Xdb(hi:H8 (oU p k)=false):Mk p (k+1) (oU p k).ou t↔(Mk p k (oU p k).ou t\/∃f∈(oU p k).fl,Mk p k f.k t):=by
 rw[Xc8 hV hk,Xc9 hV hk,Xca,Xb6 hV hk,if_neg (by simp[hi])];have key:∀f∈(oU p k).fl,(Mk p k f.k t↔Rch p.ul f.k t):=λf hf=>by
  have:=Xcy hV hk hi hf;unfold Mk;simp[this]
 constructor
 ·rintro(h | ⟨f,h1,h2⟩)
  ·exact .inl h
  exact .inr ⟨f,h1,(key f h1).2 h2⟩
 rintro(h | ⟨f,h1,h2⟩)
 ·exact .inl h
 exact .inr ⟨f,h1,(key f h1).1 h2⟩
end
structure Xas(p:YB)(k:Nat)(rl:List RB):Prop where
 len:rl.length=p.sh.toNat
 ln:∀s,s<p.sh.toNat->(el rl s).l.length=p.sh.toNat
 at_:∀s t:Nat,s<p.sh.toNat->t<p.sh.toNat->(el (el rl s).l t=true↔Mk p k (s:Int) (t:Int))
structure HnJ(p:YB)(bl:List RB) where
 k:Nat
 rl:List RB
 le:k<=p.ul.length
 ok:Xas p k rl
 hb:∀s,(el rl s).b=(el bl s).b
structure HnF(p:YB)(k:Nat) where
 j:Nat
 l:List Bool
 le:j<=(oU p k).fl.length
 hl:l.length=p.sh.toNat
 h:∀t:Nat,t<p.sh.toNat->(el l t=true↔(Mk p k (oU p k).ou (t:Int)\/∃f∈(oU p k).fl.take j,Mk p k f.k (t:Int)))
structure HnX(p:YB)(k j:Nat)(s:Int) where
 x:Nat
 l:List Bool
 le:x<=p.sh.toNat
 hl:l.length=p.sh.toNat
 h:∀t:Nat,t<p.sh.toNat->(el l t=true↔((Mk p k (oU p k).ou (t:Int)\/∃f∈(oU p k).fl.take j,Mk p k f.k (t:Int))\/(t<x/\Mk p k s (t:Int))))
def HnX.next{p:YB}{k j:Nat}{s:Int}(q:HnX p k j s)(hx:q.x<p.sh.toNat)(v:Bool)(hv:v=true↔(el q.l q.x=true\/Mk p k s (q.x:Int))):HnX p k j s where
 x:=q.x+1
 l:=q.l.set q.x v
 le:=hx
 hl:=by rw[ak];exact q.hl
 h t ht:=by
  rw[Aa (by rw[q.hl];exact hx)];split
  ·rename_i e;subst e;rw[hv,q.h _ hx];constructor
   ·rintro((h | h) | h)
    ·exact .inl h
    ·exact absurd h.1 (Nat.lt_irrefl _)
    exact .inr ⟨Nat.lt_succ_self _,h⟩
   rintro(h | h)
   ·exact .inl (.inl h)
   exact .inr h.2
  rename_i e;rw[q.h t ht];have:t<q.x↔t<q.x+1:=O;rw[this]
def HnJ.int{p:YB}{k:Nat}(hV:RE p)(hk:k<p.ul.length)(hi:H8 (oU p k)=true)(h:Xas p k rl):Xas p (k+1) rl :=
 ⟨h.len,h.ln,λs t hs ht=>(h.at_ s t hs ht).trans (Xd7 hV hk hi).symm⟩
def HnJ.fold{p:YB}{k:Nat}(hV:RE p)(hk:k<p.ul.length)(hi:H8 (oU p k)=false)(h:Xas p k rl)(q:HnF p k)(hq:(oU p k).fl.length<=q.j):Xas p (k+1) (Xa1 rl (oU p k).ou.toNat q.l):=by
 have ho:=(hV.ok hk).ou;have hol:(oU p k).ou.toNat<rl.length:=by rw[h.len];omega
 refine⟨by rw[Xai,h.len],λs hs=>?_,λs t hs ht=>?_⟩
 ·rw[Xa7 hol];split
  ·exact q.hl
  exact h.ln s hs
 rw[Xa7 hol];split
 ·rename_i e;rw[show((s:Nat):Int)=(oU p k).ou by omega,Xdb hV hk hi];have:=q.h t ht
  rwa [List.take_of_length_le hq]at this
 rename_i e;rw[h.at_ s t hs ht,Xcx hV hk O]
structure HmJ(n:Nat) where
 i:Nat
 rl:List RB
 vs:List Value
 le:i<=n
 len:rl.length=i
 vl:vs.length=n
 at_:∀j,j<i->el vs j=rbV n (el rl j)
 id:∀j,j<i->(el rl j).l=(au n false).set j true
def HmJ.mat{p:YB}{q:HmJ p.sh.toNat}(h:p.sh.toNat<=q.i):Xas p 0 q.rl:=by
 have hq:=q.le;refine⟨by rw[q.len];omega,λs hs=>by rw[q.id s O,ak,af],λs t hs ht=>?_⟩;rw[q.id s O,Aa (by rw[af];exact hs),Mk.start];split
 ·rename_i e;subst e;simp
 rename_i e;rw[ZH (by rw[af];exact ht),List.getElem_replicate];simp;omega
def HmJ.Xdc{n:Nat}{q:HmJ n}(h:n<=q.i):q.vs=q.rl.map (rbV n):=by
 have hq:=q.le;refine aA (by rw[q.vl,ar,q.len];omega) λj h1 h2=>?_;have:=q.at_ j (by rw[q.vl]at h1;omega);rw[ZH h1]at this;rw[this,aq,ZH]
def Xbk{l:List Value}{i:Nat}(hi:i<l.length)(v:Value):Yz l (0+i*1) [v] (l.set i v):=by
 have:=Wl (f:=λx:Value=>x) (rest:=[]) hi v;simpa using this
def Xcb{n:Nat}{a b:List RB}(hl:a.length=b.length)(h:∀s,(el a s).b=(el b s).b):a.map (rbV n)=b.map (rbV n):=by
 refine aA (by simp[hl]) λj h1 h2=>?_;have:=h j;simp only[ar]at h1 h2;rw[ZH h1,ZH h2]at this;rw[aq,aq];unfold rbV;rw[this]
def HmJ.next{n:Nat}(q:HmJ n)(b:Nat)(h:q.i<n):HmJ n where
 i:=q.i+1
 rl:=q.rl++[⟨b,(au n false).set q.i true⟩]
 vs:=q.vs.set q.i (.slice (some ⟨b,0,none⟩) n n)
 le:=h
 len:=by rw[List.length_append,q.len];rfl
 vl:=by rw[ak];exact q.vl
 at_ j hj:=by
  rw[Aa (by rw[q.vl];exact h)];split
  ·rename_i e;subst e;rw[Xaf q.len];rfl
  rw[Xae q.len O];exact q.at_ j O
 id j hj:=by
  by_cases e:j=q.i
  ·subst e;rw[Xaf q.len]
  rw[Xae q.len O];exact q.id j O
def HmJ.get{n x:Nat}{q:HmJ n}(h:n<=q.i)(hb:∀s,(el rl s).b=(el q.rl s).b)(hx:x<n):q.vs[0+x*1]?=some (.slice (some ⟨(el rl x).b,0,none⟩) n n):=by
 have h1:=q.at_ x O;rw[ZH (by rw[q.vl];exact hx)]at h1;rw[show 0+x*1=x by omega,List.getElem?_eq_getElem (by rw[q.vl];exact hx),h1];unfold rbV;rw[hb]
def HnX.fin{p:YB}{k j:Nat}{s:Int}(q:HnX p k j s)(hx:p.sh.toNat<=q.x)(hj:j<(oU p k).fl.length)(hs:s=(el (oU p k).fl j).k):HnF p k where
 j:=j+1
 l:=q.l
 le:=hj
 hl:=q.hl
 h t ht:=by
  subst hs;rw[q.h t ht,ZB hj];have:t<q.x:=O;simp only[this,true_and,List.mem_append,List.mem_singleton];constructor
  ·rintro((h | ⟨f,h1,h2⟩) | h)
   ·exact .inl h
   ·exact .inr ⟨f,.inl h1,h2⟩
   exact .inr ⟨_,.inr rfl,h⟩
  rintro(h | ⟨f,h1 | rfl,h2⟩)
  ·exact .inl (.inl h)
  ·exact .inl (.inr ⟨f,h1,h2⟩)
  exact .inr h2
theorem Xcr{p:YB}(hF:Fits F w)(hGl:Ka F)(hP:GR F p)(hL:QC8 p)(h0:Vo p=0):QS prog 92 [p.v] w F (λ(c:Sr×List RB)=>c.1.v) (λc F=>JC F c.1.q c.1.n 1 (c.2.map (rbV p.sh.toNat))/\(∀r∈c.2,JC F (some ⟨r.b,0,none⟩) p.sh.toNat 1 (r.l.map aa))/\c.1.n=p.sh.toNat/\c.1.n<=c.1.cap/\Xas p p.ul.length c.2):=by
 have Ax:=hP.Mf;have hun:=hL.un;have hV:=RE.of h0;have hsh:=hV.sh;have hol:=hV.ord;refine QS.go (G:=λF=>GR F p/\Ka F) func92 hF ⟨hP,hGl⟩ ?_;refine QLF<|Q9 rfl (vs:=[_,_,_]) rfl λb1=>wR rfl<|QG<|JN (b:=b1) .here<|QB<|QA (QH rfl K9 QY)<|QA (Ql (n:=1) ((0)*3+0) (λF h9=>(JC.of (n:=1) (sz:=3) h9.2 rfl)) O rfl QY rfl)<|K5 (n:=p.sh.toNat) (bytes:=24) wN wN Xa4 pD QKC rfl Xda O O λb16=>wR rfl<|QG<|wS rfl<|QA (Qc rfl Xa4)<|QJm rfl<|QJl<|QQ<|XC (ι:=HmJ p.sh.toNat) [(1,_),(3,_),(18,_)] (λi=>[(19,.int .i64 ((i.i:Nat):Int))]) (λi=>i.rl.reverse.map rbB++[(b16,.cells i.vs.toArray 84 (0,0))]) (λi F=>True) (λi=>p.sh.toNat-i.i) (⟨0,[],JL [.slice none 0 0] p.sh.toNat,ao _,rfl,by rw[ZM,af],λj h=>(by cases h),λj h=>(by cases h)⟩) wV wT QKK wz λi=>?_
 have hi:=i.le;refine wA 6 I ?_;refine QO I (λhc2=>?_) λhc2=>?_
 ·have hlt:i.i<p.sh.toNat:=wi<|QLr hc2
  refine QMX 14 I<|QA (QH I K9 QY)<|QA (Ql (n:=1) ((0)*3+0) (λF h9=>(JC.of (n:=1) (sz:=3) h9.1.2 I)) O rfl QY I)<|K5 (n:=p.sh.toNat) (bytes:=1) wN wN Uw Zi z_4 I QHR O O λb26=>?_
  rw[QAW];refine QA (Qm (i:=i.i) rfl rfl Xa4 pD (hlt))<|QV (vs:=[_]) I I I pD I (.there (Own.skip .here _)) (Xbk (by rw[i.vl];exact hlt) _) wT<|QMW 5 I<|QA (Qm (i:=i.i) rfl rfl Xa4 pD (hlt)) ?_
  refine QA (Xh (c:=i.vs.set i.i (.slice (some ⟨b26,0,none⟩) p.sh.toNat p.sh.toNat)) (T':=84) rfl pD (.there (Own.skip .here _)) (by rw[show 0+i.i*1=i.i by omega,List.getElem?_set_self (by rw[i.vl];exact hlt)])) ?_;refine QJm I<|QA (Qm (i:=i.i) rfl rfl Uw Zi (hlt))<|QV (vs:=[_]) I I I Zi I .here (Wl (f:=aa) (l:=au p.sh.toNat false) (i:=i.i) (by rw[af];exact hlt) true) wT<|QF<|Qg<|QD<|QB<|QA (Qn I I O)<|wB 2 I ?_
  exact Qj (i.next b26 hlt) (by show p.sh.toNat-(i.i+1)<p.sh.toNat-i.i;omega) wW ((by show aF ((i.rl++[_]).reverse.map rbB++_) _;rw[List.reverse_append];exact ax _)) λF h=>⟨h.1,trivial⟩
 have hge:p.sh.toNat<=i.i:=wi<|QLs hc2
 refine QCo (bs':=i.rl.map rbB++[(b16,.cells i.vs.toArray 84 (0,0))]) (((List.reverse_perm i.rl).map rbB).append_right _)<|JK ?_
 refine QLF<|QA (XE (n:=1) (vs:=[Qs p.sh,.slice p.un.q p.un.n p.un.cap,.slice p.ot.q p.ot.n p.ot.cap]) ((0)*3) (λF h9=>(JC.of (n:=1) (sz:=3) h9.1.2 I)) O rfl ZL I λj v hv=>by simpa using hv)<|QL I (λ_ _ f k=>Xbb f k.1.1.2 k.1.1.1 hL h0) λc37=>XA _ (λ_ _ f k=>k.2.2.1) λn37=>QMW 11 I<|QA (Qc I Qd)<|QMW 4 I<|XC (ι:=HnJ p i.rl) [(1,_),(3,_),(40,_),(41,_)] (λk=>[(42,.int .i64 ((k.k:Nat):Int))]) (λk=>k.rl.map rbB++[(b16,.cells i.vs.toArray 84 (0,0))]) (λk F=>True) (λk=>p.ul.length-k.k) (⟨0,i.rl,ao _,HmJ.mat hge,λ_=>rfl⟩) wW wT QKK wz λk=>?_
 have hk:=k.le;have hkl:=k.ok.len;refine wA 6 I ?_;refine QO I (λhc2=>?_) λhc2=>?_
 ·have hlk:k.k<p.ul.length:=wi<|QLr hc2
  have huo:G3 p.sh (el p.ul (el (ZY p.ul) k.k).toNat):=hV.ok hlk;have hum:(el p.ul (el (ZY p.ul) k.k).toNat)∈p.ul:=hV.mem hlk;have hou:=huo.ou;have hO:(el p.ul (el (ZY p.ul) k.k).toNat).ou.toNat<k.rl.length:=O;have hfn:=(hP.us _ hum).E9;obtain⟨iu,hiu1,hiu2,_⟩:=hV.unit hlk;refine QMX 6 I<|QA (Qo (n:=c37.n) (k.k) (λF h9=>h9.1.2.1) rfl rfl Qd QY O)<|QA (Ql (n:=c37.n) ((k.k)*1) (λF h9=>h9.1.2.1) O rfl QY (Jo (f:=Qs) (l:=(ZY p.ul)) O))<|QMW 5 I<|QA (QH I XP Jf)<|QA (Ql (n:=1) ((0)*3+1) (λF h9=>(JC.of (n:=1) (sz:=3) h9.1.1.1.2 I)) O rfl Jf I)<|QJm I<|QA (Qo (n:=p.un.n) ((el (ZY p.ul) k.k).toNat) (λF h9=>h9.1.1.1.1.1.un) rfl wN Xk XJ O)<|QA (XE (n:=p.un.n) (vs:=[tx (el p.ul ((el (ZY p.ul) k.k).toNat)).kd,.slice (el p.ul ((el (ZY p.ul) k.k).toNat)).fd.q (el p.ul ((el (ZY p.ul) k.k).toNat)).fd.n (el p.ul ((el (ZY p.ul) k.k).toNat)).fd.cap,Qs ((el p.ul ((el (ZY p.ul) k.k).toNat)).ou),tx (el p.ul ((el (ZY p.ul) k.k).toNat)).st,.slice (el p.ul ((el (ZY p.ul) k.k).toNat)).cv.q (el p.ul ((el (ZY p.ul) k.k).toNat)).cv.n (el p.ul ((el (ZY p.ul) k.k).toNat)).cv.cap]) (((el (ZY p.ul) k.k).toNat)*5) (λF h9=>h9.1.1.1.1.1.un) O rfl XJ I λj v hv=>JR (f:=MR) (l:=p.ul) ZI O hv)<|Qk TM λb9=>QV (vs:=[_,_,_,_,_]) I I I XJ I .here .h5 wX<|QMW 4 I<|JN (b:=b9) .here<|QB<|QA (XE (n:=1) (vs:=[tx (el p.ul ((el (ZY p.ul) k.k).toNat)).kd,.slice (el p.ul ((el (ZY p.ul) k.k).toNat)).fd.q (el p.ul ((el (ZY p.ul) k.k).toNat)).fd.n (el p.ul ((el (ZY p.ul) k.k).toNat)).fd.cap,Qs ((el p.ul ((el (ZY p.ul) k.k).toNat)).ou),tx (el p.ul ((el (ZY p.ul) k.k).toNat)).st,.slice (el p.ul ((el (ZY p.ul) k.k).toNat)).cv.q (el p.ul ((el (ZY p.ul) k.k).toNat)).cv.n (el p.ul ((el (ZY p.ul) k.k).toNat)).cv.cap]) ((0)*5) (λF h9=>(JC.of (n:=1) (sz:=5) h9.2 I)) O rfl XJ I λj v hv=>by simpa using hv)<|QL I (λ_ _ f k=>uB f) λ_=>QF<|QD ?_
  refine QO I (λhc2=>?_) λhc2=>?_
  ·have hq:H8 (el p.ul (el (ZY p.ul) k.k).toNat)=true:=hc2;refine JK ?_;refine QB<|QA (Qn I I O)<|wB 2 I ?_
   exact Qj (⟨k.k+1,k.rl,hlk,HnJ.int hV hlk hq k.ok,k.hb⟩) (by show p.ul.length-(k.k+1)<p.ul.length-k.k;omega) wX QKK λF h=>⟨h.1.1.1,trivial⟩
  have hq:H8 (el p.ul (el (ZY p.ul) k.k).toNat)=false:=hc2;have hf8:=Z0 huo;refine QMX 4 I<|QA (QH I Zz Xd)<|QA (Ql (n:=1) ((0)*5+1) (λF h9=>(JC.of (n:=1) (sz:=5) h9.1.2 I)) O rfl Xd I)<|QA (Qc I YV)<|QMW 4 I<|XC (ι:=HnF p k.k) [(1,_),(3,_),(9,_),(40,_),(41,_),(42,_),(54,_),(55,_)] (λf=>[(56,.int .i64 ((f.j:Nat):Int))]) (λf=>(Xa1 k.rl ((el p.ul (el (ZY p.ul) k.k).toNat).ou.toNat) f.l).map rbB++[(b16,.cells i.vs.toArray 84 (0,0))]) (λf F=>True) (λf=>(el p.ul (el (ZY p.ul) k.k).toNat).fl.length-f.j) (⟨0,(el k.rl ((el p.ul (el (ZY p.ul) k.k).toNat).ou.toNat)).l,ao _,k.ok.ln _ O,λt ht=>by rw[k.ok.at_ _ t O ht,show(((el p.ul (el (ZY p.ul) k.k).toNat).ou.toNat:Nat):Int)=(oU p k.k).ou from ae O];simp⟩) wa wT (by show aF ((Xa1 k.rl _ _).map rbB++_) _;rw[Xay hO];exact ax _) wz λf=>?_
  have hfj:=f.le;refine wA 6 I ?_;refine QO I (λhc2=>?_) λhc2=>?_
  ·have hlf:f.j<(el p.ul (el (ZY p.ul) k.k).toNat).fl.length:=wi<|QLr hc2
   have hfm:=Q2 hlf;have hfk:=(huo.fd _ hfm).1;have hFn:(el (el p.ul (el (ZY p.ul) k.k).toNat).fl f.j).k.toNat<p.sh.toNat:=O;have hne:(el (el p.ul (el (ZY p.ul) k.k).toNat).fl f.j).k≠(el p.ul (el (ZY p.ul) k.k).toNat).ou:=λe=>hV.QKU hlk (by have:=Xcy hV hlk hq hfm;rw[e]at this;exact this);refine QMX 6 I<|QA (Qo (n:=(el p.ul ((el (ZY p.ul) k.k).toNat)).fd.n) (f.j) (λF h9=>((h9.1.1.1.1.1.1.1.1.us _ (Q2 (show(el (ZY p.ul) k.k).toNat<p.ul.length from O)))).fd) rfl rfl YV Kf O)<|QA (XE (n:=(el p.ul ((el (ZY p.ul) k.k).toNat)).fd.n) (vs:=[.int .i64 ((el (el p.ul ((el (ZY p.ul) k.k).toNat)).fl (f.j)).k),tx (el (el p.ul ((el (ZY p.ul) k.k).toNat)).fl (f.j)).r]) ((f.j)*2) (λF h9=>((h9.1.1.1.1.1.1.1.1.us _ (Q2 (show(el (ZY p.ul) k.k).toNat<p.ul.length from O)))).fd) O rfl Kf I λj v hv=>JR (f:=Uj) (l:=(el p.ul ((el (ZY p.ul) k.k).toNat)).fl) YT O hv)<|Qk QDL λb11=>QV (vs:=[_,_]) I I I Kf I .here .h2 wU<|QJl<|QG<|JN (b:=b11) .here<|wA 2 I<|QA (QH I GQ QY)<|QA (Ql (n:=1) ((0)*2+0) (λF h9=>(JC.of (n:=1) (sz:=2) h9.2 I)) O rfl QY I)<|QA (Qm (i:=(el (el p.ul (el (ZY p.ul) k.k).toNat).fl f.j).k.toNat) rfl wN Xa4 pD O)<|QA (Xh (c:=i.vs) (T':=84) rfl pD (Own.skip .here _) (HmJ.get hge k.hb O))<|QA (Qc I Uw)<|QMW 4 I<|XC (ι:=HnX p k.k f.j (el (el p.ul (el (ZY p.ul) k.k).toNat).fl f.j).k) [(1,_),(3,_),(9,_),(40,_),(41,_),(42,_),(54,_),(55,_),(56,_),(64,_),(65,_)] (λx=>[(66,.int .i64 ((x.x:Nat):Int))]) (λx=>(Xa1 k.rl ((el p.ul (el (ZY p.ul) k.k).toNat).ou.toNat) x.l).map rbB++[(b16,.cells i.vs.toArray 84 (0,0))]) (λx F=>True) (λx=>p.sh.toNat-x.x) (⟨0,f.l,ao _,f.hl,λt ht=>by rw[f.h t ht];simp⟩) we wT QKK wz λx=>?_
   have hxl:=x.le;obtain⟨fo,hown⟩:=Xcd (rl:=k.rl) (i:=(el p.ul (el (ZY p.ul) k.k).toNat).ou.toNat) (j:=(el (el p.ul (el (ZY p.ul) k.k).toNat).fl f.j).k.toNat) hO O O x.l [(b16,.cells i.vs.toArray 84 (0,0))];refine wA 6 I ?_;refine QO I (λhc2=>?_) λhc2=>?_
   ·have hlx:x.x<p.sh.toNat:=wi<|QLr hc2
    refine QMX 7 I<|QA (Qm (i:=x.x) rfl rfl Uw Zi (hlx))<|QA (Xh (c:=(el k.rl ((el (el p.ul (el (ZY p.ul) k.k).toNat).fl f.j).k.toNat)).l.map aa++[]) (T':=4) rfl Zi hown (TH (f:=aa) (by rw[k.ok.ln _ hFn];exact hlx)))<|QMW 4 I<|Je 18 QKK mixed wj wj ?_
    simp only[List.take_succ_cons,List.take_zero,List.drop_succ_cons,List.drop_zero];refine QJ (QC I)<|QJ (QH I Yf QY)<|QJ (Ql (n:=1) ((0)*5+2) (λF h9=>(JC.of (n:=1) (sz:=5) h9.1.1.1.1.2 I)) O rfl QY I)<|QJ (Qm (i:=(el p.ul (el (ZY p.ul) k.k).toNat).ou.toNat) rfl wN Xa4 pD O)<|QJ (Xh (c:=i.vs) (T':=84) rfl pD (Own.skip .here _) (HmJ.get hge k.hb O))<|QJ (QC I)<|QJ (QC I)<|QJ (QH I Yf QY)<|QJ (Ql (n:=1) ((0)*5+2) (λF h9=>(JC.of (n:=1) (sz:=5) h9.1.1.1.1.2 I)) O rfl QY I)<|QJ (Qm (i:=(el p.ul (el (ZY p.ul) k.k).toNat).ou.toNat) rfl wN Xa4 pD O)<|QJ (Xh (c:=i.vs) (T':=84) rfl pD (Own.skip .here _) (HmJ.get hge k.hb O))<|QJ (QC I)<|QJ (Qm (i:=x.x) rfl rfl Uw Zi (hlx))<|QJ (Xh (c:=x.l.map aa++[]) (T':=4) rfl Zi (Xa8 hO x.l _) (TH (f:=aa) (by rw[x.hl];exact hlx)))<|QJ (QC I) ?_
    refine KH (t:=85) rfl (λhb85=>?_) λhb85=>?_
    ·refine Q7 I I I<|QJ (QR I I I)<|QJ (Qm (i:=x.x) rfl rfl Uw Zi (hlx))<|X7 ?_
     first
     |(refine QV (vs:=[_]) I I I Zi I (Xa8 hO x.l _) (Wl (f:=aa) (l:=x.l) (i:=x.x) (by rw[x.hl];exact hlx) true) wT ?_;refine KZ (ai (Xa2 hO _ _)) ?_)
     |(refine QV (vs:=[_]) I I I Zi I (Xa8 hO x.l _) (Wl (f:=aa) (l:=x.l) (i:=x.x) (by rw[x.hl];exact hlx) (el (el k.rl ((el (el p.ul (el (ZY p.ul) k.k).toNat).fl f.j).k.toNat)).l x.x)) wT ?_;refine KZ (ai (Xa2 hO _ _)) ?_)
     refine QF<|Qg<|QD<|QB<|QA (Qn I I O)<|wB 2 I ?_
     exact Qj (x.next hlx true (by rw[hb85];simp)) (by show p.sh.toNat-(x.x+1)<p.sh.toNat-x.x;omega) wg QKK λF h=>⟨h.1,trivial⟩
    refine JA I I<|QJ (QC I)<|QJ (QT I I I)<|QJ (Qm (i:=x.x) rfl rfl Uw Zi (hlx))<|X7 ?_
    first
    |(refine QV (vs:=[_]) I I I Zi I (Xa8 hO x.l _) (Wl (f:=aa) (l:=x.l) (i:=x.x) (by rw[x.hl];exact hlx) true) wT ?_;refine KZ (ai (Xa2 hO _ _)) ?_)
    |(refine QV (vs:=[_]) I I I Zi I (Xa8 hO x.l _) (Wl (f:=aa) (l:=x.l) (i:=x.x) (by rw[x.hl];exact hlx) (el (el k.rl ((el (el p.ul (el (ZY p.ul) k.k).toNat).fl f.j).k.toNat)).l x.x)) wT ?_;refine KZ (ai (Xa2 hO _ _)) ?_)
    refine QF<|Qg<|QD<|QB<|QA (Qn I I O)<|wB 2 I ?_
    exact Qj (x.next hlx (el (el k.rl ((el (el p.ul (el (ZY p.ul) k.k).toNat).fl f.j).k.toNat)).l x.x) (by rw[hb85,k.ok.at_ _ _ hFn hlx,ae hfk.1];simp)) (by show p.sh.toNat-(x.x+1)<p.sh.toNat-x.x;omega) wg QKK λF h=>⟨h.1,trivial⟩
   have hgx:p.sh.toNat<=x.x:=wi<|QLs hc2
   refine JK ?_;refine QB<|QA (Qn I I O)<|wB 2 I ?_
   exact Qj (x.fin hgx hlf rfl) (by show(el p.ul (el (ZY p.ul) k.k).toNat).fl.length-(f.j+1)<(el p.ul (el (ZY p.ul) k.k).toNat).fl.length-f.j;omega) wb QKK λF h=>⟨h.1.1.1,trivial⟩
  have hgf:(el p.ul (el (ZY p.ul) k.k).toNat).fl.length<=f.j:=wi<|QLs hc2
  refine JK ?_;refine QB<|QA (Qn I I O)<|wB 2 I ?_
  exact Qj (⟨k.k+1,Xa1 k.rl ((el p.ul (el (ZY p.ul) k.k).toNat).ou.toNat) f.l,hlk,HnJ.fold hV hlk hq k.ok f hgf,λs=>(Xcc hO _ s).trans (k.hb s)⟩) (by show p.ul.length-(k.k+1)<p.ul.length-k.k;omega) wX QKK λF h=>⟨h.1.1.1.1,trivial⟩
 have hgk:k.k=p.ul.length:=wi<|QLs hc2
 refine Da (λw h=>St.Xax h)<|JN (b:=b16) .here<|JK ?_
 refine wA 7 I ?_;exact QM ((⟨some ⟨b16,0,none⟩,p.sh.toNat,p.sh.toNat⟩,k.rl)) I (wO I) (rfl) λF h=>⟨by rw[<-Xcb (n:=p.sh.toNat) (hkl.symm ▸ (show i.rl.length=p.sh.toNat from by have:=i.len;have:=i.le;omega)) (λs=>(k.hb s).symm),<-HmJ.Xdc hge];exact JC.of h.2 (by rw[i.vl];exact(Nat.mul_one _).symm),λr hr=>JC.of (by have:=h.1.2 r hr;rwa [List.append_nil]at this) (by obtain⟨s,hs,rfl⟩:=ah (show r∈k.rl from hr);have:=k.ok.ln s O;rw[ZH hs]at this;rw[ar,this];omega),rfl,aG _,by have:=k.ok;rwa [hgk]at this⟩
def Xas.fin{p:YB}(hV:RE p)(h:Xas p p.ul.length rl){s t:Nat}(hs:s<p.sh.toNat)(ht:t<p.sh.toNat):el (el rl s).l t=true↔Rch p.ul (s:Int) (t:Int):=by
 rw[h.at_ s t hs ht];have:=hV.all p.ul.length (aG _) (s:Int);unfold Mk;simp[this]
def Rch.rg{p:YB}(hV:RE p){s t:Int}(h:Rch p.ul s t):0<=s/\s<p.sh->0<=t/\t<p.sh:=by
 induction h with
 |refl s=>exact id
 |@step s t f hf _ ih =>
  refine λ_=>ih ?_;unfold Xa0 at hf;split at hf
  ·cases hf
  rename_i g;exact((hV.us _ (Q2 (wi<|xK p.ul s))).fd _ hf).1
def Xaj(h:WV m=0):okM m=true:=by
 unfold WV at h;split at h
 ·contradiction
 split at h
 ·cases h
 split at h
 ·assumption
 cases h
def Xd2(h0:WV m=0)(hn:¬m.fl.any (λf=>decide (f.lost>0))=true):∀j,j<m.fl.length->(el m.fl j).lost=0:=λj hj=>by
 have h1:=Xaj h0;have h2:=(Xa3 h0).2.1;unfold okM at h1;rw[aj,aj]at h1;have h3:=List.all_eq_true.1 h1.1.2 j (List.mem_range.2 O);have h4:¬(el m.fl j).lost>0:=λg=>hn (List.any_eq_true.2 ⟨_,Q2 hj,decide_eq_true g⟩);unfold Dh ok4 N4 at h3;simp at h3;omega
def Xd4(h0:WV m=0)(hn:¬m.ll.any (λn=>decide (n>0))=true):∀j,j<m.p.ul.length->el m.ll j=0:=λj hj=>by
 have h1:=Xaj h0;have h2:=(Xa3 h0).2.2;unfold okM at h1;rw[aj,aj]at h1;have h3:=List.all_eq_true.1 h1.2 j (List.mem_range.2 O);have h4:¬el m.ll j>0:=λg=>hn (List.any_eq_true.2 ⟨_,Q2 (show j<m.ll.length by omega),decide_eq_true g⟩);unfold Oa N4 at h3;simp at h3;omega
def Xc6(h:m.fl.any (λf=>decide (f.lost>0))=true):¬Xc7 m:=λg=>by
 obtain⟨f,hf,hl⟩:=List.any_eq_true.1 h;obtain⟨j,hj,rfl⟩:=ah hf;have:=g.1 j hj;rw[ZH hj]at this;rw[this]at hl;simp at hl
def Xcv(h0:WV m=0)(h:m.ll.any (λn=>decide (n>0))=true):¬Xc7 m:=λg=>by
 obtain⟨f,hf,hl⟩:=List.any_eq_true.1 h;obtain⟨j,hj,rfl⟩:=ah hf;have:=(g.2 j (wi<|(Xa3 h0).2.2)).1;rw[ZH hj]at this;rw[this]at hl;simp at hl
theorem Xd0{f:APy}(hF:Fits F w):Qi prog 90 [.agg (pyC f).toArray] w F (.bool (decide (f.lost>0))):=by
 refine QS.go (G:=λF=>True) func90 hF trivial ?_;refine QLF<|Q9 I (vs:=[_,_,_]) I λb1=>QMW 5 I<|QA (QH I xH QY)<|QA (Qp I QY .here .h1)<|QMW 5 I ?_
 exact QMn I I (rfl) wz
theorem Xcz{n:Int}(hF:Fits F w):Qi prog 91 [.int .i64 n] w F (.bool (decide (n>0))):=by
 refine QS.go (G:=λF=>True) func91 hF trivial ?_;refine wA 13 I ?_
 exact QMn I I (rfl) wz
theorem Xcq{q:Option Addr}{n c f:Nat}{l:List APy}{p:APy->Bool}(hF:Fits F w)(hR:JC F q n 3 (l.flatMap pyC))(hn:l.length=n)(hb:n<=1000000)(hc:∀e∈l,∀w F,Fits F w->Qi prog f [.agg (pyC e).toArray] w F (.bool (p e))):QS prog 168 [.slice q n c,.func (.func f) #[] #[]] w F (λ(k:Int)=>.int .i64 k) (λk _=>decide (k>=0)=l.any p):=by
 refine QS.go (G:=λF=>JC F q n 3 (l.flatMap pyC)) func168 hF hR ?_;refine wA 9 I<|QA (Qc I IN)<|QMW 4 I<|Jt (ι:=WT l p) [(0,_),(1,_),(7,_)] (λi=>[(8,.int .i64 ((i.i:Nat):Int))]) (λi=>l.length-i.i) (WT.start _ _) wV wT λi=>?_
 have hi:=i.le;refine wA 6 I ?_;refine QO I (λhc2=>?_) λhc2=>?_
 ·have hlt:i.i<l.length:=wi<|QLr hc2
  have hem:=Q2 hlt;refine QMX 15 I<|QA (Qo (n:=n) i.i w7 rfl rfl IN IM O)<|QA (XE (n:=n) (vs:=[Qs ((el l i.i).lost),Qs ((el l i.i).Cx),Qs ((el l i.i).load)]) ((i.i)*3) w7 O rfl IM I λj v hv=>JR (f:=pyC) (l:=l) AA O hv)<|Ao (c1:=[]) (c2:=[]) I I (λw F f k=>hc _ hem w F f) λ_=>QF<|QD ?_
  refine QO I (λhc2=>?_) λhc2=>?_
  ·have hc16:=hc2;refine wA 6 I<|ZS ?_
   exact QM (((i.i:Nat):Int)) I (wO I) (rfl) λF _=>by rw[decide_eq_true O,List.any_eq_true.2 ⟨_,hem,hc16⟩]
  have hc16:=hc2;refine QN<|Qg<|QD<|QB<|QA (Qn I I O)<|wB 2 I ?_
  exact Qj (i.next hlt hc16) (by show l.length-(i.i+1)<l.length-i.i;omega) wW QKK w8
 have hge:l.length<=i.i:=wi<|QLs hc2
 refine JK ?_;refine wA 6 I ?_;exact QM ((-1:Int)) I (wO I) (rfl) λF _=>by rw[Bool.eq_false_iff.2 (i.stop hge)];rfl
theorem Xc5{q:Option Addr}{n c f:Nat}{l:List APy}{p:APy->Bool}(hF:Fits F w)(hR:JC F q n 3 (l.flatMap pyC))(hn:l.length=n)(hb:n<=1000000)(hc:∀e∈l,∀w F,Fits F w->Qi prog f [.agg (pyC e).toArray] w F (.bool (p e))):Qi prog 89 [.slice q n c,.func (.func f) #[] #[]] w F (.bool (l.any p)):=by
 refine QS.go (G:=λF=>JC F q n 3 (l.flatMap pyC)) func89 hF hR ?_;refine wA 9 I<|QL I (λ_ _ f k=>Xcq (p:=p) f k hn hb hc) λc7=>XA _ (λ_ _ f h=>h.2) λh7=>QMW 5 I ?_
 exact QMn I I (congrArg aa h7.symm) wz
theorem Xcp(hF:Fits F w)(hGl:Ka F)(hM:BB F m)(hL:QH0 m)(h0:WV m=0):QS prog 41 [m.v] w F (λc:Bool=>.bool c) (λc F=>c=true↔Xc7 m):=by
 have Ax:=hM.p.Mf;have hfl:=hM.E9;have hll:=hM.QBj;have hun:=hL.p.un;have hfa:=hL.fa;have hlg:=hL.lg;have hp0:=Xa5 h0;have hV:=RE.of hp0;have hsh:=hV.sh;have hlen:=Xa3 h0;refine QS.go (G:=λF=>BB F m/\Ka F) func41 hF ⟨hM,hGl⟩ ?_;refine QLF<|Q9 I (vs:=[_,_,_,_,_,_,_,_]) I λb1=>QMW 5 I<|JN (b:=b1) .here<|QB<|QA (QH I UR MS)<|QA (Ql (n:=1) ((0)*8+6) (λF h9=>(JC.of (n:=1) (sz:=8) h9.2 I)) O rfl MS I)<|QL I (λw F g k=>Xc5 (f:=90) (p:=λf=>decide (f.lost>0)) g k.1.1.fa hfl O λe _ w F g=>Xd0 g) λ_=>QJm I ?_
 refine Qa (t:=12) rfl (λhb12=>?_) λhb12=>?_
 ·refine QMW 6 I<|Jv I<|wA 6 I ?_
  exact QM (false) rfl (wO rfl) (rfl) λF h9=>⟨λh=>(by cases h),λh=>absurd h (Xc6 hb12)⟩
 refine QK I I<|QA (QH I DO Qu)<|QK I I<|QA (Ql (n:=1) ((0)*8+7) (λF h9=>(JC.of (n:=1) (sz:=8) h9.1.2 I)) O rfl Qu I)<|QK I I<|QL I (λw F g k=>uQ (f:=91) (c1:=[]) (c2:=[]) (p:=λn=>decide (n>0)) (G0:=λ_=>True) g (λ_ _ _ h=>h) trivial k.1.1.1.lg hll O λe _ w F g _=>Xcz g) λ_=>QMW 3 I ?_
 refine QO I (λhc2=>?_) λhc2=>?_
 ·have hlag:m.ll.any (λn=>decide (n>0))=true:=hc2;refine wA 6 I ?_;exact QM (false) rfl (wO rfl) (rfl) λF h9=>⟨λh=>(by cases h),λh=>absurd h (Xcv h0 hlag)⟩
 have hlag:¬m.ll.any (λn=>decide (n>0))=true:=by rw[hc2];decide
 have hy1:=Xd2 h0 (by rw[hb12];decide);have hy2:=Xd4 h0 hlag;have htl:=MU m.p.sh m.p.ul;refine QMX 3 I<|JE QKK mixed wj<|QJ (QH rfl Ks ZL)<|QJ (XE (n:=1) (vs:=[Qs m.p.sh,.slice m.p.un.q m.p.un.n m.p.un.cap,.slice m.p.ot.q m.p.ot.n m.p.ot.cap]) ((0)*8) (λF h9=>(JC.of (n:=1) (sz:=8) h9.1.1.2 rfl)) O rfl ZL rfl λj v hv=>by match j,hv with | 0,h=>exact h | 1,h=>exact h | 2,h=>exact h | _+3,h=>cases h)<|QZ rfl (λ_ _ f k=>Xcr f k.1.1.1.2 k.1.1.1.1.p hL.p hp0) λc19=>Gm _ (λw F hF ⟨⟨⟨⟨⟨hM,hGl⟩,hz1⟩,_⟩,_⟩,h⟩=>aD h.2.2.1 h.2.2.2.2) λn19=>?_
 have hcl:=n19.2.len;have hcn:=n19.1;refine QJ (QH rfl Ks ZL)<|QJ (XE (n:=1) (vs:=[Qs m.p.sh,.slice m.p.un.q m.p.un.n m.p.un.cap,.slice m.p.ot.q m.p.ot.n m.p.ot.cap]) ((0)*8) (λF h9=>(JC.of (n:=1) (sz:=8) h9.1.1.2 rfl)) O rfl ZL rfl λj v hv=>by match j,hv with | 0,h=>exact h | 1,h=>exact h | 2,h=>exact h | _+3,h=>cases h)<|QZ rfl (λ_ _ f k=>uu f k.1.1.1.1.1.p hun ⟨O,O⟩ λu hu=>wi<|(hV.us u hu).ou) λc22=>Gm _ (λ_ _ f k=>k.2.2.1) λn22=>QJ (QE I)<|QJ (QE I)<|Qy<|QMY 4 I<|QA (QH I Ks ZL)<|QA (QH I XP Jf)<|QA (Ql (n:=1) ((0)*8+1) (λF h9=>(JC.of (n:=1) (sz:=8) h9.1.1.1.1.2 I)) O rfl Jf I)<|QA (Qc I Xk)<|QMW 4 I<|Jt (ι:=Xa6 m.p.ul.length (Xd6 m)) [(3,_),(4,_),(25,_),(26,_)] (λi=>[(27,.int .i64 ((i.i:Nat):Int))]) (λi=>m.p.ul.length-i.i) (Xa6.start _ _) wW wT λi=>?_
 have hi:=i.le;refine wA 6 I ?_;refine QO I (λhc2=>?_) λhc2=>?_
 ·have hlt:i.i<m.p.ul.length:=wi<|QLr hc2
  have hum:=Q2 hlt;have hfn:=(hM.p.us _ hum).E9;have hou:=(hV.us _ hum).ou;refine QMX 6 I<|QA (Qo (n:=m.p.un.n) i.i (λF h9=>h9.1.1.1.1.1.1.p.un) rfl rfl Xk XJ O)<|QA (XE (n:=m.p.un.n) (vs:=[tx (el m.p.ul i.i).kd,.slice (el m.p.ul i.i).fd.q (el m.p.ul i.i).fd.n (el m.p.ul i.i).fd.cap,Qs ((el m.p.ul i.i).ou),tx (el m.p.ul i.i).st,.slice (el m.p.ul i.i).cv.q (el m.p.ul i.i).cv.n (el m.p.ul i.i).cv.cap]) ((i.i)*5) (λF h9=>h9.1.1.1.1.1.1.p.un) O rfl XJ I λj v hv=>JR (f:=MR) (l:=m.p.ul) ZI O hv)<|Qk TM λb6=>QV (vs:=[_,_,_,_,_]) I I I XJ I .here .h5 wX<|QMW 4 I<|JN (b:=b6) .here<|QB<|QA (XE (n:=1) (vs:=[tx (el m.p.ul i.i).kd,.slice (el m.p.ul i.i).fd.q (el m.p.ul i.i).fd.n (el m.p.ul i.i).fd.cap,Qs ((el m.p.ul i.i).ou),tx (el m.p.ul i.i).st,.slice (el m.p.ul i.i).cv.q (el m.p.ul i.i).cv.n (el m.p.ul i.i).cv.cap]) ((0)*5) (λF h9=>(JC.of (n:=1) (sz:=5) h9.2 I)) O rfl XJ I λj v hv=>by simpa using hv)<|QL I (λ_ _ f k=>uB f) λ_=>QA (Xv I)<|QF<|QD ?_
  refine QO I (λhc2=>?_) λhc2=>?_
  ·have hni:H8 (el m.p.ul i.i)=false:=by simpa using hc2
   refine JK ?_;refine QB<|QA (Qn I I O)<|wB 2 I ?_
   exact Qj (i.next hlt ⟨hy2 _ hlt,λh=>by rw[hni]at h;cases h⟩) (by show m.p.ul.length-(i.i+1)<m.p.ul.length-i.i;omega) wX QKK λF h=>h.1.1
  have hii:H8 (el m.p.ul i.i)=true:=by simpa using hc2
  have hf2:=Xc4 (hV.us _ hum) hii;have hka:=((hV.us _ hum).fd _ (Q2 (show 0<(el m.p.ul i.i).fl.length by omega))).1;have hkb:=((hV.us _ hum).fd _ (Q2 (show 1<(el m.p.ul i.i).fl.length by omega))).1;have hla:=n19.2.ln ((el (el m.p.ul i.i).fl 0).k).toNat O;have hlb:=n19.2.ln ((el (el m.p.ul i.i).fl 1).k).toNat O;have hfin:=n19.2.fin hV (s:=((el (el m.p.ul i.i).fl 0).k).toNat) (t:=(el m.p.ul i.i).ou.toNat) O O;rw[ae hka.1,ae (show 0<=(el m.p.ul i.i).ou by omega)]at hfin;refine QMX 4 I<|JE QKK mixed wj<|QJ (QC I)<|QJ (QH I Zz Xd)<|QJ (Ql (n:=1) ((0)*5+1) (λF h9=>(JC.of (n:=1) (sz:=5) h9.1.2 I)) O rfl Xd I)<|QJ (Qo (n:=(el m.p.ul i.i).fd.n) (0) (λF h9=>((h9.1.1.1.1.1.1.1.1.p.us _ (Q2 (show i.i<m.p.ul.length from O)))).fd) rfl wN YV Kf O)<|QJ (QH I GQ QY)<|QJ (Ql (n:=(el m.p.ul i.i).fd.n) ((0)*2+0) (λF h9=>((h9.1.1.1.1.1.1.1.1.p.us _ (Q2 (show i.i<m.p.ul.length from O)))).fd) O rfl QY (JR (f:=Uj) (l:=(el m.p.ul i.i).fl) YT O rfl))<|QJ (Qo (n:=c19.1.n) (((el (el m.p.ul i.i).fl 0).k).toNat) (λF h9=>h9.1.1.1.2.1) rfl wN Xa4 pD O)<|QJ (Ql (n:=c19.1.n) ((((el (el m.p.ul i.i).fl 0).k).toNat)*1) (λF h9=>h9.1.1.1.2.1) O rfl pD (Jo (f:=rbV m.p.sh.toNat) (l:=c19.2) O))<|QJ (QH I Yf QY)<|QJ (Ql (n:=1) ((0)*5+2) (λF h9=>(JC.of (n:=1) (sz:=5) h9.1.2 I)) O rfl QY I)<|QJ (Qo (n:=m.p.sh.toNat) ((el m.p.ul i.i).ou.toNat) (λF h9=>(h9.1.1.1.2.2.1 _ (Q2 (show((el (el m.p.ul i.i).fl 0).k).toNat<c19.2.length by omega)))) I wN Uw Zi O)<|QJ (Ql (n:=m.p.sh.toNat) (((el m.p.ul i.i).ou.toNat)*1) (λF h9=>(h9.1.1.1.2.2.1 _ (Q2 (show((el (el m.p.ul i.i).fl 0).k).toNat<c19.2.length by omega)))) O rfl Zi (Jo (f:=aa) (l:=(el c19.2 (((el (el m.p.ul i.i).fl 0).k).toNat)).l) O))<|Qy<|QD ?_
  refine QO I (λhc2=>?_) λhc2=>?_
  ·have hin:=hfin.1 hc2;refine wA 5 I<|ZS ?_
   exact QM (false) rfl (wO rfl) (rfl) λF h9=>⟨λh=>(by cases h),λh=>absurd hin ((h.2 i.i hlt).2 hii).1⟩
  have hno:¬Rch m.p.ul (el (el m.p.ul i.i).fl 0).k (el m.p.ul i.i).ou:=λh=>by rw[hfin.2 h]at hc2;cases hc2
  refine QMX 5 I<|QA (QH I Zz Xd)<|QA (Ql (n:=1) ((0)*5+1) (λF h9=>(JC.of (n:=1) (sz:=5) h9.1.2 I)) O rfl Xd I)<|QA (Qo (n:=(el m.p.ul i.i).fd.n) (1) (λF h9=>((h9.1.1.1.1.1.1.1.1.p.us _ (Q2 (show i.i<m.p.ul.length from O)))).fd) rfl wN YV Kf O)<|QA (QH I GQ QY)<|QA (Ql (n:=(el m.p.ul i.i).fd.n) ((1)*2+0) (λF h9=>((h9.1.1.1.1.1.1.1.1.p.us _ (Q2 (show i.i<m.p.ul.length from O)))).fd) O rfl QY (JR (f:=Uj) (l:=(el m.p.ul i.i).fl) YT O rfl))<|QA (Qo (n:=c19.1.n) (((el (el m.p.ul i.i).fl 1).k).toNat) (λF h9=>h9.1.1.1.2.1) rfl wN Xa4 pD O)<|QA (Ql (n:=c19.1.n) ((((el (el m.p.ul i.i).fl 1).k).toNat)*1) (λF h9=>h9.1.1.1.2.1) O rfl pD (Jo (f:=rbV m.p.sh.toNat) (l:=c19.2) O))<|QA (Qc I Uw)<|QMW 4 I<|Jt (ι:=Xa6 m.p.sh.toNat λt=>Rch m.p.ul (el (el m.p.ul i.i).fl 1).k (t:Int)->dA m.p.ul (t:Int)=false) [(3,_),(4,_),(25,_),(26,_),(27,_),(53,_),(54,_)] (λk=>[(55,.int .i64 ((k.i:Nat):Int))]) (λk=>m.p.sh.toNat-k.i) (Xa6.start _ _) wZ wT λk=>?_
  have hki:=k.le;refine wA 6 I ?_;refine QO I (λhc2=>?_) λhc2=>?_
  ·have hlk:k.i<m.p.sh.toNat:=wi<|QLr hc2
   have hfk:=n19.2.fin hV (s:=((el (el m.p.ul i.i).fl 1).k).toNat) (t:=k.i) O hlk;rw[ae hkb.1]at hfk;have hdk:=QFl hV (show((k.i:Nat):Int)<m.p.sh by omega);refine QMX 7 I<|QA (Qo (n:=m.p.sh.toNat) (k.i) (λF h9=>(h9.1.1.1.2.2.1 _ (Q2 (show((el (el m.p.ul i.i).fl 1).k).toNat<c19.2.length by omega)))) I I Uw Zi O)<|QA (Ql (n:=m.p.sh.toNat) ((k.i)*1) (λF h9=>(h9.1.1.1.2.2.1 _ (Q2 (show((el (el m.p.ul i.i).fl 1).k).toNat<c19.2.length by omega)))) O rfl Zi (Jo (f:=aa) (l:=(el c19.2 (((el (el m.p.ul i.i).fl 1).k).toNat)).l) O))<|QMW 8 I ?_
   refine Qa (t:=61) rfl (λhb61=>?_) λhb61=>?_
   ·refine wB 5 I<|QA (Qo (n:=c22.n) (k.i) (λF h9=>h9.1.1.2.1) rfl rfl Uw Zi O)<|QK I I<|QA (Ql (n:=c22.n) ((k.i)*1) (λF h9=>h9.1.1.2.1) O rfl Zi (Jo (f:=aa) (l:=(Iy m.p.sh m.p.ul)) O))<|QMW 3 I ?_
    refine QO I (λhc2=>?_) λhc2=>?_
    ·have hdt:dA m.p.ul ((k.i:Nat):Int)=true:=by rw[<-hdk];exact hc2
     refine wA 5 I<|ZS ?_
     exact QM (false) rfl (wO rfl) (rfl) λF h9=>⟨λh=>(by cases h),λh=>by have:=((h.2 i.i hlt).2 hii).2 _ (hfk.1 hb61);rw[hdt]at this;cases this⟩
    have hdf:dA m.p.ul ((k.i:Nat):Int)=false:=by rw[<-hdk];exact hc2
    refine QN<|Qg<|QD<|QB<|QA (Qn I I O)<|wB 2 I ?_
    exact Qj (k.next hlk λ_=>hdf) (by show m.p.sh.toNat-(k.i+1)<m.p.sh.toNat-k.i;omega) wa QKK w7
   refine QMW 7 I<|Zg I<|QN<|Qg<|QD<|QB<|QA (Qn I I O)<|wB 2 I ?_
   exact Qj (k.next hlk λh=>by rw[hfk.2 h]at hb61;cases hb61) (by show m.p.sh.toNat-(k.i+1)<m.p.sh.toNat-k.i;omega) wa QKK w7
  have hgk:m.p.sh.toNat<=k.i:=wi<|QLs hc2
  refine JK ?_;refine QB<|QA (Qn I I O)<|wB 2 I ?_
  exact Qj (i.next hlt ⟨hy2 _ hlt,λ_=>⟨hno,λt ht=>by
   have h1:=Rch.rg hV ht hkb;have:=k.h t.toNat O;rw[ae h1.1]at this;exact this ht⟩⟩) (by show m.p.ul.length-(i.i+1)<m.p.ul.length-i.i;omega) wX QKK λF h=>h.1.1
 have hge:m.p.ul.length<=i.i:=wi<|QLs hc2
 refine JK ?_;refine wA 6 I ?_;exact QM (true) rfl (wO I) (rfl) λF h9=>⟨λ_=>⟨hy1,λj hj=>i.h j O⟩,λ_=>rfl⟩
theorem Xad(hF:Fits F w)(hGl:Ka F)(hM:BB F m)(hL:QH0 m):QS prog 12 [m.v] w F (λc:Bool=>.tuple #[.bool c,.int .i64 (WV m)]) (λc F=>c=true↔(WV m=0/\Xc7 m)):=by
 refine QS.go (G:=λF=>BB F m/\Ka F) func12 hF ⟨hM,hGl⟩ ?_;refine QLF<|Q9 I (vs:=[_,_,_,_,_,_,_,_]) I λb1=>QMW 6 I<|JN (b:=b1) .here<|QB<|QA (XE (n:=1) (vs:=[Qs m.p.sh,.slice m.p.un.q m.p.un.n m.p.un.cap,.slice m.p.ot.q m.p.ot.n m.p.ot.cap,.slice m.sc.q m.sc.n m.sc.cap,Qs m.QDf,Qs m.QEV,.slice m.fa.q m.fa.n m.fa.cap,.slice m.lg.q m.lg.n m.lg.cap]) ((0)*8) (λF h9=>(JC.of (n:=1) (sz:=8) h9.2 I)) O rfl Mz I λj v hv=>by simpa using hv)<|QL I (λ_ _ f k=>CZ f k.1.2 k.1.1 hL) λ_=>QMW 9 I ?_
 refine QO I (λhc2=>?_) λhc2=>?_
 ·have hz:WV m≠0:=by simpa using hc2
  refine wA 8 I ?_;exact X4 (false) rfl (wP rfl rfl) (rfl) λF h9=>⟨λh=>(by cases h),λh=>absurd h.1 hz⟩
 have hz:WV m=0:=by simpa using hc2
 refine QMX 4 I<|QA (XE (n:=1) (vs:=[Qs m.p.sh,.slice m.p.un.q m.p.un.n m.p.un.cap,.slice m.p.ot.q m.p.ot.n m.p.ot.cap,.slice m.sc.q m.sc.n m.sc.cap,Qs m.QDf,Qs m.QEV,.slice m.fa.q m.fa.n m.fa.cap,.slice m.lg.q m.lg.n m.lg.cap]) ((0)*8) (λF h9=>(JC.of (n:=1) (sz:=8) h9.1.2 I)) O rfl Mz I λj v hv=>by simpa using hv)<|QL I (λ_ _ f k=>Xcp f k.1.1.2 k.1.1.1 hL hz) λc11=>XA _ (λ_ _ f k=>k.2) λn11=>QMW 5 I ?_
 exact X4 (c11) rfl (wP I I) (by rw[hz]) λF h9=>⟨λh=>⟨hz,n11.1 h⟩,λh=>n11.2 h.2⟩
end Go.Proofs.YtphlgddkpboamaaGreatDoor
