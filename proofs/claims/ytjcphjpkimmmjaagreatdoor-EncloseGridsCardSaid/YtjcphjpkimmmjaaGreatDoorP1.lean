/- Steps of the proof of the theorem in the last file. -/
import Derived.Test.YtjcphjpkimmmjaaGreatDoorP0
import Derived.BigRegion
import Derived.StillTailTactics
import Derived.Deep.DeepCutAuto
import Derived.Deep.CutBlock
import Derived.Lib.AppendStr
import Derived.Lib.Builder
import Derived.Shelf.Strings.Builder1
import Derived.Test.YtjcphjpkimmmjaaGreatDoorChecked
import Derived.Lib.Walk
import Derived.Lib.ItoaMem
import Derived.WalkKit
import Derived.BigCall
import Derived.BigGuard
import Derived.Lib.ItoaNum
import Derived.Lib.Atoi
import Derived.Lib.Repeat
import Derived.Lib.IndexMore
import Derived.Lib.IndexBytes
set_option linter.all false
set_option maxHeartbeats 4000000
open Go.Lib renaming hid → aa,decDigits → ae,trimPrefix → ag,hasPrefix → ar,run_eql_slice_nil → av,byteCells → ay,nDigits → aG,decDigits_length → aP,bitLen → bw,zeros24 → eG,decDigits_one → eQ,repeatL → eY,cut → fe,strCells → fG,itoa → fQ,decFrom → fR,byteCells_length → fS,byteCells_append → fT,lt_pow_nDigits → ie,nDigits_small → ir,TabIs → iA,strCells_eq → iD,nDigits_big → iE,atoi → iI,indexByte → iK,pow10Tab → iT
open Nat renaming le_trans → ab,lt_of_lt_of_le → az,le_refl → aF,mul_le_mul_left → aL,zero_add → aX,lt_or_ge → aY,pow_succ → bp,pow_le_pow_right → bF,add_mul → bG,zero_le → bV,strongRecOn → ep,pow_le_pow_left → eI,add_assoc → eJ,add_sub_cancel → eL,mul_assoc → fj,add_sub_cancel_left → fp,zero_mul → fA,mul_comm → fB,le_of_ble_eq_true → fH,mul_le_mul_right → fJ,sub_add_cancel → ib,eq_zero_or_pos → ic,lt_of_not_le → ix,le_max_right → iy,le_max_left → iC,sub_zero → iM,gcd → iN,ble → iO,pow_one → iZ,pow_mul → lf,pow_add → lg,mul_one → lk,mul_add → lz
open Int renaming mul_le_mul_of_nonneg_left → af,mul_le_mul_of_nonneg_right → ai,mul_comm → aj,le_of_lt → aA,mul_ediv_add_emod → aB,mul_nonneg → aE,emod_lt_of_pos → aH,emod_nonneg → aK,toNat_natCast → aU,add_mul → aV,pow_succ → ba,natAbs_ediv_le_natAbs → bc,ediv_lt_of_lt_mul → bt,neg_mul → bI,ediv_nonneg → bN,add_zero → bO,tmod_lt_of_pos → bR,lt_trichotomy → bW,gcd → bX,mul_zero → ea,mul_ne_zero → eB,sub_mul → eF,one_mul → eX,natCast_pow → eZ,natCast_mul → e8,le_antisymm → e9,mul_ediv_cancel_left → fk,eq_ofNat_of_zero_le → fy,ediv_eq_zero_of_lt → fD,add_comm → fF,pow_add → fM,natAbs_of_nonneg → fN,emod_eq_of_lt → iq,pow_zero → iP,neg_tmod → iQ,gcd_comm → iR,emod_one → iS,mul_one → lC,mul_neg → lD,mul_add → lE,le_refl → lF
open Go.Value renaming bool → ah,int → ak,pointer → ax,ownBlock → fa
open List renaming take_of_length_le → ao,length_append → au,length_cons → aD,eq_nil_of_length_eq_zero → aI,replicate → aM,drop_zero → aN,take_append_drop → aO,take_succ_cons → aQ,drop_succ_cons → aR,perm_append_comm_assoc → aS,append_assoc → aT,length_drop → aW,drop_eq_getElem_cons → aZ,take_zero → bm,getElem?_append → bB,isPrefixOf → bK,takeWhile_cons → bL,flatten_append → bM,getElem?_append_left → bU,append_cons → bY,nil_append → bZ,singleton_append → er,perm_append_comm → eu,length_singleton → ew,getElem?_eq_none → ey,getD → eE,take_succ_eq_append_getElem → eN,flatMap_cons → eO,length_take → eT,cons_append → eU,length → eV,takeWhile_append_of_pos → eW,isEmpty_eq_false_iff → ff,getLast?_eq_getElem? → fg,getElem_cons_zero → fq,drop_of_length_le → fu,drop_eq_nil_of_le → fw,set_append_right → fC,replicate_succ' → fI,length_flatten → fK,dropWhile_cons → fL,contains_cons → fV,getElem_mem → ik,drop → il,all_eq_true → im,append_nil → iz,map_cons → iH
open Bool renaming eq_iff_iff → aq,and_eq_true → aw,or_eq_false_iff → bD,false_eq_true → bQ,not_eq_false' → eK,true_and → fh,false_or → fi,not_eq_true' → ij,or_eq_true → iB
open Rat renaming divInt → aC,num_intCast → ei,den_intCast → ek,sub_eq_add_neg → fZ,neg_divInt_neg → hJ,lt_iff → ia,divInt_ofNat → iw,num_divInt → iF,den_divInt → iG,floor_def → iJ,add_def' → iL,num_pow → iW,inv_def → iX,den_pow → iY
open Go.Builtin renaming zeroCells → aJ,append_ → fX
open Go.Value.slice renaming injEq → bf
open Go.IntWalk renaming i64_in → bh
open Go.Result renaming andThen_ok → bj
open Array renaming size_replicate → bz,ext' → bP,getElem?_eq_none → fm,getElem?_append → fz,replicate → iv
open And renaming intro → bA
open Go.Utf8 renaming decode → bC
open List.Perm renaming refl → bH
open Option.some renaming injEq → bJ
open ByteArray renaming toList → bS,size → eR,get! → fU,ext → fY
open UInt8.toNat renaming inj → bT
open Go.Sem renaming run_pure → eb,run_bind → ee
open Go.Proofs renaming enters_of → ef
open Go.World renaming cell? → eC,ownsRow_nil → fW
open Go.Instr renaming sureAddr → eD,loadAt → eM,next → iV
open Go.Obj renaming cells → eH
open Go.RowKit.Below renaming heap_alloc → eP,heap_setCell → fO
open UInt8 renaming ofNat → eS
open Go.Addr.mk renaming injEq → fb
open Go.Region renaming wanted → fc
open Go.Sort renaming grow → fl
open Go.Program renaming arrayLen → fP
open Go.Ending renaming returned → ig
open Go.Extern.AbiNoEscape renaming same → iu
open Go.Lib.decDigits renaming eq_1 → iU
open List.Sublist renaming cons_cons → lA,cons → lB
namespace Go.Proofs.YtjcphjpkimmmjaaGreatDoor
variable{ds o post u:List Int}{B b cap i j k m n off:Nat}{c:UInt8}{w w':World}{a z:Int}{α γ:Type}{x y:Operand}{l s:List UInt8}{T t yT:TypeId}{F F':Gs}{P:Program}{f:Obj->List (Nat×Obj)}{args cs olds:List Value}{bs' ob:List (Nat×Obj)}{G0:Gs->Prop}{fn:Func}{fr:Nat×Nat}{aft:Array Edge}
open Go.RowKit Ig
def Yv(u v:List Int)(n:Nat)(q r over:Int):Prop :=
 (0<=q/\q<W)/\(0<=r/\r<W)/\(0<=over/\over<=1)/\q*Qf v (n+1)+r+W*over=Qf u (n+2)*W+Qf u (n+1)/\dv W u<(q+1)*dv W v
abbrev GJ(u v:List Int)(n:Nat):Prop:=Wv W u v n
theorem Wv.jq{v:List Int}(h:GJ u v n)(hge:Qf v (n+1)<=Qf u (n+2)):
  Yv u v n (W - 1) (XW (Qf u (n+1)) (Qf v (n+1)) 0) (X5 (Qf u (n+1)) (Qf v (n+1)) 0):=by
 have e:Qf u (n+2)=Qf v (n+1):=e9 (Wv.top PJ h) hge
 obtain⟨a,b,c⟩:=Hk (Jg h.hu (n+1)) (Jg h.hv (n+1)) (by decide:(0:Int)<=0/\(0:Int)<=1)
 refine⟨wa,b,c,?_,?_⟩
 ·rw[e];grind
 ·have:=h.lt;rw[show W - 1+1=W from by omega];exact this
theorem Wv.jr{v:List Int}(h:GJ u v n)(hlt:Qf u (n+2)<Qf v (n+1)):
  Yv u v n (CE (Qf u (n+2)) (Qf u (n+1)) (Qf v (n+1))) (j3 (Qf u (n+2)) (Qf u (n+1)) (Qf v (n+1))) 0:=by
 obtain⟨a1,a2,a3⟩:=Yq PJ h.hu h.lu
 obtain⟨b1,b2,b3⟩:=VN PJ h.hv h.lv
 have d0:=Jg h.hu (n+2)
 have d1:=Jg h.hu n
 have d2:=Jg h.hu (n+1)
 have d3:=Jg h.hv n
 have d4:=Jg h.hv (n+1)
 have hp:=pow_pos Jx n
 have hz:=h.nz
 have hW:=Jx
 unfold CE j3
 unfold Yv
 rw[a1,b1]
 generalize W^n=D at *
 generalize dv W (v.take n)=v' at *
 generalize dv W (u.take n)=u' at *
 generalize Qf u (n+2)=u0 at *
 generalize Qf u (n+1)=u1 at *
 generalize Qf u n=u2 at *
 generalize Qf v (n+1)=v1 at *
 generalize Qf v n=v2 at *
 have m0:0<=u0*W:=aE d0.1 O
 have m1:(u0+1)*W<=v1*W:=ai O O
 have q1:=aB (u0*W+u1) v1
 have q2:=aK (u0*W+u1) (by omega:v1≠0)
 have q3:=aH (u0*W+u1) hz
 have q4:0<=(u0*W+u1) / v1:=bN O O
 have q5:(u0*W+u1) / v1<W:=by
  refine bt hz ?_
  rw[aV]at m1;rw[aj W v1];omega
 generalize (u0*W+u1) / v1=q at *
 generalize (u0*W+u1)%v1=r at *
 refine⟨⟨q4,q5⟩,⟨q2,O⟩,O,by rw[aj q v1];omega,?_⟩
 have k1:(u0*W+u1+1)<=(q+1)*v1:=by rw[aV,aj q v1];omega
 have k2:(u0*W+u1+1)*(W*D)<=(q+1)*v1*(W*D):=ai k1 (aE O O)
 have k3:0<=(q+1)*(v2*D):=aE O (aE d3.1 O)
 have k4:0<=(q+1)*v':=aE O b2
 have k5:(u2+1)*D<=W*D:=ai O O
 grind
theorem Yv.less{v:List Int}{q r:Int}(h:GJ u v n)(g:Yv u v n q r 0)(hb:r*W+Qf u n<q*Qf v n):
  Yv u v n (q - 1) (XW r (Qf v (n+1)) 0) (X5 r (Qf v (n+1)) 0):=by
 obtain⟨g1,g2,g3,g4,g5⟩:=g
 obtain⟨a1,a2,a3⟩:=Yq PJ h.hu h.lu
 obtain⟨b1,b2,b3⟩:=VN PJ h.hv h.lv
 obtain⟨a,b,c⟩:=Hk g2 (Jg h.hv (n+1)) (by decide:(0:Int)<=0/\(0:Int)<=1)
 have hp:=pow_pos Jx n
 have d1:=Jg h.hu n
 have d3:=Jg h.hv n
 have q1:1<=q:=by
  refine Int.not_lt.1 λhc=>?_
  have:q=0:=O
  subst this
  have:0<=r*W:=aE g2.1 wa
  omega
 refine⟨O,b,c,?_,?_⟩
 ·have:(q - 1)*Qf v (n+1)=q*Qf v (n+1) - Qf v (n+1):=by grind
  omega
 ·rw[show q - 1+1=q from by omega,a1,b1]
  refine SE b2 a3 hp O ?_
  generalize Qf u (n+2)=u0 at *
  generalize Qf u (n+1)=u1 at *
  generalize Qf u n=u2 at *
  generalize Qf v (n+1)=v1 at *
  generalize Qf v n=v2 at *
  have e:q*(v1*W+v2)=(q*v1+r)*W - r*W+q*v2:=by grind
  have e2:q*v1+r=u0*W+u1:=O
  rw[e,e2];omega
theorem Yv.fin{v:List Int}{q r over:Int}(h:GJ u v n)(g:Yv u v n q r over)(hb:over=0->q*Qf v n<=r*W+Qf u n):
  (q - 1)*dv W v<=dv W u/\dv W u<(q+1)*dv W v:=by
 obtain⟨g1,g2,g3,g4,g5⟩:=g
 refine⟨?_,g5⟩
 obtain⟨a1,a2,a3⟩:=Yq PJ h.hu h.lu
 obtain⟨b1,b2,b3⟩:=VN PJ h.hv h.lv
 have hp:=pow_pos Jx n
 have d1:=Jg h.hu n
 have d3:=Jg h.hv n
 have d4:=Jg h.hv (n+1)
 have hz:=h.nz
 rw[a1,b1]
 have hR:q*Qf v n<=(r+W*over)*W+Qf u n:=by
  have:over=0\/over=1:=O
  rcases this with rfl | rfl
  ·simpa using hb rfl
  ·have k1:q*Qf v n<=W*W:=Int.mul_le_mul O O d3.1 wa
   have k2:0<=r*W:=aE g2.1 wa
   have e:(r+W*1)*W=r*W+W*W:=by grind
   rw[e];omega
 refine Iy hp b3 a2 g1.1 ?_ ?_ b2
 ·generalize Qf u (n+2)=u0 at *
  generalize Qf u (n+1)=u1 at *
  generalize Qf u n=u2 at *
  generalize Qf v (n+1)=v1 at *
  generalize Qf v n=v2 at *
  rw[<-g4]
  grind
 ·have k1:1*W<=Qf v (n+1)*W:=ai O wa
  omega
def MI(u v:List Int)(q:Int)(k:Nat)(ds:List Int)(b c:Int):Prop :=
 ds.length=k/\DG W ds/\(0<=b/\b<=1)/\(0<=c/\c<W)/\dv W ds - W^k*(b+c)=dv W (u.take k) - q*dv W (v.take k)
theorem MI.start(u v:List Int)(q:Int):MI u v q 0 [] 0 0:=⟨rfl,DG.nil _,wa,wa,we⟩
theorem MI.step{v:List Int}{q b c:Int}(h:MI u v q k ds b c)(hu:DG W u)(hv:DG W v)(hq:0<=q/\q<W):
  MI u v q (k+1) (ds++[Zt (Qf u k) (XW (XE q (Qf v k)) c 0) b]) (V0 (Qf u k) (XW (XE q (Qf v k)) c 0) b)
   (ZE q (Qf v k)+X5 (XE q (Qf v k)) c 0):=by
 obtain⟨h1,h2,h3,h4,h5⟩:=h
 obtain⟨_,m1,m2,m3,m4,_,_⟩:=Pa hq (Jg hv k) h4 (by decide:(0:Int)<=0/\(0:Int)<W)
 obtain⟨a1,_,_⟩:=Hk m1 h4 (by decide:(0:Int)<=0/\(0:Int)<=1)
 obtain⟨s1,s2,s3⟩:=EU (Jg hu k) m2 h3
 have e1:XE q (Qf v k)+W*ZE q (Qf v k)=q*Qf v k:=by unfold XE ZE;rw[fF];exact aB _ _
 refine⟨by simp[h1],h2.append (DG.cons s2.1 s2.2 (DG.nil _)),s3,m3,?_⟩
 rw[Xl,h1,XP,XP,ba]
 generalize XE q (Qf v k)=lo at *
 generalize ZE q (Qf v k)=hi at *
 generalize X5 lo c 0=ch at *
 generalize XW lo c 0=cl at *
 generalize V0 (Qf u k) cl b=sh at *
 generalize Zt (Qf u k) cl b=sl at *
 generalize Qf u k=a at *
 generalize Qf v k=x at *
 have e2:W^k*(sl - W*sh)=W^k*(a - cl - b):=by rw[s1]
 have e3:W^k*(cl+W*ch)=W^k*(lo+c+0):=by rw[a1]
 have e4:W^k*(lo+W*hi)=W^k*(q*x):=by rw[e1]
 grind
theorem kP{v:List Int}{q b c:Int}(h:GJ u v n)(m:MI u v q (n+2) ds b c)(hq:(q - 1)*dv W v<=dv W u/\dv W u<(q+1)*dv W v)
  (hb:V0 (Qf u (n+2)) c b=0) :
  DG W (ds++[Zt (Qf u (n+2)) c b])/\q=dv W u / dv W v/\dv W (ds++[Zt (Qf u (n+2)) c b])=dv W u%dv W v:=by
 obtain⟨h1,h2,h3,h4,h5⟩:=m
 obtain⟨s1,s2,s3⟩:=EU (Jg h.hu (n+2)) h4 h3
 rw[ao (by have:=h.lv;omega:v.length<=n+2)]at h5
 have e:=XP u (n+2)
 rw[ao (by have:=h.lu;omega:u.length<=n+2+1)]at e
 have hD:DG W (ds++[Zt (Qf u (n+2)) c b]):=h2.append (DG.cons s2.1 s2.2 (DG.nil _))
 have h0:=Q8 Jx hD
 have hvp:0<dv W v:=by
  have:=h.lt;have:=Q8 Jx h.hu
  refine Int.not_le.1 λhc=>?_
  have:W*dv W v<=W*0:=af hc wa
  omega
 have hv:dv W (ds++[Zt (Qf u (n+2)) c b])=dv W u - q*dv W v:=by
  rw[Xl,h1,e];rw[hb]at s1
  generalize Zt (Qf u (n+2)) c b=sl at *
  have:W^(n+2)*(sl - W*0)=W^(n+2)*(Qf u (n+2) - c - b):=by rw[s1]
  grind
 rw[hv]at h0 ⊢
 refine⟨hD,(ZN hvp O hq.2).symm,(YY O hq.2).symm⟩
theorem pX{v es:List Int}{q b c k:Int}(h:GJ u v n)(m:MI u v q (n+2) ds b c)(hq:(q - 1)*dv W v<=dv W u/\dv W u<(q+1)*dv W v)
  (hb:V0 (Qf u (n+2)) c b=1) (ha:NB ds v (n+2) es k) :
  q - 1=dv W u / dv W v/\dv W es=dv W u%dv W v/\Zt (Qf u (n+2)) c b+k=W:=by
 obtain⟨h1,h2,h3,h4,h5⟩:=m
 obtain⟨a1,a2,a3,a4⟩:=ha
 obtain⟨s1,s2,s3⟩:=EU (Jg h.hu (n+2)) h4 h3
 rw[ao (by have:=h.lv;omega:v.length<=n+2)]at h5 a4
 rw[ao (by omega:ds.length<=n+2)]at a4
 have e:=XP u (n+2)
 rw[ao (by have:=h.lu;omega:u.length<=n+2+1)]at e
 have hvp:0<dv W v:=by
  have:=h.lt;have:=Q8 Jx h.hu
  refine Int.not_le.1 λhc=>?_
  have:W*dv W v<=W*0:=af hc wa
  omega
 have d1:=KE Jx a2
 have d0:=Q8 Jx a2
 have dd0:=Q8 Jx h2
 have dd1:=KE Jx h2
 have v1:=KE Jx h.hv
 rw[h.lv]at v1
 rw[a1]at d1
 rw[h1]at dd1
 rw[hb]at s1
 have hp:=pow_pos Jx (n+2)
 generalize Zt (Qf u (n+2)) c b=sl at *
 have key:dv W ds+W^(n+2)*(sl - W)=dv W u - q*dv W v:=by
  have s2:W^(n+2)*(sl - W)=W^(n+2)*Qf u (n+2) - W^(n+2)*(b+c):=by
   rw[<-Int.mul_sub];congr 1;omega
  rw[e,s2];omega
 have hneg:dv W u<q*dv W v:=by
  have:W^(n+2)*(sl - W)<=W^(n+2)*(-1):=af O O
  omega
 have e1:(q - 1)*dv W v=q*dv W v - dv W v:=by rw[eF,eX]
 have e2:(q - 1+1)*dv W v=q*dv W v:=by rw[show q - 1+1=q from by omega]
 have hR:dv W u - (q - 1)*dv W v=dv W es+W^(n+2)*(sl+k - W):=by
  have e3:W^(n+2)*(sl+k - W)=W^(n+2)*(sl - W)+W^(n+2)*k:=by rw[<-lE];congr 1;omega
  omega
 have hk:sl+k=W:=by
  have r0:0<=dv W u - (q - 1)*dv W v:=O
  have r1:dv W u - (q - 1)*dv W v<W^(n+2):=O
  rw[hR]at r0 r1
  rcases bW (sl+k) W with g | g | g
  ·have:W^(n+2)*(sl+k - W)<=W^(n+2)*(-1):=af O O
   omega
  ·exact g
  ·have:W^(n+2)*1<=W^(n+2)*(sl+k - W):=af O O
   omega
 refine⟨(ZN hvp O (by rw[e2];exact hneg)).symm,?_,hk⟩
 rw[YY (q:=q - 1) O (by rw[e2];exact hneg),hR,hk];simp
structure Dd(B:Nat)(w w':World):Prop where
 os:w'.os=w.os
 tape:w'.tape=w.tape
 output:w'.output=w.output
 size:w.heap.size<=w'.heap.size
 block:∀k,k<w.heap.size->k≠B->w'.heap[k]?=w.heap[k]?
theorem Dd.refl(B:Nat)(w:World):Dd B w w:=⟨rfl,rfl,rfl,aF _,λ_ _ _=>rfl⟩
theorem Dd.QBg(B:Nat)(h:Ext w w'):Dd B w w':=⟨h.os,h.tape,h.output,h.size,λk hk _=>h.block k hk⟩
theorem Dd.trans{a b c:World}(h:Dd B a b)(k:Dd B b c):Dd B a c :=
 ⟨k.os.trans h.os,k.tape.trans h.tape,k.output.trans h.output,ab h.size k.size,λi hi hn=>(k.block i (az hi h.size) hn).trans (h.block i hi hn)⟩
theorem Dd.ext{a b c:World}(h:Dd B a b)(k:Ext b c):Dd B a c:=h.trans (Dd.QBg B k)
theorem Dd.drew{a b:World}(h:Dd B a b):Dd B a b.drew:=⟨h.os,h.tape,h.output,h.size,h.block⟩
theorem Dd.setCell{a b:World}(h:Dd B a b)(off:Nat)(v:Value):Dd B a (b.setCell ⟨B,off,none⟩ v) :=
 h.trans ⟨rfl,rfl,rfl,by simp[World.setCell],λk _ hn=>fO _ _ _ _ hn⟩
theorem Dd.QBB{a b c:World}(h:Dd B b c)(k:Ext a b)(hB:a.heap.size<=B):Ext a c :=
 ⟨h.os.trans k.os,h.tape.trans k.tape,h.output.trans k.output,ab k.size h.size,λi hi=>(h.block i (az hi k.size) O).trans (k.block i hi)⟩
theorem Dd.cell(h:Dd B w w'){p:Addr}{v:Value}(hp:p.block≠B)(hv:w.cell? p=some v):w'.cell? p=some v:=by
 rw[World.cell?_of_block (w:=w) (h.block p.block (World.block_lt_of_cell? w p hv) hp)];exact hv
theorem Dd.cells[Inhabited α]{B:Nat}{w w':World}(h:Dd B w w'){q:Option Addr}{enc:EB α}{l:List α}(hq:∀a,q=some a->a.block≠B)(hc:Cells w q enc l):Cells w' q enc l:=by
 intro i hi;obtain⟨b,off,h1,h2,h3⟩:=hc i hi
 exact⟨b,off,h1,(by obtain⟨c,fr,e⟩:=id h2;exact⟨c,fr,by rw[h.block b h2.lt (show b≠B from hq ⟨b,off,none⟩ h1)];exact e⟩),h.cell (p:=⟨b,off+i,none⟩) (show b≠B from hq ⟨b,off,none⟩ h1) h3⟩
theorem Dd.BA{E:Nat}(h:Dd B w w'){enc:EB α}{l:List α}(hb:b≠B)(k:KX w b E enc l):KX w' b E enc l:=by
 unfold KX;rw[h.block b k.lt hb];exact k
theorem On{pre r:List Int}{x:Int}(hj:pre.length=j)(hk:ds.length=k):(pre++((ds++x::r)++post)).getD (j+k) default=x:=by
 subst hj hk;simp[eE]
theorem Om{pre r:List Int}{x:Int}(hj:pre.length=j)(hk:ds.length=k):j+k<(pre++((ds++x::r)++post)).length:=by
 subst hj hk;simp
theorem Pb{pre r:List Int}{x:Int}(hj:pre.length=j)(hk:ds.length=k)(y:Int):(pre++((ds++x::r)++post)).set (j+k) y=pre++((ds++y::r)++post):=by
 subst hj;rw[fC _ _ O,fp,aT,eU,G3 _ _ _ _ _ hk,aT,eU]
theorem Ox{l:List Int}(h:DG W l)(hn:NZ l)(h1:W^n<=dv W l)(h2:dv W l<W^(n+1)):l.length=n+1:=by
 have a:=KE Jx h
 have hl:l≠[]:=by rintro rfl;have:=pow_pos Jx n;simp at h1;omega
 have b:=Nk Jx h hn hl
 have hlen:0<l.length:=List.length_pos_iff.2 hl
 rcases Nat.lt_trichotomy l.length (n+1)with g | g | g
 ·have:=X1 (b:=W) wa (m:=l.length) (n:=n) O;omega
 ·exact g
 ·have:=X1 (b:=W) wa (m:=n+1) (n:=l.length - 1) O;omega
def cS(la:List Int)(y:Int)(k:Nat)(qs:List Int)(r:Int):Prop :=
 qs.length+k=la.length/\DG W qs/\(0<=r/\r<y)/\dv W (la.drop k)=y*dv W qs+r
theorem cS.step{la qs:List Int}{y r:Int}(h:cS la y (k+1) qs r)(ha:DG W la)(hy:0<y/\y<W):
  cS la y k (CE r (Qf la k) y::qs) (j3 r (Qf la k) y):=by
 obtain⟨h1,h2,h3,h4⟩:=h
 have hd:=Jg ha k
 have m0:0<=r*W:=aE h3.1 wa
 have m1:(r+1)*W<=y*W:=ai O wa
 have q1:=aB (r*W+Qf la k) y
 have q2:=aK (r*W+Qf la k) (by omega:y≠0)
 have q3:=aH (r*W+Qf la k) hy.1
 have q4:0<=(r*W+Qf la k) / y:=bN O O
 have q5:(r*W+Qf la k) / y<W:=by
  refine bt hy.1 ?_
  rw[aV]at m1;rw[aj W y];omega
 refine⟨wg,DG.cons q4 q5 h2,⟨q2,q3⟩,?_⟩
 rw[XZ O,KV,KV,h4]
 unfold CE j3
 generalize (r*W+Qf la k) / y=q at *
 generalize (r*W+Qf la k)%y=t at *
 grind
def Wt(U V:Int)(n k m:Nat)(o qs:List Int):Prop :=
 o.length=m+1/\DG W o/\qs.length+k=m - (n+2)+1/\DG W qs/\U=V*(W^k*dv W qs)+dv W o/\dv W o<W^k*V
theorem Wt.start{s:Nat}{A B:Int}(ho:o.length=m+1)(hd:DG W o)(hv:dv W o=A*p2 s)(hs:s<64)(hA:A<W^m)
  (hB:W^(n+1)*9223372036854775808<=B*p2 s) (hm:n+2<=m):Wt (A*p2 s) (B*p2 s) n (m - (n+2)+1) m o []:=by
 refine⟨ho,hd,we,DG.nil _,by simp[hv],?_⟩
 rw[hv]
 have hp:=QAK hs
 have hp0:=Ym s
 have k1:A*p2 s<W^m*p2 s:=Int.mul_lt_mul_of_pos_right hA hp0
 have k2:W^m*p2 s<=W^m*9223372036854775808:=af (by have:=Hm;omega) (aA (pow_pos Jx m))
 have k3:W^(m - (n+2)+1)*(W^(n+1)*9223372036854775808)<=W^(m - (n+2)+1)*(B*p2 s):=af hB (aA (pow_pos Jx _))
 have e:W^(m - (n+2)+1)*(W^(n+1)*9223372036854775808)=W^m*9223372036854775808:=by
  rw[<-Int.mul_assoc,<-fM,show m - (n+2)+1+(n+1)=m from by omega]
 omega
theorem Wt.QAy{U V:Int}{qs v:List Int}(h:Wt U V n (j+1) m o qs)(hv:DG W v)(lv:v.length=n+2)(nz:0<Qf v (n+1))(hV:dv W v=V)(_hm:n+2<=m):
  ∃pre u post,o=pre++(u++post)/\pre.length=j/\GJ u v n/\dv W post=0/\post.length=m - (j+n+2)/\j+n+2<=m:=by
 obtain⟨h1,h2,h3,h4,h5,h6⟩:=h
 have hj:j+n+2<=m:=O
 have e1:o=o.take j++((o.drop j).take (n+3)++(o.drop j).drop (n+3)):=by rw[aO,aO]
 have l1:(o.take j).length=j:=by rw[eT];omega
 have l2:((o.drop j).take (n+3)).length=n+3:=by rw[eT,aW];omega
 have l3:((o.drop j).drop (n+3)).length=m - (j+n+2):=by rw[aW,aW];omega
 have d1:DG W (o.take j):=h2.take j
 have d2:DG W ((o.drop j).take (n+3)):=(h2.drop j).take _
 have d3:DG W ((o.drop j).drop (n+3)):=(h2.drop j).drop _
 have e2:dv W o=dv W (o.take j)+W^j*(dv W ((o.drop j).take (n+3))+W^(n+3)*dv W ((o.drop j).drop (n+3))):=by
  rw[Ve W o j O,Ve W (o.drop j) (n+3) (by rw[aW];omega)]
 generalize o.take j=pre at *
 generalize (o.drop j).take (n+3)=u at *
 generalize (o.drop j).drop (n+3)=post at *
 have n1:=Q8 Jx d1
 have n2:=Q8 Jx d2
 have n3:=Q8 Jx d3
 have hp:=pow_pos Jx j
 have vlt:=KE Jx hv
 rw[lv,hV]at vlt
 have e3:W^(j+1)*V=W^j*(W*V):=by rw[ba];grind
 have hU:dv W u+W^(n+3)*dv W post<W*V:=by
  refine Int.not_le.1 λhc=>?_
  have:=af hc (aA hp)
  omega
 have hpost:dv W post=0:=by
  refine e9 (Int.not_lt.1 λhc=>?_) n3
  have k1:W^(n+3)*1<=W^(n+3)*dv W post:=af O (aA (pow_pos Jx _))
  have k2:W*V<=W*W^(n+2):=af O wa
  have k3:W^(n+3)=W*W^(n+2):=by rw[ba];grind
  omega
 refine⟨pre,u,post,e1,l1,⟨d2,hv,l2,lv,nz,?_⟩,hpost,l3,hj⟩
 rw[hpost]at hU;rw[hV];simpa using hU
theorem Wt.step{U V:Int}{pre u qs v u':List Int}(h:Wt U V n (j+1) m (pre++(u++post)) qs)(lj:pre.length=j)(lu:u.length=n+3)
  (hd':DG W u') (lu':u'.length=n+3) (hV:dv W v=V) (hVp:0<V) (hpost:dv W post=0) (hq:dv W u / dv W v<W) (hu0:0<=dv W u) (hval:dv W u'=dv W u%dv W v) :
  Wt U V n j m (pre++(u'++post)) (dv W u / dv W v::qs):=by
 obtain⟨h1,h2,h3,h4,h5,h6⟩:=h
 rw[hV]at *
 have q0:0<=dv W u / V:=bN hu0 O
 have q1:=aB (dv W u) V
 have r0:=aK (dv W u) (by omega:V≠0)
 have r1:=aH (dv W u) hVp
 have dpre:DG W pre:=h2.left
 have dpost:DG W post:=h2.right.right
 have p1:=KE Jx dpre
 rw[lj]at p1
 have hp:=pow_pos Jx j
 rw[Z4,Z4,lj,hpost]at h5 h6
 refine⟨by simp at h1 ⊢;omega,dpre.append (hd'.append dpost),wg,DG.cons q0 hq h4,?_,?_⟩
 ·rw[Z4,Z4,lj,hpost,KV,hval,h5,ba]
  generalize dv W u / V=q at *
  generalize dv W u%V=r at *
  have e:W^j*(V*q+r)=W^j*dv W u:=by rw[q1]
  grind
 ·rw[Z4,Z4,lj,hpost,hval]
  have k1:W^j*(dv W u%V+1)<=W^j*V:=af O O
  rw[lE]at k1
  simp only[ea,bO]
  omega
def Vy(o:List Int)(s k:Nat)(ds:List Int):Prop :=
 ds.length=k/\DG W ds/\dv W ds*p2 s+Qf o 0%p2 s=dv W (o.take k)+W^k*(Qf o k%p2 s)
theorem Vy.start(o:List Int)(s:Nat):Vy o s 0 []:=⟨rfl,DG.nil _,we⟩
theorem Cn{x:Int}{s:Nat}(hs:s<64)(hx:0<=x/\x<W):0<=x / p2 s/\x / p2 s<p2 (64 - s):=by
 refine⟨bN hx.1 (aA (Ym s)),bt (Ym s) ?_⟩
 rw[G9 hs];exact hx.2
theorem Vy.step{s:Nat}(h:Vy o s k ds)(ho:DG W o)(hs:s<64)(hs0:0<s):
  Vy o s (k+1) (ds++[Qf o k / p2 s+Qf o (k+1)*p2 (64 - s)%W]):=by
 obtain⟨h1,h2,h3⟩:=h
 have hx:=Jg ho k
 have b:=Cn hs hx
 obtain⟨_,c⟩:=AE (x:=Qf o (k+1)) (s:=64 - s) O b.1 b.2
 have hy:0<=Qf o (k+1)*p2 (64 - s)%W:=aK _ wa
 refine⟨by simp[h1],h2.append (DG.cons O c (DG.nil _)),?_⟩
 rw[Xl,h1,XP,ba]
 have e1:Qf o (k+1)*p2 (64 - s)%W=p2 (64 - s)*(Qf o (k+1)%p2 s):=by
  have:=Co (x:=Qf o (k+1)) (s:=64 - s) O
  rw[show 64 - (64 - s)=s from by omega]at this;exact this
 rw[e1]
 have e2:=aB (Qf o k) (p2 s)
 have e3:=G9 hs
 generalize Qf o k / p2 s=a at *
 generalize Qf o k%p2 s=b' at *
 generalize Qf o (k+1)%p2 s=c' at *
 have e4:W^k*(p2 s*a+b')=W^k*Qf o k:=by rw[e2]
 have e5:W^k*(p2 (64 - s)*p2 s)*c'=W^k*W*c':=by rw[e3]
 grind
theorem Vy.dN(h:Vy o 0 k ds)(ho:DG W o):Vy o 0 (k+1) (ds++[Qf o k / p2 0]):=by
 obtain⟨h1,h2,h3⟩:=h
 have hx:=Jg ho k
 simp only[AD,iS,Int.ediv_one,lC,ea,bO]at *
 exact⟨by simp[h1],h2.append (DG.cons hx.1 hx.2 (DG.nil _)),by simp only[AD,iS,lC,ea,bO];rw[Xl,h1,h3,XP]⟩
theorem ug{qs:List Int}{s:Nat}{A B:Int}(h:Wt (A*p2 s) (B*p2 s) n 0 m o qs)(hs:s<64)(hB:0<B)(hBn:B*p2 s<W^(n+2))(hm:n+2<=m)
  (hr:Vy o s (n+2) ds):dv W qs=A / B/\dv W ds=A%B:=by
 obtain⟨h1,h2,h3,h4,h5,h6⟩:=h
 obtain⟨r1,r2,r3⟩:=hr
 simp only[iP,eX]at h5 h6
 have hp:=Ym s
 have n0:=Q8 Jx h2
 have e2:=Ve W o (n+2) O
 have t0:=Q8 Jx (h2.take (n+2))
 have t1:=Q8 Jx (h2.drop (n+2))
 have z:dv W (o.drop (n+2))=0:=by
  refine e9 (Int.not_lt.1 λhc=>?_) t1
  have k1:W^(n+2)*1<=W^(n+2)*dv W (o.drop (n+2)):=af O (aA (pow_pos Jx _))
  omega
 have zd:Qf o (n+2)=0:=by
  have e3:=XZ (l:=o) (k:=n+2) O
  rw[e3,KV]at z
  have d0:=Jg h2 (n+2)
  have d1:=Q8 Jx (h2.drop (n+2+1))
  have d2:0<=W*dv W (o.drop (n+2+1)):=aE wa d1
  omega
 rw[zd,Int.zero_emod,ea,bO]at r3
 rw[z,ea,bO]at e2
 have hmod:Qf o 0%p2 s=0:=by
  have f1:dv W o=Qf o 0+W*dv W (o.drop 1):=by
   have:=XZ (l:=o) (k:=0) O
   rw[aN]at this
   rw[congrArg (dv W) this,KV]
  have f2:dv W o=p2 s*(A - B*dv W qs):=by grind
  have f3:Qf o 0=p2 s*(A - B*dv W qs - p2 (64 - s)*dv W (o.drop 1)):=by
   have:=G9 hs
   have e:Qf o 0=p2 s*(A - B*dv W qs) - W*dv W (o.drop 1):=O
   rw[e,<-this];grind
  rw[f3];exact Int.mul_emod_right _ _
 rw[hmod,bO,<-e2]at r3
 have key:A=B*dv W qs+dv W ds:=by
  have:p2 s*A=p2 s*(B*dv W qs+dv W ds):=by rw[aj,h5,<-r3];grind
  exact Int.eq_of_mul_eq_mul_left O this
 have hlt:dv W ds<B:=by
  refine Int.not_le.1 λhc=>?_
  have:=ai hc (aA hp)
  omega
 have hds:=Q8 Jx r2
 have g1:dv W qs*B<=A:=by rw[aj];omega
 have g2:A<(dv W qs+1)*B:=by rw[aV,aj (dv W qs)];omega
 exact⟨(ZN hB g1 g2).symm,by rw[YY g1 g2,aj (dv W qs)];omega⟩
def FH(A B:Int)(r:Value)(w':World):Prop :=
 ∃p p' lq lr,r = .tuple #[p,p']/\SL w' p Jl lq/\SL w' p' Jl lr/\(DG W lq/\NZ lq)/\(DG W lr/\NZ lr)/\dv W lq=A / B/\dv W lr=A%B
theorem Bh{x y:Int}(h:y<=x):0<=YP x y:=by unfold YP;split<;>(try split)<;>omega
theorem LM(v v':Value)(la lb:List Int)(w:World)(ha:DG W la)(hb:DG W lb)(na:NZ la)(nb:NZ lb)(hs:SL w v Jl la)(hs':SL w v' Jl lb)(hlt:dv W la<dv W lb):
  Calls Tryz.prog 286 #[v,v'] w λe w'=>Zw w (FH (dv W la) (dv W lb)) e w':=by
 have H3:=aa (Hh hlt)
 have H0:=aa (Q8 Jx ha)
 have HL:=aa hlt
 clear hlt
 go_enter Tryz.func286,Tryz.ntmps286
 go_wp2_with (go_at_call 279;refine(Z5 _ _ _ _ _ ha hb na nb hs hs').mono ?_;rw[H3.out];rintro e w' ⟨rfl,hx⟩)
 go_ret2
 exact⟨_,rfl,⟨_,_,[],la,rfl,SL.nil _ _,hs.ext hx,⟨DG.nil _,by simp[NZ]⟩,⟨ha,na⟩,(fD H0.out HL.out).symm,(iq H0.out HL.out).symm⟩,hx⟩
theorem Fw(x z:α)(k:Nat)(qs:List α):(aM (k+1) z++qs).set k x=aM k z++x::qs:=by
 rw[fI,aT,fC _ _ we];simp
set_option maxRecDepth 100000 in
set_option maxHeartbeats 800000 in
theorem CC(v:Value)(q':Option Addr)(cap':Nat)(la:List Int)(y:Int)(w:World)(ha:DG W la)(hy:0<y/\y<W)(na:NZ la)(hs:SL w v Jl la)(hs':SL w (.slice q' 1 cap') Jl [y])(hge:y<=dv W la)(h1:la.length<=100000000000):
  Calls Tryz.prog 286 #[v,.slice q' 1 cap'] w λe w'=>Zw w (FH (dv W la) y) e w':=by
 have H3:0<=YP (dv W la) y:=Bh hge
 have hb:DG W [y]:=DG.cons O hy.2 (DG.nil _)
 have nb:NZ [y]:=by simp[NZ];omega
 have HS:=aa hs
 obtain⟨q,cap,rfl,hcap,hmax,hca⟩:=hs
 have HA:=aa hca
 have HS':=aa hs'
 obtain⟨q2,cap2,e2,hcap2,hmax2,hcb⟩:=hs'
 obtain⟨by1,oy,hq,hby,hcy⟩:=hcb 0 we
 simp only[aD,List.length_nil,bf]at e2
 obtain⟨rfl,_,rfl⟩:=e2
 subst hq
 have hcy:w.cell? ⟨by1,oy,none⟩=some (.int .u64 y):=by simpa[Jl]using hcy
 have hmk:=λw=>Yz la.length O w
 clear hca hcb
 go_enter Tryz.func286,Tryz.ntmps286
 go_wp2_with (go_at_call 279;refine(Z5 _ _ _ _ _ ha hb na nb HS.out HS'.out).mono ?_;rintro e w1 ⟨rfl,hx1⟩)
 go_loopw [8,7] (λi r wr=>∃(k:Nat) (qs:List Int) (rr:Int),k<=la.length/\i = .int .i64 ((k:Int) - 1)/\r = .int .u64 rr/\cS la y k qs rr/\KX wr w1.heap.size 297 Jl (aM k 0++qs)/\Ext w1 wr)
  (λi _ _=>(intOf i+1).toNat)
 case atStart=>exact⟨la.length,[],0,aF _,rfl,rfl,⟨we,DG.nil _,⟨lF _,hy.1⟩,we⟩,by rw[iz];exact KX.made w1 _ Jl 0 _ _ I,(Ext.refl _).alloc _⟩
 case round =>
  obtain⟨k,qs,rr,hk,rfl,rfl,hI,hB,hE⟩:=hrel
  clear hmk
  cases k with
  |zero =>
   obtain⟨i1,i2,i3,i4⟩:=hI
   have hW:=Hm
   have hdr:DG W [rr]:=DG.cons i3.1 O (DG.nil _)
   simp only[List.replicate_zero,bZ]at hB
   have hSL:=SL.BS hB la.length O O
   rw[ao O,show qs.length=la.length from by omega]at hSL
   have HSL:=aa hSL
   have HB:=aa hB
   have HF:Hid (dv W qs=dv W la / y/\rr=dv W la%y):=by
    rw[aN]at i4
    have g1:dv W qs*y<=dv W la:=by rw[aj];omega
    have g2:dv W la<(dv W qs+1)*y:=by rw[aV,aj (dv W qs)];omega
    exact⟨(ZN hy.1 g1 g2).symm,by rw[YY g1 g2,aj (dv W qs)];omega⟩
   clear hSL hB i1 i4 hW
   go_wp2_with fail
   refine(VZ _ _ _ HSL.out).mono ?_
   rintro e w' ⟨⟨v1,rfl,hv1⟩,rfl⟩
   go_wp2_with fail
   refine(VZ _ [rr] _ ⟨_,1,rfl,aF _,wa,(KX.new _ 297 Jl [rr] _ I).row.cells (KX.new _ 297 Jl [rr] _ I).SF⟩).mono ?_
   rintro e w' ⟨⟨v2,rfl,hv2⟩,rfl⟩
   go_wp2
   go_ret2
   refine⟨_,rfl,⟨_,_,_,_,rfl,hv1.ext ((Ext.refl _).alloc _),hv2,⟨i2.JH,ZW _⟩,⟨hdr.JH,ZW _⟩,by rw[Xe];exact HF.out.1,by rw[Xe];simpa using HF.out.2⟩,(hx1.trans hE).alloc _⟩
  |succ k =>
   have hlt:k<la.length:=O
   have hst:=hI.step ha hy
   obtain⟨i1,i2,i3,i4⟩:=hI
   obtain⟨b,off,rfl,hba,hc⟩:=HA.out k hlt
   rw[YS hlt]at hc
   simp only[Jl]at hc
   have hx2:=hx1.trans hE
   have hc:=hx2.cell hc
   have hcy2:=hx2.cell hcy
   have hx:=Jg ha k
   have hlen:k<(aM (k+1) 0++qs).length:=wg
   have hcell:=hB.cell hlen
   have hz:(aM (k+1) (0:Int)++qs).getD k default=0:=by simp[eE,bU]
   rw[hz]at hcell
   simp only[Jl]at hcell
   have hfr:=hB.frozen k
   have HB:=aa hB
   have HST:=aa hst
   have e1:((k+1:Nat):Int) - 1=(k:Int):=O
   have hk0:(0:Int)<=(k:Int):=O
   have hk1:(k:Int)<(la.length:Int):=O
   have hbne:b≠w1.heap.size:=by have:=az hba.lt hx1.size;omega
   have hyne:by1≠w1.heap.size:=by have:=az hby.lt hx1.size;omega
   clear hB hlen hz hst i4 i1
   rw[e1]
   clear e1
   go_wp2
   go_region_held3 (λw'=>w'.cell? ⟨b,off+k,none⟩=some (.int .u64 (Qf la k))/\w'.cell? ⟨by1,oy,none⟩=some (.int .u64 y))
    (first | exact⟨hdx.cell hc,hdx.cell hcy2⟩ | exact⟨X3 hbne (hdx.cell hc),X3 hyne (hdx.cell hcy2)⟩ | go_keep)
    (first | (go_at_call 321;refine(UP _ _ _ _ i3 hx hy.2).mono ?_;rintro e w' ⟨rfl,hdx⟩;have hcell':=hdx.cell hcell;have hfr':=(HB.out.ext (((Ext.refl _).drewN _).trans hdx)).frozen k))
   have hBs:=(HB.out.ext (((Ext.refl _).drewN _).trans hdx)).set k (CE rr (Qf la k) y)
   rw[Fw]at hBs
   have HBs:=aa hBs
   clear hBs
   go_wp2
   go_roundw
   case rel=>exact⟨k,_,_,O,by go_num,rfl,HST.out,HBs.out,(hE.trans (((Ext.refl _).drewN _).trans hdx)).ZD (aF _) _⟩
   case measure=>simp[intOf]
structure GK(w:World)(u v pre post:List Int)(n j B bv ov:Nat):Prop where
 hB:KX w B 297 Jl (pre++(u++post))
 hv:Cells w (some ⟨bv,ov,none⟩) Jl v
theorem GK.ext{v pre:List Int}{bv ov:Nat}(h:GK w u v pre post n j B bv ov)(k:Ext w w'):GK w' u v pre post n j B bv ov :=
 ⟨h.hB.ext k,h.hv.ext k⟩
theorem GK.atu{v pre:List Int}{bv ov:Nat}(h:GK w u v pre post n j B bv ov)(hj:pre.length=j)(i:Nat)(hi:i<u.length):
  w.cell? ⟨B,j+i,none⟩=some (.int .u64 (Qf u i)):=by
 have h1:=h.hB.cell (i:=j+i) wg
 have e:(pre++(u++post)).getD (j+i) default=Qf u i:=by
  rw[Zx hi];subst hj;simp only[eE];rw[List.getElem?_append_right O,fp,bU hi,List.getElem?_eq_getElem hi];rfl
 rw[e]at h1;exact h1
theorem GK.atv{v pre:List Int}{bv ov:Nat}(h:GK w u v pre post n j B bv ov)(i:Nat)(hi:i<v.length):
  w.cell? ⟨bv,ov+i,none⟩=some (.int .u64 (Qf v i)):=by
 obtain⟨b,o,e,_,hc⟩:=h.hv i hi
 cases e;rw[YS hi]at hc;exact hc
set_option maxRecDepth 100000 in
set_option maxHeartbeats 4000000 in
theorem jG(u v pre post:List Int)(n j B capu capv bv ov:Nat)(w:World)(h:GJ u v n)(hj:pre.length=j)(hmax:n<=100000000000)
  (hM:GK w u v pre post n j B bv ov) (hne:bv≠B) :
  Calls Tryz.prog 324 #[.slice (some ⟨B,j,none⟩) (n+3) capu,.slice (some ⟨bv,ov,none⟩) (n+2) capv] w λe w' =>
   (e = .returned (.int .u64 (dv W u / dv W v))/\∃u',KX w' B 297 Jl (pre++(u'++post))/\u'.length=n+3/\DG W u'/\dv W u'=dv W u%dv W v)/\Dd B w w':=by
 have hlu:=aa h.lu
 have hlv:=aa h.lv
 have HJ:=aa hj
 clear hj
 have hw1:IntKind.i64.wrap ((n:Int)+2 - 1)=(n:Int)+1:=by rw[show(n:Int)+2 - 1=(n:Int)+1 from by omega];exact bh _ O
 have ht1:((n:Int)+1).toNat=n+1:=O
 have h01:0<=(n:Int)+1:=O
 have h02:(n:Int)+1<(n:Int)+2:=O
 have ht2:((n:Int)+2).toNat=n+2:=O
 have h03:0<=(n:Int)+2:=O
 have h04:(n:Int)+2<(n:Int)+3:=O
 have h05:(n:Int)+1<(n:Int)+3:=O
 have hu2:=hM.atu HJ.out (n+2) (by have:=hlu.out;omega)
 have hu1:=hM.atu HJ.out (n+1) (by have:=hlu.out;omega)
 have hv1:=hM.atv (n+1) (by have:=hlv.out;omega)
 have du1:=Jg h.hu (n+1)
 have du2:=Jg h.hu (n+2)
 have dv1:=Jg h.hv (n+1)
 go_enter Tryz.func324,Tryz.ntmps324
 go_wp2_with fail
 go_quiet (fail)
 go_upto_if 30 with (fail)
 go_cut [6,7,8] (λq r o wx=>∃qq rr oo,q = .int .u64 qq/\r = .int .u64 rr/\o = .int .u64 oo/\Yv u v n qq rr oo/\Ext w wx)
 case first =>
  by_cases hge:Qf v (n+1)<=Qf u (n+2)
  ·have HG:=aa (Wv.jq h hge)
   have ha:=λw=>Ke (Qf u (n+1)) (Qf v (n+1)) 0 du1.1 dv1.1 wa wa w
   go_wp2
   go_quiet (fail)
   go_wp2
   go_meet
   exact⟨_,_,_,rfl,rfl,rfl,HG.out,(((Ext.refl w).drewN _).drewN _)⟩
  ·have HG:=aa (Wv.jr h O)
   have hdy:Qf v (n+1)<W:=dv1.2
   have hdh:0<=Qf u (n+2)/\Qf u (n+2)<Qf v (n+1):=⟨du2.1,O⟩
   go_wp2
   go_region_held3 (λw'=>w'.cell? ⟨B,j+(n+2),none⟩=some (.int .u64 (Qf u (n+2)))/\w'.cell? ⟨B,j+(n+1),none⟩=some (.int .u64 (Qf u (n+1)))/\w'.cell? ⟨bv,ov+(n+1),none⟩=some (.int .u64 (Qf v (n+1))))
    (first | go_keep | exact⟨hx.cell hu2,hx.cell hu1,hx.cell hv1⟩)
    (first | (go_at_call 321;refine(UP _ _ _ _ hdh du1 hdy).mono ?_;rintro e w' ⟨rfl,hx⟩))
   go_wp2
   go_meet
   exact⟨_,_,_,rfl,rfl,rfl,HG.out,((Ext.refl w).drewN _).trans hx⟩
 case rest =>
  obtain⟨q1,r1,o1,rfl,rfl,rfl,hG,hE⟩:=hcut
  have HM0:=aa hM
  clear hu2 hu1 hv1 du1 du2 hM
  go_upto_block 0 with (fail)
  go_cut [6] (λq wx=>∃qq,q = .int .u64 qq/\(0<=qq/\qq<W)/\((qq - 1)*dv W v<=dv W u/\dv W u<(qq+1)*dv W v)/\Ext w wx)
  case first =>
   have hw2:IntKind.i64.wrap ((n:Int)+2 - 2)=(n:Int):=by rw[show(n:Int)+2 - 2=(n:Int)from by omega];exact bh _ O
   have hn0:(0:Int)<=(n:Int):=O
   go_wp2_with fail
   go_loopw [6,7,8] (λq r o wr=>∃qq rr oo,q = .int .u64 qq/\r = .int .u64 rr/\o = .int .u64 oo/\Yv u v n qq rr oo/\Ext w wr) (λ_ r o _=>(2*W - (intOf r+W*intOf o)).toNat)
   case atStart=>exact⟨_,_,_,rfl,rfl,rfl,hG,hE⟩
   case round =>
    clear hG hE
    obtain⟨qq,rr,oo,rfl,rfl,rfl,hG,hE⟩:=hrel
    obtain⟨g1,g2,g3,g4,g5⟩:=id hG
    have HG:=aa hG
    clear hG g4 g5
    by_cases ho:oo=0
    ·subst ho
     have hM:=HM0.out.ext hE
     have hv0:=hM.atv n (by have:=hlv.out;omega)
     have hv1:=hM.atv (n+1) (by have:=hlv.out;omega)
     have hu0:=hM.atu HJ.out n (by have:=hlu.out;omega)
     have dv0:=Jg h.hv n
     have du0:=Jg h.hu n
     have e1:XE qq (Qf v n)+W*ZE qq (Qf v n)=qq*Qf v n:=by unfold XE ZE;rw[fF];exact aB _ _
     have l0:0<=XE qq (Qf v n)/\XE qq (Qf v n)<W:=⟨aK _ wa,aH _ Jx⟩
     have HY:Hid (qq*Qf v n<=rr*W+Qf u n->(qq - 1)*dv W v<=dv W u/\dv W u<(qq+1)*dv W v):=λhy=>HG.out.fin h (λ_=>hy)
     have HN:Hid (rr*W+Qf u n<qq*Qf v n->Yv u v n (qq - 1) (XW rr (Qf v (n+1)) 0) (X5 rr (Qf v (n+1)) 0)):=λhy=>HG.out.less h hy
     have hq1:Hid (rr*W+Qf u n<qq*Qf v n->1<=qq):=λhy=>by
      have:=(HN.out hy).1;omega
     have hnz:=h.nz
     have hq2:qq<=18446744073709551615:=by have:=g1.2;simp only[Hm]at this;omega
     have hme:Hid (2*W - (XW rr (Qf v (n+1)) 0+W*X5 rr (Qf v (n+1)) 0)<2*W - (rr+W*0)):=by
      have:=(Hk g2 dv1 (by decide:(0:Int)<=0/\(0:Int)<=1)).1;show _<_;omega
     have hme2:Hid (0<2*W - (rr+W*0)):=by show _<_;omega
     have ha:=λw=>Ke rr (Qf v (n+1)) 0 g2.1 dv1.1 wa wa w
     generalize hmy:ZE qq (Qf v n)=mh at *
     generalize hml:XE qq (Qf v n)=ml at *
     have HMH:=aa hmy
     have HML:=aa hml
     have E1:Hid (qq*Qf v n=ml+W*mh):=e1.symm
     clear hmy hml e1
     have cmpY:Hid (mh<rr->qq*Qf v n<=rr*W+Qf u n):=λhh=>by
      have:W*(mh+1)<=W*rr:=af O wa
      rw[E1.out];grind
     have cmpY2:Hid (mh=rr->ml<=Qf u n->qq*Qf v n<=rr*W+Qf u n):=λhh hl=>by
      rw[E1.out,hh];grind
     have cmpN:Hid (rr<mh->rr*W+Qf u n<qq*Qf v n):=λhh=>by
      have:W*(rr+1)<=W*mh:=af O wa
      rw[E1.out];grind
     have cmpN2:Hid (mh=rr->Qf u n<ml->rr*W+Qf u n<qq*Qf v n):=λhh hl=>by
      rw[E1.out,hh];grind
     rcases bW mh rr with g | g | g
     ·have HF:=aa (HY.out (cmpY.out g))
      go_wp2_with (go_at_call 264;refine(Ki _ _ _ g1 dv0).mono ?_;rw[HMH.out,HML.out];rintro e w' ⟨rfl,rfl⟩)
      go_meet
      exact⟨_,rfl,HG.out.1,HF.out,hE⟩
     ·have gb:(mh==rr)=true:=by simpa using g
      have gl:rr<=mh:=O
      have G:=aa g
      clear g
      by_cases hl:ml<=Qf u n
      ·have HF:=aa (HY.out (cmpY2.out G.out hl))
       go_wp2_with (go_at_call 264;refine(Ki _ _ _ g1 dv0).mono ?_;rw[HMH.out,HML.out];rintro e w' ⟨rfl,rfl⟩)
       go_meet
       exact⟨_,rfl,HG.out.1,HF.out,hE⟩
      ·have hl':Qf u n<ml:=O
       have HF:=aa (HN.out (cmpN2.out G.out hl'))
       have hq1:=hq1.out (cmpN2.out G.out hl')
       clear hl
       go_wp2_with (go_at_call 264;refine(Ki _ _ _ g1 dv0).mono ?_;rw[HMH.out,HML.out];rintro e w' ⟨rfl,rfl⟩)
       go_roundw
       case rel=>exact⟨_,_,_,rfl,rfl,rfl,HF.out,hE⟩
       case measure=>have:=hme.out;have:=hme2.out;simp only[intOf];omega
     ·have HF:=aa (HN.out (cmpN.out g))
      have hq1:=hq1.out (cmpN.out g)
      have gb:(mh==rr)=false:=wg
      go_wp2_with (go_at_call 264;refine(Ki _ _ _ g1 dv0).mono ?_;rw[HMH.out,HML.out];rintro e w' ⟨rfl,rfl⟩)
      go_roundw
      case rel=>exact⟨_,_,_,rfl,rfl,rfl,HF.out,hE⟩
      case measure=>have:=hme.out;have:=hme2.out;simp only[intOf];omega
    ·have ho1:(oo==0)=false:=by simpa using ho
     have HF:=aa (HG.out.fin h (λe=>absurd e ho))
     go_wp2
     go_meet
     exact⟨_,rfl,HG.out.1,HF.out,hE⟩
  case rest =>
   clear hG hE
   obtain⟨qq,rfl,hq,hF,hE⟩:=hcut
   have HF:=aa hF
   have HB0:=aa (HM0.out.ext hE).hB
   have HU0:Hid (Dd B w _):=(Dd.refl B w).ext hE
   clear hF hE dv1 h05 h02 h04
   go_wp2
   go_loopw [105,11,12] (λi b c wr=>∃(k:Nat) (ds:List Int) (bb cc:Int),k<=n+2/\i = .int .i64 k/\b = .int .u64 bb/\c = .int .u64 cc/\MI u v qq k ds bb cc/\KX wr B 297 Jl (pre++((ds++u.drop k)++post))/\Dd B w wr)
    (λi _ _ _=>n+2 - (intOf i).toNat)
   case atStart=>exact⟨0,[],0,0,O,rfl,rfl,rfl,MI.start u v qq,HB0.out,HU0.out⟩
   case round =>
    clear HB0 HU0
    obtain⟨k,ds,bb,cc,hk,rfl,rfl,rfl,hI,hB,hU⟩:=hrel
    by_cases hlt:k<n+2
    ·have hst:=hI.step h.hu h.hv hq
     obtain⟨hd1,hd2,hd3,hd4,hd5⟩:=hI
     have HD1:=aa hd1
     have hvk:=hU.cell (p:=⟨bv,ov+k,none⟩) hne (HM0.out.atv k (by have:=hlv.out;omega))
     rw[XZ (by have:=hlu.out;omega)]at hB
     have hcell:=hB.cell (Om HJ.out HD1.out)
     rw[On HJ.out HD1.out]at hcell
     simp only[Jl]at hcell
     have hfr:=hB.frozen (j+k)
     have hBs:=hB.set (j+k) (Zt (Qf u k) (XW (XE qq (Qf v k)) cc 0) bb)
     rw[Pb HJ.out HD1.out,bY ds]at hBs
     have HBs:=aa hBs
     have HS:=aa hst
     have hy:=Jg h.hv k
     have hx:=Jg h.hu k
     obtain⟨_,g2,g3,g4,g5,_,_⟩:=Pa hq hy hd4 (by decide:(0:Int)<=0/\(0:Int)<W)
     clear hd1 hd5 hB hBs hst
     generalize hmy:ZE qq (Qf v k)=mh at *
     generalize hml:XE qq (Qf v k)=ml at *
     have HMH:=aa hmy
     have HML:=aa hml
     clear hmy hml
     have ha1:=λw=>Ke ml cc 0 g2.1 hd4.1 wa wa w
     have ha2:=λw=>Bz (Qf u k) (XW ml cc 0) bb hx g3 hd3 w
     have b1:0<=mh+X5 ml cc 0:=g4.1
     have b2:mh+X5 ml cc 0<=18446744073709551615:=by have:=g4.2;simp only[Hm]at this;omega
     go_wp2_with (go_at_call 264;refine(Ki _ _ _ hq hy).mono ?_;rw[HMH.out,HML.out];rintro e w' ⟨rfl,rfl⟩)
     go_roundw
     case rel=>exact⟨k+1,_,_,_,O,by go_num,rfl,rfl,HS.out,HBs.out,hU.setCell _ _⟩
     case measure=>simp[intOf];omega
    ·have hk':k=n+2:=O
     subst hk'
     have HI:=aa hI
     obtain⟨hd1,hd2,hd3,hd4,hd5⟩:=hI
     have HD1:=aa hd1
     rw[XZ (by have:=hlu.out;omega)]at hB
     have hcell:=hB.cell (Om HJ.out HD1.out)
     rw[On HJ.out HD1.out]at hcell
     simp only[Jl]at hcell
     have hfr:=hB.frozen (j+(n+2))
     have hBs:=hB.set (j+(n+2)) (Zt (Qf u (n+2)) cc bb)
     rw[Pb HJ.out HD1.out,fw (by have:=hlu.out;omega)]at hBs
     have HBs:=aa hBs
     have hx:=Jg h.hu (n+2)
     have hs:=(EU hx hd4 hd3).2
     have ha2:=λw=>Bz (Qf u (n+2)) cc bb hx hd4 hd3 w
     clear hd1 hd5 hB hBs
     have hs3:=hs.2
     have hs2:=hs.1
     clear hs
     by_cases hb0:V0 (Qf u (n+2)) cc bb=0
     ·have hR:=kP h HI.out HF.out hb0
      have HR:=aa hR
      have hbb:(V0 (Qf u (n+2)) cc bb==0)=true:=by simpa using hb0
      clear hR hb0
      go_wp2
      go_ret
      exact⟨⟨congrArg (λx=>ig (.int .u64 x)) HR.out.2.1,_,HBs.out,by simp[HD1.out],HR.out.1,HR.out.2.2⟩,hU.setCell _ _⟩
     ·have hb1:V0 (Qf u (n+2)) cc bb=1:=O
      have hbb:(V0 (Qf u (n+2)) cc bb==0)=false:=by simpa using hb0
      have HB1:=aa hb1
      clear hb0 hb1
      have HU1:Hid (Dd B w _):=hU.setCell (j+(n+2)) (Jl (Zt (Qf u (n+2)) cc bb))
      have hdL:DG W (ds++[Zt (Qf u (n+2)) cc bb]):=hd2.append (DG.cons hs2.1 hs2.2 (DG.nil _))
      go_wp2
      go_loopw [157,17] (λi c wr=>∃(k:Nat) (es:List Int) (c2:Int),k<=n+2/\i = .int .i64 k/\c = .int .u64 c2/\NB ds v k es c2/\KX wr B 297 Jl (pre++((es++(ds++[Zt (Qf u (n+2)) cc bb]).drop k)++post))/\Dd B w wr)
       (λi _ _=>n+2 - (intOf i).toNat)
      case atStart=>exact⟨0,[],0,O,rfl,rfl,⟨rfl,DG.nil _,wa,we⟩,HBs.out,HU1.out⟩
      case round =>
       clear HU1 HBs hcell hfr hU ha2
       obtain⟨k,es,c2,hk,rfl,rfl,hA,hB,hU⟩:=hrel
       have HA:=aa hA
       obtain⟨he1,he2,he3,he4⟩:=hA
       have HE1:=aa he1
       clear he1 he4
       have hll:(ds++[Zt (Qf u (n+2)) cc bb]).length=n+3:=by simp[HD1.out]
       rw[XZ O]at hB
       have HLL:=aa hll
       clear hll
       have hcell:=hB.cell (Om HJ.out HE1.out)
       rw[On HJ.out HE1.out]at hcell
       simp only[Jl]at hcell
       have hfr:=hB.frozen (j+k)
       by_cases hlt:k<n+2
       ·have hvk:=hU.cell (p:=⟨bv,ov+k,none⟩) hne (HM0.out.atv k (by have:=hlv.out;omega))
        have hek:Hid (Qf (ds++[Zt (Qf u (n+2)) cc bb]) k=Qf ds k):=by
         have h1:k<ds.length:=by have:=HD1.out;omega
         show _=_
         rw[Zx (by have:=HLL.out;omega),Zx h1,List.getElem_append_left h1]
        rw[hek.out]at hcell hB
        have hBs:=hB.set (j+k) (XW (Qf ds k) (Qf v k) c2)
        rw[Pb HJ.out HE1.out,bY es]at hBs
        have HBs:=aa hBs
        have HS:=aa (HA.out.step hd2 h.hv)
        have hx:=Jg hd2 k
        have hy:=Jg h.hv k
        have ha1:=λw=>Ke (Qf ds k) (Qf v k) c2 hx.1 hy.1 he3.1 he3.2 w
        have hk0:(0:Int)<=(k:Int):=O
        have hk1:(k:Int)<(n:Int)+2:=O
        have hk2:(k:Int)<(n:Int)+3:=O
        clear hBs hB
        go_wp2
        go_region
        go_wp2
        go_roundw
        case rel=>exact⟨k+1,_,_,O,by go_num,rfl,HS.out,HBs.out.drew,(hU.setCell _ _).drew⟩
        case measure=>simp[intOf];omega
       ·have hk':k=n+2:=O
        subst hk'
        have hR:=pX h HI.out HF.out HB1.out HA.out
        have HR:=aa hR
        clear hR
        have hek:Hid (Qf (ds++[Zt (Qf u (n+2)) cc bb]) (n+2)=Zt (Qf u (n+2)) cc bb):=by
         show _=_
         rw[Zx (by have:=HLL.out;omega)];simp[HD1.out]
        rw[hek.out,fw (by have:=HLL.out;omega)]at hB
        rw[hek.out]at hcell
        have hBs:=hB.set (j+(n+2)) 0
        rw[Pb HJ.out HE1.out]at hBs
        have HBs:=aa hBs
        have hq1:1<=qq:=by
         have h0:=Q8 Jx h.hu
         have h1:=Q8 Jx h.hv
         have:=bN h0 h1
         rw[<-HR.out.1]at this;omega
        have hq2:qq<=18446744073709551615:=by have:=hq.2;simp only[Hm]at this;omega
        have hwr:IntKind.u64.wrap (Zt (Qf u (n+2)) cc bb+c2)=0:=by
         rw[HR.out.2.2];decide
        clear hB hBs
        go_wp2
        go_ret
        exact⟨⟨congrArg (λx=>ig (.int .u64 x)) HR.out.1,_,HBs.out,by simp[HE1.out],he2.append (DG.cons (lF _) Jx (DG.nil _)),by rw[Xl,HR.out.2.1];simp⟩,hU.setCell _ _⟩
theorem Cells.Ma{q:Option Addr}{l:List Int}{o:Nat}{v:Value}(h:Cells w q Jl l)(hb:∀a,q=some a->a.block≠b):Cells (w.setCell ⟨b,o,none⟩ v) q Jl l:=by
 intro i hi;obtain⟨b',off,h1,h2,h3⟩:=h i hi
 exact⟨b',off,h1,h2.set _ _ _,X3 (hb _ h1) h3⟩
theorem Cells.old{q:Option Addr}{l:List Int}(h:Cells w q Jl l)(hl:l≠[])(b:Nat)(hb:w.heap.size<=b):∀a,q=some a->a.block≠b:=by
 intro a ha
 obtain⟨b',off,h1,h2,_⟩:=h 0 (List.length_pos_iff.2 hl)
 rw[h1]at ha;cases ha;show b'≠b;have:=h2.lt;omega
theorem KX.Ma{E b' o:Nat}{enc:EB α}{l:List α}{v:Value}(h:KX w b E enc l)(hb:b≠b'):KX (w.setCell ⟨b',o,none⟩ v) b E enc l:=by
 unfold KX;rw[fO _ _ _ _ hb];exact h
theorem Oi{lb:List Int}{s:Nat}(hb:DG W lb)(hl:lb.length=n+2)(hs:s<64)(h1:Qf lb (n+1)*p2 s<W)(h2:9223372036854775808<=Qf lb (n+1)*p2 s):
  W^(n+1)*9223372036854775808<=dv W lb*p2 s/\dv W lb*p2 s<W^(n+2):=by
 have e:=XP lb (n+1)
 rw[ao (by omega:lb.length<=n+1+1)]at e
 have t0:=Q8 Jx (hb.take (n+1))
 have t1:=KE Jx (hb.take (n+1))
 rw[eT,Nat.min_eq_left O]at t1
 have hp:=pow_pos Jx (n+1)
 have hp0:=Ym s
 have top:(Qf lb (n+1)+1)*p2 s<=W:=by
  have e3:=G9 hs
  have:Qf lb (n+1)<p2 (64 - s):=by
   refine Int.not_le.1 λhc=>?_
   have:=ai hc (aA hp0)
   omega
  have:=ai (show Qf lb (n+1)+1<=p2 (64 - s) by omega) (aA hp0)
  omega
 constructor
 ·have k1:W^(n+1)*9223372036854775808<=W^(n+1)*(Qf lb (n+1)*p2 s):=af h2 (aA hp)
  have k2:0<=dv W (lb.take (n+1))*p2 s:=aE t0 (aA hp0)
  have e2:dv W lb*p2 s=dv W (lb.take (n+1))*p2 s+W^(n+1)*(Qf lb (n+1)*p2 s):=by rw[e];grind
  omega
 ·have k1:(dv W (lb.take (n+1))+1)*p2 s<=W^(n+1)*p2 s:=ai O (aA hp0)
  have k2:W^(n+1)*((Qf lb (n+1)+1)*p2 s)<=W^(n+1)*W:=af top (aA hp)
  have e2:dv W lb*p2 s=dv W (lb.take (n+1))*p2 s+W^(n+1)*(Qf lb (n+1)*p2 s):=by rw[e];grind
  rw[ba W (n+1)]
  have e3:W^(n+1)*((Qf lb (n+1)+1)*p2 s)=W^(n+1)*(Qf lb (n+1)*p2 s)+W^(n+1)*p2 s:=by grind
  rw[aV]at k1
  omega
set_option maxRecDepth 100000 in
set_option maxHeartbeats 2000000 in
theorem LL(v v':Value)(la lb:List Int)(n:Nat)(w:World)(ha:DG W la)(hb:DG W lb)(na:NZ la)(nb:NZ lb)(hs:SL w v Jl la)(hs':SL w v' Jl lb)(hge:dv W lb<=dv W la)
  (hn:lb.length=n+2) (h1:la.length<=10000000000) (h2:lb.length<=10000000000) :
  Calls Tryz.prog 286 #[v,v'] w λe w'=>Zw w (FH (dv W la) (dv W lb)) e w':=by
 have H3:0<=YP (dv W la) (dv W lb):=Bh hge
 have hm:n+2<=la.length:=by
  refine Nat.not_lt.1 λhc=>?_
  have:=ZY PJ ha hb nb O;omega
 have HS:=aa hs
 obtain⟨q,cap,rfl,hcap,hmax,hca⟩:=hs
 have HA:=aa hca
 have HS':=aa hs'
 obtain⟨q2,cap2,rfl,hcap2,hmax2,hcb⟩:=hs'
 have HB:=aa hcb
 obtain⟨bb,ob,rfl,hbb,hcy⟩:=hcb (n+1) O
 rw[YS O]at hcy
 simp only[Jl]at hcy
 clear hca hcb
 have hL:=aa hn
 rw[hn]at HS' hcap2 ⊢
 have hyp:0<Qf lb (n+1)/\Qf lb (n+1)<W:=by
  have:=Jg hb (n+1)
  have hz:Qf lb (n+1)≠0:=by
   intro e;apply nb;rw[fg,hn]
   rw[Zx O]at e;simp[hn,e]
  omega
 clear hn
 have hb1:((n:Int)+2==1)=false:=wg
 have e57:(n:Int)+2 - 1=(n:Int)+1:=O
 go_enter Tryz.func286,Tryz.ntmps286
 go_wp2_with (first | (go_at_call 279;refine(Z5 _ _ _ _ _ ha hb na nb HS.out HS'.out).mono ?_;rintro e w1 ⟨rfl,hx1⟩;have hcy:=hx1.cell hcy) | (go_at_call 322;fail))
 go_wp2_with fail
 refine(ka _ _ hyp).mono ?_
 rintro e w' ⟨⟨s,rfl,hs,hs1,hs2⟩,rfl⟩
 have hbv:=Oi hb hL.out hs hs1 hs2
 have HBV:=aa hbv
 clear hs1 hs2 hcy hbv
 go_wp2_with fail
 refine(NR s _ lb _ hs hb (HS'.out.ext hx1) O).mono ?_
 rintro e w2 ⟨_,rfl,⟨l1,rfl,hB1,hl1,hd1,hv1⟩,hx2⟩
 rw[hL.out]at hl1
 have hSL1:=SL.BS hB1 (n+3) O O
 rw[ao O,hl1]at hSL1
 have HSL1:=aa hSL1
 rw[hL.out]
 clear hSL1 hB1 hl1
 go_wp2_with fail
 refine(VZ _ _ _ HSL1.out).mono ?_
 rintro e w' ⟨⟨_,rfl,qv,capv,rfl,hcv1,hcv2,hcv⟩,rfl⟩
 have hlv:(JH l1).length=n+2:=Ox hd1.JH (ZW _) (by rw[Xe,hv1];have:=HBV.out.1;have:=af (show(1:Int)<=9223372036854775808 by decide) (aA (pow_pos Jx (n+1)));omega) (by rw[Xe,hv1];exact HBV.out.2)
 have hdv:DG W (JH l1):=hd1.JH
 have hnv:NZ (JH l1):=ZW _
 have HVV:Hid (dv W (JH l1)=dv W lb*p2 s):=by show _=_;rw[Xe,hv1]
 generalize JH l1=lv at *
 rw[hlv]at hcv1 ⊢
 have HLV:=aa hlv
 have HCV:=aa hcv
 clear hv1 hd1 hcv hlv
 go_wp2_with fail
 refine(NR s _ la _ hs ha ((HS.out.ext hx1).ext hx2) O).mono ?_
 rintro e w3 ⟨_,rfl,⟨o0,rfl,hB3,hl3,hd3,hv3⟩,hx3⟩
 have hmk:=λw=>Yz (la.length - (n+2)+1) O w
 have ec:((la.length - (n+2)+1:Nat):Int)=(la.length:Int) - ((n:Int)+2)+1:=O
 simp only[ec]at hmk
 clear ec
 have hvne:lv≠[]:=by intro e;have:=HLV.out;rw[e]at this;simp at this
 have hne1:=HCV.out.old hvne w2.heap.size (aF _)
 have hne2:=HCV.out.old hvne w3.heap.size hx3.size
 have HSTART:Hid (Wt (dv W la*p2 s) (dv W lb*p2 s) n (la.length - (n+2)+1) la.length o0 []) :=
  Wt.start hl3 hd3 hv3 hs (KE Jx ha) HBV.out.1 hm
 have HB3:=aa hB3
 have HX2:Hid (Ext w w2):=hx1.trans hx2
 have HXB:=aa hx3
 have hsz:w2.heap.size<w3.heap.size:=hB3.lt
 have HN1:=aa hne1
 have HN2:=aa hne2
 clear hB3 hl3 hd3 hv3 hx1 hx2 hx3 hge H3 hne1 hne2
 go_wp2
 go_loopw [14] (λi wr=>∃(k:Nat) (o qs:List Int),k<=la.length - (n+2)+1/\i = .int .i64 ((k:Int) - 1)/\Wt (dv W la*p2 s) (dv W lb*p2 s) n k la.length o qs /\
   KX wr w2.heap.size 297 Jl o/\KX wr w3.heap.size 297 Jl (aM k 0++qs)/\Cells wr qv Jl lv/\Ext w2 wr)
  (λi _=>(intOf i+1).toNat)
 case atStart=>exact⟨la.length - (n+2)+1,o0,[],aF _,by go_num,HSTART.out,HB3.out.ext ((Ext.refl _).alloc _),by rw[iz];exact KX.made w3 _ Jl 0 _ _ I,(HCV.out.ext HXB.out).ext ((Ext.refl _).alloc _),HXB.out.alloc _⟩
 case round =>
  clear HSTART hmk HB3 HCV HXB
  obtain⟨k,o,qs,hk,rfl,hI,hBU,hBQ,hCV,hE⟩:=hrel
  cases k with
  |zero =>
   have HI:=aa hI
   obtain⟨i1,i2,i3,i4,i5,i6⟩:=hI
   have HI1:=aa i1
   have HI3:=aa i3
   have HBU:=aa hBU
   have HBQ:Hid (KX _ w3.heap.size 297 Jl qs):=hBQ
   clear i1 i3 i5 i6 hBU hBQ hCV
   rw[show((0:Nat):Int) - 1 = -1 from rfl]
   go_wp2
   go_loopw [97] (λi wx=>∃(k:Nat) (ds:List Int),k<=n+2/\i = .int .i64 k/\Vy o s k ds/\KX wx w2.heap.size 297 Jl (ds++o.drop k)/\KX wx w3.heap.size 297 Jl qs/\Ext w2 wx)
    (λi _=>n+2 - (intOf i).toNat)
   case atStart=>exact⟨0,[],O,rfl,Vy.start o s,HBU.out,HBQ.out,hE⟩
   case round =>
    clear HBU HBQ hE
    obtain⟨k,ds,hk,rfl,hS,hBU,hBQ,hE⟩:=hrel
    have HBQ:=aa hBQ
    by_cases hlt:k<n+2
    ·have HS:=aa hS
     obtain⟨hd1,hd2,hd3⟩:=hS
     have HD1:=aa hd1
     have hkl:k+1<o.length:=by have:=HI1.out;omega
     rw[XZ O,XZ hkl]at hBU
     have hx:=Jg i2 k
     have hx1:=Jg i2 (k+1)
     have hcell:=hBU.cell (i:=k) wg
     have hcell1:=hBU.cell (i:=k+1) wg
     have g0:(ds++Qf o k::Qf o (k+1)::il (k+1+1) o).getD k default=Qf o k:=by rw[<-HD1.out];simp[eE]
     have g1:(ds++Qf o k::Qf o (k+1)::il (k+1+1) o).getD (k+1) default=Qf o (k+1):=by rw[<-HD1.out];simp[eE]
     rw[g0]at hcell
     rw[g1]at hcell1
     simp only[Jl]at hcell hcell1
     have hfr:=hBU.frozen k
     have HBU:=aa hBU
     clear hd1 hd3 hBU hBQ g0 g1
     have hk0:(0:Int)<=(k:Int):=O
     have hk1:(k:Int)<(la.length:Int)+1:=O
     have hk2:(k:Int)+1<(la.length:Int)+1:=O
     have hk3:(0:Int)<=(k:Int)+1:=O
     have hk4:IntKind.i64.wrap ((k:Int)+1)=(k:Int)+1:=bh _ O
     have hk5:((k:Int)+1).toNat=k+1:=O
     have hk6:IntKind.i64.wrap (64 - (s:Int))=64 - (s:Int):=bh _ O
     have hk7:(64 - (s:Int)).toNat=64 - s:=O
     have hk8:¬(64 - (s:Int)<0):=O
     by_cases hs0:0<s
     ·have hs1:(0:Int)<(s:Int):=O
      go_wp2
      go_region
      go_wp2
      go_roundw
      case rel =>
       refine⟨k+1,ds++[Qf o k / p2 s+Qf o (k+1)*p2 (64 - s)%W],O,by go_num,HS.out.step i2 hs hs0,?_,(HBQ.out.Ma O).Ma O,((hE.ZD we _).ZD we _).drew⟩
       have b:=Cn hs hx
       obtain⟨b1,_⟩:=AE (x:=Qf o (k+1)) (s:=64 - s) O b.1 b.2
       rw[RI,show Qf o k / 2^s=Qf o k / p2 s from rfl,b1]
       have h1:=HBU.out.set k (Qf o k / p2 s)
       rw[G3 _ _ _ _ _ HD1.out]at h1
       have h2:=h1.set k (Qf o k / p2 s+Qf o (k+1)*p2 (64 - s)%W)
       rw[G3 _ _ _ _ _ HD1.out,bY ds,<-XZ hkl]at h2
       exact h2.drew
      case measure=>simp[intOf];omega
     ·have hs9:s=0:=O
      have HS0:Hid (Vy o s (k+1) (ds++[Qf o k / p2 s])):=by subst hs9;exact HS.out.dN i2
      clear hs9
      go_wp2
      go_roundw
      case rel =>
       refine⟨k+1,ds++[Qf o k / p2 s],O,by go_num,HS0.out,?_,HBQ.out.Ma O,hE.ZD we _⟩
       have h1:=HBU.out.set k (Qf o k / p2 s)
       rw[G3 _ _ _ _ _ HD1.out,bY ds,<-XZ hkl]at h1
       exact h1
      case measure=>simp[intOf];omega
    ·have hk':k=n+2:=O
     subst hk'
     have hvp:0<dv W lb:=by
      have h7:=HBV.out.1
      have h8:=pow_pos Jx (n+1)
      refine Int.not_le.1 λhc=>?_
      have:=ai hc (aA (Ym s))
      omega
     have HF:=aa (ug HI.out hs hvp HBV.out.2 hm hS)
     obtain⟨hd1,hd2,hd3⟩:=hS
     have hq1:qs.length=la.length - (n+2)+1:=by have:=HI3.out;omega
     have hSq:=SL.BS HBQ.out (la.length - (n+2)+1) O O
     have hSr:=SL.BS hBU (n+2) wg (by simp;have:=HI1.out;omega)
     rw[ao O,hq1]at hSq
     rw[List.take_append_of_le_length O,ao O]at hSr
     have hol:(ds++il (n+2) o).length=la.length+1:=by simp;have:=HI1.out;omega
     rw[hol]at hSr
     have HSq:=aa hSq
     have HSr:=aa hSr
     have hn0:(0:Int)<=(n:Int)+2:=O
     have hn1:(n:Int)+2<=(la.length:Int)+1:=O
     have hn2:((n:Int)+2).toNat=n+2:=O
     clear hd1 hd3 hBU hBQ hSq hSr hq1 hol
     go_wp2
     go_region_held3 (λ_=>True) (trivial) (first | (go_at_call 310;(with_reducible refine(VZ _ _ _ (HSq.out.ext (Ext.refl _).drew)).mono ?_);rintro e w' ⟨⟨v1,rfl,hv1⟩,rfl⟩) | (go_at_call 310;(with_reducible refine(VZ _ _ _ (HSr.out.ext (Ext.refl _).drew)).mono ?_);rintro e w' ⟨⟨v2,rfl,hv2⟩,rfl⟩))
     go_wp2
     go_ret2
     exact⟨_,rfl,⟨v1,v2,_,_,rfl,hv1,hv2,⟨i4.JH,ZW _⟩,⟨hd2.JH,ZW _⟩,by rw[Xe];exact HF.out.1,by rw[Xe];exact HF.out.2⟩,(HX2.out.trans hE).drew⟩
  |succ k =>
   obtain⟨pre,u,post,rfl,lj,hst,hpost,lpost,hjm⟩:=hI.QAy hdv HLV.out (by
    have:=Jg hdv (n+1)
    have hz:Qf lv (n+1)≠0:=by
     intro e;apply hnv;rw[fg,HLV.out]
     rw[Zx (by have:=HLV.out;omega)]at e;simp[HLV.out,e]
    omega) HVV.out hm
   have HI:=aa hI
   have LJ:=aa lj
   have HBQ:=aa hBQ
   have e1:((k+1:Nat):Int) - 1=(k:Int):=O
   have hwin:Hid (k+n+2<=la.length):=hjm
   have hk3:(k:Int)+((n:Int)+2)+1<=(la.length:Int)+1:=O
   obtain⟨bq,oq,rfl,_,_⟩:=hCV 0 (by have:=HLV.out;omega)
   have HCV:=aa hCV
   have HBU:=aa hBU
   clear hI lj hBQ hjm lpost hCV hBU
   rw[e1]
   clear e1
   go_wp2_with fail
   rw[show k+(n+2)+1 - k=n+3 from by omega]
   refine(jG u lv pre post n k _ _ _ bq oq _ hst LJ.out O ⟨HBU.out,HCV.out⟩ (HN1.out _ I)).mono ?_
   rintro e w4 ⟨⟨rfl,u',hB',lu',du',vu'⟩,hU⟩
   have hBQ4:=hU.BA O HBQ.out
   have hlen:k<(aM (k+1) (0:Int)++qs).length:=wg
   have hcell:=hBQ4.cell hlen
   have hz:(aM (k+1) (0:Int)++qs).getD k default=0:=by simp[eE,bU]
   rw[hz]at hcell
   simp only[Jl]at hcell
   have hfr:=hBQ4.frozen k
   have hBs:=hBQ4.set k (dv W u / dv W lv)
   rw[Fw]at hBs
   have HBs:=aa hBs
   have hvp:0<dv W lb*p2 s:=by have:=HBV.out.1;have:=pow_pos Jx (n+1);omega
   have HQL:Hid (dv W u / dv W lv<W):=by
    refine bt (by rw[HVV.out];exact hvp) ?_
    exact hst.lt
   have HST:=aa (HI.out.step LJ.out hst.lu du' lu' HVV.out hvp hpost HQL.out (Q8 Jx hst.hu) vu')
   have HB':=aa hB'
   have HU:=aa hU
   clear hBs hBQ4 hB' hU hz hlen vu'
   go_wp2
   go_roundw
   case rel=>exact⟨k,_,_,O,by go_num,HST.out,HB'.out.Ma O,HBs.out,(HU.out.cells HN1.out HCV.out).Ma HN2.out,(HU.out.QBB hE (aF _)).ZD wg _⟩
   case measure=>simp[intOf]
theorem CD(v v':Value)(la lb:List Int)(w:World)(ha:DG W la)(hb:DG W lb)(na:NZ la)(nb:NZ lb)(hs:SL w v Jl la)(hs':SL w v' Jl lb)(hb0:lb≠[])
  (h1:la.length<=10000000000) (h2:lb.length<=10000000000) :
  Calls Tryz.prog 286 #[v,v'] w λe w'=>Zw w (FH (dv W la) (dv W lb)) e w':=by
 by_cases hlt:dv W la<dv W lb
 ·exact LM v v' la lb w ha hb na nb hs hs' hlt
 ·match lb,hb,nb,hs',hb0,hlt,h2 with
  |[y],hb,nb,hs',_,hlt,_ =>
   have e:dv W [y]=y:=we
   rw[e]at hlt ⊢
   have hy:=hb.head
   have hy0:y≠0:=by intro e;subst e;exact nb rfl
   obtain⟨q',cap',e',_⟩:=id hs'
   subst e'
   exact CC v q' cap' la y w ha ⟨O,hy.2⟩ na hs hs' O O
  |x::y::l,hb,nb,hs',_,hlt,h2=>exact LL v v' la (x::y::l) l.length w ha hb na nb hs hs' O rfl h1 h2
theorem Kc.sign{s:Int}{q:Option Addr}(h:Kc w s q n cap z):s<0↔z<0:=by
 rcases h with ⟨_,_,_,rfl,_⟩ | ⟨b,off,l,_,_,_,_,_,_,_,_,h,hz,hb⟩
 ·exact Iff.rfl
 ·rcases h with rfl | rfl<;>omega
theorem Bx.QAQ(w:World)(o:Obj)(T:TypeId)(c:Array Value):Bx ((w.alloc o).alloc (.cells c T)) (w.heap.size+1) T c.toList:=by
 have:=Bx.new (w.alloc o) T c;simpa using this
theorem Bx.kU(w:World)(o o':Obj)(T:TypeId)(c:Array Value):Bx (((w.alloc o).alloc (.cells c T)).alloc o') (w.heap.size+1) T c.toList:=(Bx.QAQ w o T c).alloc o'
theorem Bx.qI(w:World)(o o':Obj)(T:TypeId)(c:Array Value):Bx (((w.alloc o).alloc o').alloc (.cells c T)) (w.heap.size+1+1) T c.toList:=by
 have:=Bx.new ((w.alloc o).alloc o') T c;simpa using this
theorem Bx.O5(w:World)(o o':Obj)(T:TypeId)(c:Array Value):Bx (((w.alloc (.cells c T)).alloc o).alloc o') w.heap.size T c.toList:=((Bx.new w T c).alloc o).alloc o'
theorem Ext.DL{a:World}(h:Ext a w){R:Nat}(hR:a.heap.size<=R)(v0 v1:Value):Ext a ((w.setCell ⟨R,0,none⟩ v0).setCell ⟨R,1,none⟩ v1):=(h.ZD hR v0).ZD hR v1
theorem cF(v:Value)(z:Int)(w:World)(hv:Xf w v z):
  Calls Tryz.prog 256 #[v] w λe w'=>Zw w (λv w'=>Xf w' v (Jr z)) e w':=by
 have HV:=aa hv
 obtain⟨s,q,n,cap,rfl,hp⟩:=hv
 have HP:=aa hp
 by_cases hs:s<0
 ·have HI:=aa (Er (hp.sign.1 hs))
  have HB:=aa (Bx.QAQ w (.cells #[.int .i64 s,.slice q n cap] 133) 133 IZ)
  clear hp
  go_enter Tryz.func256,Tryz.ntmps256
  go_wp2_with fail
  refine(AH _ z _ (HV.out.ext (((Ext.refl _).alloc _).alloc _))).mono ?_
  rintro e w1 ⟨_,rfl,⟨s',q',n',cap',rfl,hp'⟩,hx⟩
  obtain⟨c0,c1,f0,f1⟩:=(HB.out.ext hx).two
  have HB2:=aa (HB.out.ext hx)
  go_wp2
  refine bodyPost_ret (v:=.agg #[.int .i64 s',.slice q' n' cap']) (by simp[results,Tryz.results256,go_sem,c0,c1]) I ⟨_,rfl,?_,?_⟩
  ·rw[HI.out];exact⟨_,_,_,_,rfl,hp'.kp ((Kp.refl _).DL HB2.out.SF IT _ _)⟩
  ·exact(((((Ext.refl w).alloc _).alloc _).trans hx).ZD we _).ZD we _
 ·have HI:=aa (Gk (z:=z) (by have:=hp.sign;omega))
  clear hp
  go_enter Tryz.func256,Tryz.ntmps256
  go_wp2
  refine bodyPost_ret (v:=.agg #[.int .i64 s,.slice q n cap]) (by simp[results,Tryz.results256,go_sem]) I ⟨_,rfl,?_,((Ext.refl _).alloc _).alloc _⟩
  rw[HI.out];exact⟨_,_,_,_,rfl,HP.out.ext (((Ext.refl _).alloc _).alloc _)⟩
def QIe:Nat:=1000000000
theorem ZM{l:List Int}(hd:DG W l)(hn:NZ l)(h:dv W l=Jr z)(hz:sz z<=1000000000):l.length<=1000000000:=by
 have:=QBs hd hn;rw[h,PQ]at this;omega
theorem Fv{b:Int}(h:decide (a<0)=decide (b<0)):sg (decide (a<0)) (Jr a+Jr b)=a+b:=by
 unfold sg Jr
 by_cases ha:a<0<;>by_cases hb:b<0<;>simp[ha,hb]at h ⊢<;>omega
theorem Fu{b:Int}(h:decide (a<0)≠decide (b<0)):sg (decide (a<0)) (Jr a - Jr b)=a+b:=by
 unfold sg Jr
 by_cases ha:a<0<;>by_cases hb:b<0<;>simp[ha,hb]at h ⊢<;>omega
theorem Ux{b:Int}(h:decide (a<0)≠decide (b<0)):sg (decide (b<0)) (Jr b - Jr a)=a+b:=by
 unfold sg Jr
 by_cases ha:a<0<;>by_cases hb:b<0<;>simp[ha,hb]at h ⊢<;>omega
theorem M3(s s':Int)(q q':Option Addr)(n n' cap cap':Nat)(a b:Int)(w:World)(hv:Kc w s q n cap a)(hv':Kc w s' q' n' cap' b)
  (hc:q.isNone=false\/(q.isNone=true/\q'.isNone=false)\/(q.isNone=true/\q'.isNone=true/\(decide (s<wrap64 (s+s'))==decide (0<s'))=false))
  (ha:sz a<=1000000000) (hb:sz b<=1000000000) :
  Calls Tryz.prog 223 #[.agg #[.int .i64 s,.slice q n cap],.agg #[.int .i64 s',.slice q' n' cap']] w λe w'=>Zw w (λv w'=>Xf w' v (a+b)) e w':=by
 have hn:=λw=>av (P:=Tryz.prog) w 131 297 q n cap 0 0 Tryz.underlying131
 have hn':=λw=>av (P:=Tryz.prog) w 131 297 q' n' cap' 0 0 Tryz.underlying131
 have HV:Hid (Xf w (.agg #[.int .i64 s,.slice q n cap]) a):=⟨_,_,_,_,rfl,hv⟩
 have HV':Hid (Xf w (.agg #[.int .i64 s',.slice q' n' cap']) b):=⟨_,_,_,_,rfl,hv'⟩
 have HBb:=aa (Bx.kU w (.cells #[.int .i64 s,.slice q n cap] 133) (.cells IZ 133) 133 #[.int .i64 s',.slice q' n' cap'])
 have HBr:=aa (Bx.qI w (.cells #[.int .i64 s,.slice q n cap] 133) (.cells #[.int .i64 s',.slice q' n' cap'] 133) 133 IZ)
 clear hv hv'
 rcases hc with h1 | ⟨h1,h2⟩ | ⟨h1,h2,h3⟩
 all_goals
  rw[h1]at hn
  try rw[h2]at hn'
  go_enter Tryz.func223,Tryz.ntmps223
  go_wp2_with fail
  refine(Kg _ a _ (HV.out.ext ((((Ext.refl _).alloc _).alloc _).alloc _))).mono ?_
  rintro e w1 ⟨_,rfl,⟨p,la,rfl,hsa,hda,hna,hva⟩,hx⟩
  have HB1:=aa (HBb.out.ext hx)
  have HR1:=aa (HBr.out.ext hx)
  obtain⟨c0,c1,f0,f1⟩:=HB1.out.two
  have hlea:=ZM hda hna hva ha
  have HVA:=aa hva
  clear hva
  go_wp2_with fail
  refine(Kg _ b _ (HV'.out.ext (((((Ext.refl _).alloc _).alloc _).alloc _).trans hx))).mono ?_
  rintro e w2 ⟨_,rfl,⟨p',lb,rfl,hsb,hdb,hnb,hvb⟩,hx2⟩
  have HR2:=aa (HR1.out.ext hx2)
  have hleb:=ZM hdb hnb hvb hb
  have HVB:=aa hvb
  clear hvb c0 c1 f0 f1
  have hsa2:=hsa.ext hx2
  by_cases hsg:decide (a<0)=decide (b<0)
  ·have hgg:(decide (a<0)==decide (b<0))=true:=by simpa using hsg
   have HSG:Hid (sg (decide (a<0)) (dv W la+dv W lb)=a+b):=by
    show sg _ _=_
    rw[HVA.out,HVB.out];exact Fv hsg
   clear hsg
   go_wp2_with fail
   refine(Az _ _ la lb _ hda hdb hsa2 hsb O O).mono ?_
   rintro e w3 ⟨_,rfl,⟨l3,hs3,hd3,hn3,hv3⟩,hx3⟩
   have HV3:=aa hv3
   clear hv3
   go_wp2_with fail
   refine(Wk _ _ l3 _ hs3 hd3 hn3).mono ?_
   rw[HV3.out,HSG.out]
   rintro e w4 ⟨_,rfl,⟨s4,q4,n4,cap4,rfl,hp4⟩,hx4⟩
   have HR4:=aa ((HR2.out.ext hx3).ext hx4)
   obtain⟨c0,c1,f0,f1⟩:=HR4.out.two
   go_wp2
   refine bodyPost_ret (v:=.agg #[.int .i64 s4,.slice q4 n4 cap4]) (by simp[results,Tryz.results223,go_sem,c0,c1]) I ⟨_,rfl,⟨_,_,_,_,rfl,hp4.kp ((Kp.refl _).DL HR4.out.SF IT _ _)⟩,?_⟩
   exact(((((((Ext.refl w).alloc _).alloc _).alloc _).trans hx).trans hx2).trans hx3 |>.trans hx4).DL O _ _
  ·have hgg:(decide (a<0)==decide (b<0))=false:=by simpa using hsg
   have hcl:=Bh (x:=dv W la) (y:=dv W lb)
   have hcg:=Hh (x:=dv W la) (y:=dv W lb)
   by_cases hge:dv W lb<=dv W la
   ·have HSG:Hid (sg (decide (a<0)) (dv W la - dv W lb)=a+b):=by
     show sg _ _=_
     rw[HVA.out,HVB.out];exact Fu hsg
    have hc3:=hcl hge
    have hll:lb.length<=la.length:=by
     refine Nat.not_lt.1 λhlt=>?_
     have:=ZY PJ hda hdb hnb hlt;omega
    have HGE:=aa hge
    clear hsg hcl hcg hge
    go_wp2_with fail
    refine(Z5 _ _ la lb _ hda hdb hna hnb hsa2 hsb).mono ?_
    rintro e w3 ⟨rfl,hx3⟩
    have hsa3:=hsa2.ext hx3
    have hsb3:=hsb.ext hx3
    go_wp2_with fail
    refine(EV _ _ la lb _ hda hdb hsa3 hsb3 O hll HGE.out).mono ?_
    rintro e w4 ⟨_,rfl,⟨l3,hs3,hd3,hn3,hv3⟩,hx4⟩
    have HV3:=aa hv3
    clear hv3
    go_wp2_with fail
    refine(Wk _ _ l3 _ hs3 hd3 hn3).mono ?_
    rw[HV3.out,HSG.out]
    rintro e w5 ⟨_,rfl,⟨s4,q4,n4,cap4,rfl,hp4⟩,hx5⟩
    have HR4:=aa (((HR2.out.ext hx3).ext hx4).ext hx5)
    obtain⟨c0,c1,f0,f1⟩:=HR4.out.two
    go_wp2
    refine bodyPost_ret (v:=.agg #[.int .i64 s4,.slice q4 n4 cap4]) (by simp[results,Tryz.results223,go_sem,c0,c1]) I ⟨_,rfl,⟨_,_,_,_,rfl,hp4.kp ((Kp.refl _).DL HR4.out.SF IT _ _)⟩,?_⟩
    exact(((((((Ext.refl w).alloc _).alloc _).alloc _).trans hx).trans hx2).trans hx3 |>.trans hx4 |>.trans hx5).DL O _ _
   ·have HSG:Hid (sg (decide (b<0)) (dv W lb - dv W la)=a+b):=by
     show sg _ _=_
     rw[HVA.out,HVB.out];exact Ux hsg
    have HC3:=aa (hcg O)
    have hll:la.length<=lb.length:=by
     refine Nat.not_lt.1 λhlt=>?_
     have:=ZY PJ hdb hda hna hlt;omega
    have HGE:Hid (dv W la<=dv W lb):=by show _<=_;omega
    clear hsg hcl hcg hge
    go_wp2_with fail
    refine(Z5 _ _ la lb _ hda hdb hna hnb hsa2 hsb).mono ?_
    rw[HC3.out]
    rintro e w3 ⟨rfl,hx3⟩
    have hsa3:=hsa2.ext hx3
    have hsb3:=hsb.ext hx3
    go_wp2_with fail
    refine(EV _ _ lb la _ hdb hda hsb3 hsa3 O hll HGE.out).mono ?_
    rintro e w4 ⟨_,rfl,⟨l3,hs3,hd3,hn3,hv3⟩,hx4⟩
    have HV3:=aa hv3
    clear hv3
    go_wp2_with fail
    refine(Wk _ _ l3 _ hs3 hd3 hn3).mono ?_
    rw[HV3.out,HSG.out]
    rintro e w5 ⟨_,rfl,⟨s4,q4,n4,cap4,rfl,hp4⟩,hx5⟩
    have HR4:=aa (((HR2.out.ext hx3).ext hx4).ext hx5)
    obtain⟨c0,c1,f0,f1⟩:=HR4.out.two
    go_wp2
    refine bodyPost_ret (v:=.agg #[.int .i64 s4,.slice q4 n4 cap4]) (by simp[results,Tryz.results223,go_sem,c0,c1]) I ⟨_,rfl,⟨_,_,_,_,rfl,hp4.kp ((Kp.refl _).DL HR4.out.SF IT _ _)⟩,?_⟩
    exact(((((((Ext.refl w).alloc _).alloc _).alloc _).trans hx).trans hx2).trans hx3 |>.trans hx4 |>.trans hx5).DL O _ _
set_option maxRecDepth 100000 in
set_option maxHeartbeats 800000 in
theorem xS(s s':Int)(w:World)(h0 : -9223372036854775808<=s)(h1:s<=9223372036854775807)(h0' : -9223372036854775808<=s')(h1':s'<=9223372036854775807)
  (hl : -9223372036854775808<=s+s') (hh:s+s'<=9223372036854775807) :
  Calls Tryz.prog 223 #[.agg #[.int .i64 s,.slice none 0 0],.agg #[.int .i64 s',.slice none 0 0]] w λe w'=>Zw w (λv w'=>Xf w' v (s+s')) e w':=by
 have hn:=λw=>av (P:=Tryz.prog) w 131 297 none 0 0 0 0 Tryz.underlying131
 have hb1:(decide (s<s+s')==decide (0<s'))=true:=beq_iff_eq.2 (decide_eq_decide.2 O)
 have hb2:(decide (0<s')==decide (0<s'))=true:=we
 go_enter Tryz.func223,Tryz.ntmps223
 go_wp2_with fail
 exact bodyPost_ret (v:=.agg #[.int .i64 (s+s'),.slice none 0 0]) (by simp[results,Tryz.results223,go_sem]) I ⟨_,rfl,Xf.small _ hl hh,((((Ext.refl _).alloc _).alloc _).alloc _)⟩
theorem qj(v v':Value)(a b:Int)(w:World)(hv:Xf w v a)(hv':Xf w v' b)(ha:sz a<=1000000000)(hb:sz b<=1000000000):
  Calls Tryz.prog 223 #[v,v'] w λe w'=>Zw w (λv w'=>Xf w' v (a+b)) e w':=by
 obtain⟨s,q,n,cap,rfl,hp⟩:=hv
 obtain⟨s',q',n',cap',rfl,hp'⟩:=hv'
 rcases hp.isNone with ⟨rfl,rfl,rfl,rfl,h0,h1⟩ | ⟨_,_,rfl⟩
 ·rcases hp'.isNone with ⟨rfl,rfl,rfl,rfl,h0',h1'⟩ | ⟨_,_,rfl⟩
  ·by_cases hl : -9223372036854775808<=s+s'/\s+s'<=9223372036854775807
   ·exact xS s s' w h0 h1 h0' h1' hl.1 hl.2
   ·refine M3 _ _ _ _ _ _ _ _ _ _ w hp hp' (.inr (.inr ⟨rfl,rfl,?_⟩)) ha hb
    simp only[wrap64,beq_eq_false_iff_ne,ne_eq,decide_eq_decide]
    omega
  ·exact M3 _ _ _ _ _ _ _ _ _ _ w hp hp' (.inr (.inl ⟨rfl,rfl⟩)) ha hb
 ·exact M3 _ _ _ _ _ _ _ _ _ _ w hp hp' (.inl rfl) ha hb
def B2(w:World)(R:Nat)(s:Int)(q:Option Addr)(n cap:Nat):Prop:=w.cell? ⟨R,0,none⟩=some (.int .i64 s)/\w.cell? ⟨R,1,none⟩=some (.slice q n cap)
theorem Cm(v v':Value)(a b:Int)(w:World)(hv:Xf w v a)(hv':Xf w v' b)(ha:sz a<=1000000000)(hb:sz b<=1000000000):
  Calls Tryz.prog 298 #[v,v'] w λe w'=>Zw w (λv w'=>Xf w' v (a - b)) e w':=by
 have HV:=aa hv
 have HV':=aa hv'
 obtain⟨s,q,n,cap,rfl,hp⟩:=hv
 obtain⟨s',q',n',cap',rfl,hp'⟩:=hv'
 have HBa:=aa (Bx.O5 w (.cells #[.int .i64 s',.slice q' n' cap'] 133) (.cells IZ 133) 133 #[.int .i64 s,.slice q n cap])
 have HBb:=aa (Bx.kU w (.cells #[.int .i64 s,.slice q n cap] 133) (.cells IZ 133) 133 #[.int .i64 s',.slice q' n' cap'])
 have HBr:=aa (Bx.qI w (.cells #[.int .i64 s,.slice q n cap] 133) (.cells #[.int .i64 s',.slice q' n' cap'] 133) 133 IZ)
 have hnb:sz (-b)<=1000000000:=by rw[Vq];exact hb
 have HE:Hid (a + -b=a - b):=(Int.sub_eq_add_neg).symm
 clear hp hp'
 go_enter Tryz.func298,Tryz.ntmps298
 go_wp2_with fail
 have hEW:Ext w (((w.alloc (.cells #[.int .i64 s,.slice q n cap] 133)).alloc (.cells #[.int .i64 s',.slice q' n' cap'] 133)).alloc (.cells IZ 133)):=(((Ext.refl w).alloc _).alloc _).alloc _
 generalize hW:(((w.alloc (.cells #[.int .i64 s,.slice q n cap] 133)).alloc (.cells #[.int .i64 s',.slice q' n' cap'] 133)).alloc (.cells IZ 133))=W0 at *
 have HW:=aa hW
 clear hW
 obtain⟨ca0,ca1,fa0,fa1⟩:=HBa.out.two
 obtain⟨cb0,cb1,fb0,fb1⟩:=HBb.out.two
 clear fa0 fa1 fb0 fb1
 go_region_held3 (λw'=>w'.cell? ⟨w.heap.size,0,none⟩=some (.int .i64 s)/\w'.cell? ⟨w.heap.size,1,none⟩=some (.slice q n cap)/\w'.cell? ⟨w.heap.size+1,0,none⟩=some (.int .i64 s')/\w'.cell? ⟨w.heap.size+1,1,none⟩=some (.slice q' n' cap'))
  (first | exact⟨hx1.cell ca0,hx1.cell ca1,hx1.cell cb0,hx1.cell cb1⟩ | exact⟨hx2.cell (hx1.cell ca0),hx2.cell (hx1.cell ca1),hx2.cell (hx1.cell cb0),hx2.cell (hx1.cell cb1)⟩ | exact⟨X3 O (X3 O (hx2.cell (hx1.cell ca0))),X3 O (X3 O (hx2.cell (hx1.cell ca1))),X3 O (X3 O (hx2.cell (hx1.cell cb0))),X3 O (X3 O (hx2.cell (hx1.cell cb1)))⟩ | go_keep)
  (first
   |(go_at_call 262;refine(AH _ b _ (HV'.out.ext (hEW.drew))).mono ?_;rintro e w1 ⟨_,rfl,⟨s1,q1,n1,cap1,rfl,hp1⟩,hx1⟩)
   |(go_at_call 223;refine(qj _ _ a (-b) _ (HV.out.ext ((hEW.drew).trans hx1)) ⟨_,_,_,_,rfl,hp1⟩ ha hnb).mono ?_;rw[HE.out];rintro e w2 ⟨_,rfl,⟨s2,q2,n2,cap2,rfl,hp2⟩,hx2⟩;obtain⟨c0,c1,f0,f1⟩:=((HBr.out.drew.ext hx1).ext hx2).two))
 go_wp2
 refine bodyPost_ret (v:=.agg #[.int .i64 s2,.slice q2 n2 cap2]) (by simp[results,Tryz.results298,go_sem,c0,c1]) I ⟨_,rfl,⟨_,_,_,_,rfl,hp2.kp ((Kp.refl _).DL ((HBr.out.drew.ext hx1).ext hx2).SF IT _ _)⟩,?_⟩
 exact((hEW.drew.trans hx1).trans hx2).DL O _ _
theorem LU(a b:Int):ED (a - b)=YP a b:=(gA a b).symm
theorem xC(s s':Int)(w:World):
  Calls Tryz.prog 236 #[.agg #[.int .i64 s,.slice none 0 0],.agg #[.int .i64 s',.slice none 0 0]] w λe w'=>e = .returned (.int .i64 (YP s s'))/\Ext w w':=by
 have hn:=λw=>av (P:=Tryz.prog) w 131 297 none 0 0 0 0 Tryz.underlying131
 rcases bW s s' with g | g | g
 ·have HC:=aa (Hh g)
  go_enter Tryz.func236,Tryz.ntmps236
  go_wp2
  go_ret
  exact⟨by rw[HC.out];rfl,((Ext.refl _).alloc _).alloc _⟩
 ·subst g
  have HC:=aa (TB s)
  go_enter Tryz.func236,Tryz.ntmps236
  go_wp2
  go_ret
  exact⟨by rw[HC.out];rfl,((Ext.refl _).alloc _).alloc _⟩
 ·have HC:=aa (MC g)
  have g2:¬s<s':=O
  go_enter Tryz.func236,Tryz.ntmps236
  go_wp2
  go_ret
  exact⟨by rw[HC.out];rfl,((Ext.refl _).alloc _).alloc _⟩
theorem qf(v v':Value)(a b:Int)(w:World)(s s':Int)(q q':Option Addr)(n n' cap cap':Nat)(hv:Kc w s q n cap a)(hv':Kc w s' q' n' cap' b)(e1:v = .agg #[.int .i64 s,.slice q n cap])(e2:v' = .agg #[.int .i64 s',.slice q' n' cap'])
  (hc:q.isNone=false\/(q.isNone=true/\q'.isNone=false)) (ha:sz a<=1000000000) (hb:sz b<=1000000000) :
  Calls Tryz.prog 236 #[v,v'] w λe w'=>e = .returned (.int .i64 (YP a b))/\Ext w w':=by
 subst e1 e2
 have hn:=λw=>av (P:=Tryz.prog) w 131 297 q n cap 0 0 Tryz.underlying131
 have hn':=λw=>av (P:=Tryz.prog) w 131 297 q' n' cap' 0 0 Tryz.underlying131
 have HV:Hid (Xf w (.agg #[.int .i64 s,.slice q n cap]) a):=⟨_,_,_,_,rfl,hv⟩
 have HV':Hid (Xf w (.agg #[.int .i64 s',.slice q' n' cap']) b):=⟨_,_,_,_,rfl,hv'⟩
 have HC:=aa (LU a b)
 clear hv hv'
 rcases hc with h1 | ⟨h1,h2⟩
 all_goals
  rw[h1]at hn
  try rw[h2]at hn'
  go_enter Tryz.func236,Tryz.ntmps236
  go_wp2_with fail
  refine(Cm _ _ a b _ (HV.out.ext (((Ext.refl _).alloc _).alloc _)) (HV'.out.ext (((Ext.refl _).alloc _).alloc _)) ha hb).mono ?_
  rintro e w1 ⟨_,rfl,⟨s1,q1,n1,cap1,rfl,hp1⟩,hx1⟩
  have HP1:=aa hp1
  clear hp1
  go_wp2_with fail
  refine(Ft _ (a - b) _ ⟨_,_,_,_,rfl,HP1.out⟩).mono ?_
  rw[HC.out]
  rintro e w2 ⟨rfl,hx2⟩
  go_wp2
  go_ret
  exact⟨rfl,((((Ext.refl _).alloc _).alloc _).trans hx1).trans hx2⟩
theorem uo(v v':Value)(a b:Int)(w:World)(hv:Xf w v a)(hv':Xf w v' b)(ha:sz a<=1000000000)(hb:sz b<=1000000000):
  Calls Tryz.prog 236 #[v,v'] w λe w'=>e = .returned (.int .i64 (YP a b))/\Ext w w':=by
 obtain⟨s,q,n,cap,e1,hp⟩:=hv
 obtain⟨s',q',n',cap',e2,hp'⟩:=hv'
 rcases hp.isNone with ⟨rfl,rfl,rfl,rfl,h0,h1⟩ | ⟨_,_,rfl⟩
 ·rcases hp'.isNone with ⟨rfl,rfl,rfl,rfl,h0',h1'⟩ | ⟨_,_,rfl⟩
  ·subst e1 e2;exact xC s s' w
  ·exact qf _ _ _ _ w _ _ _ _ _ _ _ _ hp hp' e1 e2 (.inr ⟨rfl,rfl⟩) ha hb
 ·exact qf _ _ _ _ w _ _ _ _ _ _ _ _ hp hp' e1 e2 (.inl rfl) ha hb
theorem Pc{s:Int}(h0 : -9223372036854775808<=s)(h1:s<=9223372036854775807):0<=Jr s/\Jr s<W:=by
 rw[VU];have:=Hm;omega
theorem kO{x y:Int}:XE x y+W*ZE x y=x*y:=by unfold XE ZE;rw[fF];exact aB _ _
theorem kM{s t:Int}:(if(decide (s<0)==decide (t<0))then Jr s*Jr t else -(Jr s*Jr t))=s*t:=by
 unfold Jr
 by_cases h1:s<0<;>by_cases h2:t<0<;>simp[h1,h2,bI,lD]
theorem yK{s t:Int}:sg (!(decide (s<0)==decide (t<0))) (Jr s*Jr t)=s*t:=by
 rw[<-kM (s:=s) (t:=t)];unfold sg
 cases (decide (s<0)==decide (t<0))<;>simp
set_option maxRecDepth 100000 in
set_option maxHeartbeats 2000000 in
theorem jg(s s':Int)(w:World)(h0 : -9223372036854775808<=s)(h1:s<=9223372036854775807)(h0' : -9223372036854775808<=s')(h1':s'<=9223372036854775807)
  (hl:Jr s*Jr s'<=9223372036854775807) :
  Calls Tryz.prog 183 #[.agg #[.int .i64 s,.slice none 0 0],.agg #[.int .i64 s',.slice none 0 0]] w λe w'=>Zw w (λv w'=>Xf w' v (s*s')) e w':=by
 have hn:=λw=>av (P:=Tryz.prog) w 131 297 none 0 0 0 0 Tryz.underlying131
 have b1:=Pc h0 h1
 have b2:=Pc h0' h1'
 have hp0:0<=Jr s*Jr s':=aE b1.1 b2.1
 have hhi:ZE (Jr s) (Jr s')=0:=fD hp0 (by have:=Hm;omega)
 have hlo:XE (Jr s) (Jr s')=Jr s*Jr s':=iq hp0 (by have:=Hm;omega)
 have HHI:=aa hhi
 have HLO:=aa hlo
 have HSG:=aa (kM (s:=s) (t:=s'))
 have HBa:=aa (Bx.O5 w (.cells #[.int .i64 s',.slice none 0 0] 133) (.cells IZ 133) 133 #[.int .i64 s,.slice none 0 0])
 have HBb:=aa (Bx.kU w (.cells #[.int .i64 s,.slice none 0 0] 133) (.cells IZ 133) 133 #[.int .i64 s',.slice none 0 0])
 generalize Jr s*Jr s'=p at *
 clear hhi hlo
 by_cases hsg:(decide (s<0)==decide (s'<0))=true
 all_goals
  have hs2:=HSG.out
  first | rw[if_pos hsg]at hs2 | rw[if_neg hsg]at hs2
  have HS2:=aa hs2
  try have hsg3:(decide (s<0)==decide (s'<0))=false:=by simpa using hsg
  clear hs2
  go_enter Tryz.func183,Tryz.ntmps183
  go_wp2_with fail
  go_region_held3 (λw'=>w'.cell? ⟨w.heap.size,0,none⟩=some (.int .i64 s)/\w'.cell? ⟨w.heap.size+1,0,none⟩=some (.int .i64 s'))
   (first | go_keep)
   (first
    |(go_at_call 265;(with_reducible refine(BL s _ h0 h1).mono ?_);rintro e w1 ⟨rfl,rfl⟩)
    |(go_at_call 265;(with_reducible refine(BL s' _ h0' h1').mono ?_);rintro e w1 ⟨rfl,rfl⟩)
    |(go_at_call 264;refine(Ki _ _ _ b1 b2).mono ?_;rw[HHI.out,HLO.out];rintro e w1 ⟨rfl,rfl⟩))
  go_wp2
  first
   |exact bodyPost_ret (v:=.agg #[.int .i64 (-p),.slice none 0 0]) (by simp[results,Tryz.results183,go_sem]) I ⟨_,rfl,by rw[<-HS2.out];exact Xf.small _ O O,(((Ext.refl w).alloc _).alloc _).alloc _ |>.drewN 1⟩
   |exact bodyPost_ret (v:=.agg #[.int .i64 p,.slice none 0 0]) (by simp[results,Tryz.results183,go_sem]) I ⟨_,rfl,by rw[<-HS2.out];exact Xf.small _ O O,(((Ext.refl w).alloc _).alloc _).alloc _ |>.drewN 1⟩
set_option maxRecDepth 100000 in
set_option maxHeartbeats 4000000 in
theorem T6(s s':Int)(q q':Option Addr)(n n' cap cap':Nat)(a b:Int)(w:World)(hv:Kc w s q n cap a)(hv':Kc w s' q' n' cap' b)
  (hc:q.isNone=false\/(q.isNone=true/\q'.isNone=false)) (ha:sz a<=1000000000) (hb:sz b<=1000000000) :
  Calls Tryz.prog 183 #[.agg #[.int .i64 s,.slice q n cap],.agg #[.int .i64 s',.slice q' n' cap']] w λe w'=>Zw w (λv w'=>Xf w' v (a*b)) e w':=by
 have hn:=λw=>av (P:=Tryz.prog) w 131 297 q n cap 0 0 Tryz.underlying131
 have hn':=λw=>av (P:=Tryz.prog) w 131 297 q' n' cap' 0 0 Tryz.underlying131
 have HV:Hid (Xf w (.agg #[.int .i64 s,.slice q n cap]) a):=⟨_,_,_,_,rfl,hv⟩
 have HV':Hid (Xf w (.agg #[.int .i64 s',.slice q' n' cap']) b):=⟨_,_,_,_,rfl,hv'⟩
 have HBb:=aa (Bx.kU w (.cells #[.int .i64 s,.slice q n cap] 133) (.cells IZ 133) 133 #[.int .i64 s',.slice q' n' cap'])
 have HBr:=aa (Bx.qI w (.cells #[.int .i64 s,.slice q n cap] 133) (.cells #[.int .i64 s',.slice q' n' cap'] 133) 133 IZ)
 clear hv hv'
 rcases hc with h1 | ⟨h1,h2⟩
 all_goals
  rw[h1]at hn
  try rw[h2]at hn'
  go_enter Tryz.func183,Tryz.ntmps183
  go_wp2_with fail
  refine(Kg _ a _ (HV.out.ext ((((Ext.refl _).alloc _).alloc _).alloc _))).mono ?_
  rintro e w1 ⟨_,rfl,⟨p,la,rfl,hsa,hda,hna,hva⟩,hx⟩
  have HB1:=aa (HBb.out.ext hx)
  have HR1:=aa (HBr.out.ext hx)
  obtain⟨c0,c1,f0,f1⟩:=HB1.out.two
  have hlea:=ZM hda hna hva ha
  have HVA:=aa hva
  clear hva
  go_wp2_with fail
  refine(Kg _ b _ (HV'.out.ext (((((Ext.refl _).alloc _).alloc _).alloc _).trans hx))).mono ?_
  rintro e w2 ⟨_,rfl,⟨p',lb,rfl,hsb,hdb,hnb,hvb⟩,hx2⟩
  have HR2:=aa (HR1.out.ext hx2)
  have hleb:=ZM hdb hnb hvb hb
  have HVB:=aa hvb
  clear hvb c0 c1 f0 f1
  have hsa2:=hsa.ext hx2
  have HSG:Hid (sg (!(decide (a<0)==decide (b<0))) (dv W la*dv W lb)=a*b):=by
   show sg _ _=_
   rw[HVA.out,HVB.out];exact yK
  go_wp2_with fail
  refine(Ek _ _ la lb _ hda hdb hsa2 hsb O O).mono ?_
  rintro e w3 ⟨_,rfl,⟨l3,hs3,hd3,hn3,hv3⟩,hx3⟩
  have HV3:=aa hv3
  clear hv3
  go_wp2_with fail
  refine(Wk _ _ l3 _ hs3 hd3 hn3).mono ?_
  rw[HV3.out,HSG.out]
  rintro e w4 ⟨_,rfl,⟨s4,q4,n4,cap4,rfl,hp4⟩,hx4⟩
  have HR4:=aa ((HR2.out.ext hx3).ext hx4)
  obtain⟨c0,c1,f0,f1⟩:=HR4.out.two
  go_wp2
  refine bodyPost_ret (v:=.agg #[.int .i64 s4,.slice q4 n4 cap4]) (by simp[results,Tryz.results183,go_sem,c0,c1]) I ⟨_,rfl,⟨_,_,_,_,rfl,hp4.kp ((Kp.refl _).DL HR4.out.SF IT _ _)⟩,?_⟩
  exact(((((((Ext.refl w).alloc _).alloc _).alloc _).trans hx).trans hx2).trans hx3 |>.trans hx4).DL O _ _
set_option maxRecDepth 100000 in
set_option maxHeartbeats 4000000 in
theorem kN(s s':Int)(w:World)(h0 : -9223372036854775808<=s)(h1:s<=9223372036854775807)(h0' : -9223372036854775808<=s')(h1':s'<=9223372036854775807)
  (hl:9223372036854775808<=Jr s*Jr s') (ha:sz s<=1000000000) (hb:sz s'<=1000000000) :
  Calls Tryz.prog 183 #[.agg #[.int .i64 s,.slice none 0 0],.agg #[.int .i64 s',.slice none 0 0]] w λe w'=>Zw w (λv w'=>Xf w' v (s*s')) e w':=by
 have hn:=λw=>av (P:=Tryz.prog) w 131 297 none 0 0 0 0 Tryz.underlying131
 have b1:=Pc h0 h1
 have b2:=Pc h0' h1'
 have HV:=aa (Xf.small w h0 h1)
 have HV':=aa (Xf.small w h0' h1')
 have HBa:=aa (Bx.O5 w (.cells #[.int .i64 s',.slice none 0 0] 133) (.cells IZ 133) 133 #[.int .i64 s,.slice none 0 0])
 have HBb:=aa (Bx.kU w (.cells #[.int .i64 s,.slice none 0 0] 133) (.cells IZ 133) 133 #[.int .i64 s',.slice none 0 0])
 have HBr:=aa (Bx.qI w (.cells #[.int .i64 s,.slice none 0 0] 133) (.cells #[.int .i64 s',.slice none 0 0] 133) 133 IZ)
 have hhl:=kO (x:=Jr s) (y:=Jr s')
 have hor:ZE (Jr s) (Jr s')≠0\/9223372036854775808<=XE (Jr s) (Jr s'):=by
  by_cases h:ZE (Jr s) (Jr s')=0
  ·right;rw[h]at hhl;omega
  ·exact .inl h
 have hcase:(ZE (Jr s) (Jr s')==0)=false\/((ZE (Jr s) (Jr s')==0)=true/\9223372036854775808<=XE (Jr s) (Jr s')):=by
  by_cases h:ZE (Jr s) (Jr s')=0
  ·exact .inr ⟨by simpa using h,by rcases hor with g | g;exact absurd h g;exact g⟩
  ·exact .inl (by simpa using h)
 clear hor hhl hl
 generalize hmh:ZE (Jr s) (Jr s')=mh at *
 generalize hml:XE (Jr s) (Jr s')=ml at *
 have HMH:=aa hmh
 have HML:=aa hml
 clear hmh hml
 rcases hcase with g1 | ⟨g1,g2⟩
 all_goals
  go_enter Tryz.func183,Tryz.ntmps183
  go_wp2_with fail
  go_region_held3 (λw'=>w'.cell? ⟨w.heap.size,0,none⟩=some (.int .i64 s)/\w'.cell? ⟨w.heap.size+1,0,none⟩=some (.int .i64 s'))
   (first | go_keep)
   (first
    |(go_at_call 265;(with_reducible refine(BL s _ h0 h1).mono ?_);rintro e w1 ⟨rfl,rfl⟩)
    |(go_at_call 265;(with_reducible refine(BL s' _ h0' h1').mono ?_);rintro e w1 ⟨rfl,rfl⟩)
    |(go_at_call 264;refine(Ki _ _ _ b1 b2).mono ?_;rw[HMH.out,HML.out];rintro e w1 ⟨rfl,rfl⟩))
  go_wp2_with fail
  refine(Kg _ s _ (HV.out.ext (((((Ext.refl _).alloc _).alloc _).alloc _).drew))).mono ?_
  rintro e w1 ⟨_,rfl,⟨p,la,rfl,hsa,hda,hna,hva⟩,hx⟩
  have HB1:=aa (HBb.out.drew.ext hx)
  have HR1:=aa (HBr.out.drew.ext hx)
  obtain⟨c0,c1,f0,f1⟩:=HB1.out.two
  have hlea:=ZM hda hna hva ha
  have HVA:=aa hva
  clear hva
  go_wp2_with fail
  refine(Kg _ s' _ (HV'.out.ext ((((((Ext.refl _).alloc _).alloc _).alloc _).drew).trans hx))).mono ?_
  rintro e w2 ⟨_,rfl,⟨p',lb,rfl,hsb,hdb,hnb,hvb⟩,hx2⟩
  have HR2:=aa (HR1.out.ext hx2)
  have hleb:=ZM hdb hnb hvb hb
  have HVB:=aa hvb
  clear hvb c0 c1 f0 f1
  have hsa2:=hsa.ext hx2
  have HSG:Hid (sg (!(decide (s<0)==decide (s'<0))) (dv W la*dv W lb)=s*s'):=by
   show sg _ _=_
   rw[HVA.out,HVB.out];exact yK
  go_wp2_with fail
  refine(Ek _ _ la lb _ hda hdb hsa2 hsb O O).mono ?_
  rintro e w3 ⟨_,rfl,⟨l3,hs3,hd3,hn3,hv3⟩,hx3⟩
  have HV3:=aa hv3
  clear hv3
  go_wp2_with fail
  refine(Wk _ _ l3 _ hs3 hd3 hn3).mono ?_
  rw[HV3.out,HSG.out]
  rintro e w4 ⟨_,rfl,⟨s4,q4,n4,cap4,rfl,hp4⟩,hx4⟩
  have HR4:=aa ((HR2.out.ext hx3).ext hx4)
  obtain⟨c0,c1,f0,f1⟩:=HR4.out.two
  go_wp2
  refine bodyPost_ret (v:=.agg #[.int .i64 s4,.slice q4 n4 cap4]) (by simp[results,Tryz.results183,go_sem,c0,c1]) I ⟨_,rfl,⟨_,_,_,_,rfl,hp4.kp ((Kp.refl _).DL HR4.out.SF IT _ _)⟩,?_⟩
  exact((((((((Ext.refl w).alloc _).alloc _).alloc _).drew).trans hx).trans hx2).trans hx3 |>.trans hx4).DL O _ _
theorem pW(v v':Value)(a b:Int)(w:World)(hv:Xf w v a)(hv':Xf w v' b)(ha:sz a<=1000000000)(hb:sz b<=1000000000):
  Calls Tryz.prog 183 #[v,v'] w λe w'=>Zw w (λv w'=>Xf w' v (a*b)) e w':=by
 obtain⟨s,q,n,cap,rfl,hp⟩:=hv
 obtain⟨s',q',n',cap',rfl,hp'⟩:=hv'
 rcases hp.isNone with ⟨rfl,rfl,rfl,rfl,h0,h1⟩ | ⟨_,_,rfl⟩
 ·rcases hp'.isNone with ⟨rfl,rfl,rfl,rfl,h0',h1'⟩ | ⟨_,_,rfl⟩
  ·by_cases hl:Jr s*Jr s'<=9223372036854775807
   ·exact jg s s' w h0 h1 h0' h1' hl
   ·exact kN s s' w h0 h1 h0' h1' O ha hb
  ·exact T6 _ _ _ _ _ _ _ _ _ _ w hp hp' (.inr ⟨rfl,rfl⟩) ha hb
 ·exact T6 _ _ _ _ _ _ _ _ _ _ w hp hp' (.inl rfl) ha hb
theorem QBh(n:Int)(w:World)(h0 : -9223372036854775808<=n)(h1:n<=9223372036854775807):
  Calls Tryz.prog 184 #[.int .i64 n] w λe w'=>Zw w (λv w'=>Xf w' v n) e w':=by
 go_enter Tryz.func184,Tryz.ntmps184
 go_wp2
 exact bodyPost_ret (v:=.agg #[.int .i64 n,.slice none 0 0]) (by simp[results,Tryz.results184,go_sem]) I ⟨_,rfl,Xf.small _ h0 h1,(Ext.refl _).alloc _⟩
theorem OD{b:Int}(hb:0<b):(0<=a.tmod b->a.tdiv b=a / b/\a.tmod b=a%b)/\(a.tmod b<0->a.tdiv b - 1=a / b/\a.tmod b+b=a%b):=by
 have h1:=Int.mul_tdiv_add_tmod a b
 have h3:a.tmod b<b/\-b<a.tmod b:=by
  have:=bR a hb
  refine⟨this,?_⟩
  have h:=bR (-a) hb
  rw[iQ]at h;omega
 generalize a.tdiv b=q at *
 generalize a.tmod b=r at *
 constructor
 ·intro hr
  have g1:q*b<=a:=by rw[aj];omega
  have g2:a<(q+1)*b:=by rw[aV,aj q];omega
  exact⟨(ZN hb g1 g2).symm,by rw[YY g1 g2,aj q];omega⟩
 ·intro hr
  have g1:(q - 1)*b<=a:=by rw[eF,aj q];omega
  have g2:a<(q - 1+1)*b:=by rw[show q - 1+1=q from by omega,aj];omega
  exact⟨(ZN hb g1 g2).symm,by rw[YY g1 g2,eF,aj q];omega⟩
def QFK(a b:Int)(r:Value)(w':World):Prop:=∃v v',r = .tuple #[v,v']/\Xf w' v (a / b)/\Xf w' v' (a%b)
set_option maxRecDepth 100000 in
set_option maxHeartbeats 400000 in
theorem Am(s s':Int)(w:World)(h0 : -9223372036854775807<=s)(h1:s<=9223372036854775807)(hb0:0<s')(hb1:s'<=9223372036854775807):
  Calls Tryz.prog 257 #[.agg #[.int .i64 s,.slice none 0 0],.agg #[.int .i64 s',.slice none 0 0]] w λe w'=>Zw w (QFK s s') e w':=by
 have hn:=λw=>av (P:=Tryz.prog) w 131 297 none 0 0 0 0 Tryz.underlying131
 have hm:(s != -9223372036854775808)=true:=wg
 have hz:(s'==0)=false:=wg
 have hT:=OD (a:=s) hb0
 have HT:=aa hT
 have hbd : -9223372036854775807<=s.tdiv s'/\s.tdiv s'<=9223372036854775807:=by
  have h:=Int.natAbs_tdiv_le_natAbs s s';omega
 have hrd : -9223372036854775807<=s.tmod s'/\s.tmod s'<=9223372036854775807:=by
  have:=bR s hb0
  have h:=bR (-s) hb0
  rw[iQ]at h;omega
 clear hT
 have hqr:Hid (-9223372036854775808<=s / s'/\s / s'<=9223372036854775807/\0<=s%s'/\s%s'<=9223372036854775807):=by
  have r0:=aK s (by omega:s'≠0)
  have r1:=aH s hb0
  by_cases hr:0<=s.tmod s'
  ·have:=HT.out.1 hr;exact⟨O,O,r0,O⟩
  ·have:=HT.out.2 O;exact⟨O,O,r0,O⟩
 by_cases hr:0<=s.tmod s'
 ·have HR:=aa (HT.out.1 hr)
  go_enter Tryz.func257,Tryz.ntmps257
  go_wp2_with fail
  go_quiet (fail)
  go_wp2
  refine bodyPost_ret (v:=.tuple #[.agg #[.int .i64 (s.tdiv s'),.slice none 0 0],.agg #[.int .i64 (s.tmod s'),.slice none 0 0]]) (by simp[results,Tryz.results257,go_sem]) I ⟨_,rfl,⟨_,_,rfl,?_,?_⟩,?_⟩
  ·rw[HR.out.1];exact Xf.small _ hqr.out.1 hqr.out.2.1
  ·rw[HR.out.2];exact Xf.small _ (by have:=hqr.out;omega) hqr.out.2.2.2
  ·repeat (first | (with_reducible exact Ext.refl _) | (with_reducible refine Ext.drewN ?_ _) | (with_reducible refine Ext.drew ?_) | (with_reducible refine Ext.alloc ?_ _) | (with_reducible refine Ext.ZD ?_ (by dsimp only;omega) _))
 ·have HR:=aa (HT.out.2 O)
  have hw1:IntKind.i64.wrap (s.tdiv s' - 1)=s.tdiv s' - 1:=bh _ (by have:=HR.out;have:=hqr.out;omega)
  have hw2:IntKind.i64.wrap (s.tmod s'+s')=s.tmod s'+s':=bh _ O
  have hr:s.tmod s'<0:=O
  go_enter Tryz.func257,Tryz.ntmps257
  go_wp2_with fail
  go_quiet (fail)
  go_wp2
  go_quiet (fail)
  go_wp2
  refine bodyPost_ret (v:=.tuple #[.agg #[.int .i64 (s.tdiv s' - 1),.slice none 0 0],.agg #[.int .i64 (s.tmod s'+s'),.slice none 0 0]]) (by simp[results,Tryz.results257,go_sem]) I ⟨_,rfl,⟨_,_,rfl,?_,?_⟩,?_⟩
  ·rw[HR.out.1];exact Xf.small _ hqr.out.1 hqr.out.2.1
  ·rw[HR.out.2];exact Xf.small _ (by have:=hqr.out;omega) hqr.out.2.2.2
  ·repeat (first | (with_reducible exact Ext.refl _) | (with_reducible refine Ext.drewN ?_ _) | (with_reducible refine Ext.drew ?_) | (with_reducible refine Ext.alloc ?_ _) | (with_reducible refine Ext.ZD ?_ (by dsimp only;omega) _))
def Sz(F:Gs)(w:World):Prop:=∀b c T,F b=some (c,T)->∃fr,w.heap[b]?=some (.cells c T fr)
theorem Fits.r(h:Fits F w):Sz F w:=h.row
theorem Sz.le(h:Sz F' w)(k:Gs.le F F'):Sz F w:=λb c T e=>h b c T (k b _ e)
def Lh(w w':World):Prop:=∀(b:Nat) (c:Array Value) (fr:Nat×Nat),w.heap[b]?=some (.cells c 297 fr)->∃fr',w'.heap[b]?=some (.cells c 297 fr')
theorem Vl.Hs(h:Lh w w'){b:Nat}(hb:Vl w b 297):Vl w' b 297:=by
 obtain⟨c,fr,e⟩:=hb;obtain⟨fr',e'⟩:=h b c fr e;exact⟨c,fr',e'⟩
theorem Cells.Hs(h:Lh w w'){q:Option Addr}{l:List Int}(hc:Cells w q Jl l):Cells w' q Jl l:=by
 intro i hi
 obtain⟨b,off,e,ht,hcell⟩:=hc i hi
 refine⟨b,off,e,Vl.Hs h ht,?_⟩
 obtain⟨c,fr,hb⟩:=ht
 obtain⟨fr',hb'⟩:=h b c fr hb
 have e1:w.cell? ⟨b,off+i,none⟩=c[off+i]?:=by simp[eC,hb]
 have e2:w'.cell? ⟨b,off+i,none⟩=c[off+i]?:=by simp[eC,hb']
 rw[e2,<-e1];exact hcell
theorem SL.Hs(h:Lh w w'){v:Value}{l:List Int}(hs:SL w v Jl l):SL w' v Jl l:=by
 obtain⟨q,cap,h1,h2,h3,h4⟩:=hs
 exact⟨q,cap,h1,h2,h3,h4.Hs h⟩
theorem Kc.Hs(h:Lh w w'){s:Int}{q:Option Addr}{n cap:Nat}{z:Int}(hv:Kc w s q n cap z):Kc w' s q n cap z:=by
 rcases hv with hv | ⟨b,off,l,h1,h2,h3,h4,h5,h6⟩
 ·exact .inl hv
 ·exact .inr ⟨b,off,l,h1,h2,h3,h4,h5.Hs h,h6⟩
theorem QS.lift{f:FuncId}{val:γ->Value}{R:γ->World->Prop}(pr:γ->Prop)(he:Enters P f)(hF:Fits F w)
  (h:Calls P f args.toArray w λe w'=>∃c,e = .returned (val c)/\R c w'/\pr c/\Ext w w') (hR:∀c w' w'',Lh w' w''->R c w'->R c w''):QS P f args w F val (λc F=>(∀w,Sz F w->R c w)/\pr c):=by
 refine⟨he,h.mono ?_⟩
 rintro e w' ⟨c,rfl,hr,hpr,hx⟩
 refine⟨c,λb=>if b<w.heap.size then F b else match w'.heap[b]? with | some (.cells c T _)=>if T=297 then some (c,297)else none | _=>none,rfl,.of hx,?_,?_,⟨?_,?_⟩,?_⟩
 ·intro b x hb
  show(if b<w.heap.size then _ else _)=_
  rw[if_pos (hF.lt hb)];exact hb
 ·intro b hb
  show(if b<w.heap.size then _ else _)=_
  rw[if_pos hb]
 ·intro b c T hb
  by_cases hlt:b<w.heap.size
  ·rw[if_pos hlt]at hb
   obtain⟨fr,e⟩:=hF.row b c T hb
   exact⟨fr,by rw[hx.block b hlt];exact e⟩
  ·rw[if_neg hlt]at hb
   split at hb
   ·rename_i c' T' fr heq
    split at hb
    ·rename_i hT;cases hb;exact⟨fr,by rw[heq,hT]⟩
    ·cases hb
   ·cases hb
 ·intro b c fr hb
  show(if b<w.heap.size then _ else _)=_
  by_cases hlt:b<w.heap.size
  ·rw[if_pos hlt]
   rw[hx.block b hlt]at hb
   exact hF.all b c fr hb
  ·rw[if_neg hlt,hb];simp
 ·intro F'' hle
  refine⟨λw'' hw''=>?_,hpr⟩
  refine hR c w' w'' (λb c fr hb=>?_) hr
  refine hw'' b c _ (hle b _ ?_)
  show(if b<w.heap.size then _ else _)=_
  by_cases hlt:b<w.heap.size
  ·rw[if_pos hlt];rw[hx.block b hlt]at hb;exact hF.all b c fr hb
  ·rw[if_neg hlt,hb];simp
structure Bg where
 s:Int
 q:Option Addr
 n:Nat
 cap:Nat
variable{g g':Bg}
@[reducible] def Bg.v (g:Bg):Value:=.agg #[.int .i64 g.s,.slice g.q g.n g.cap]
def XG(F:Gs)(g:Bg)(z:Int):Prop:=∀w,Sz F w->Kc w g.s g.q g.n g.cap z
theorem XG.le(h:XG F g z)(k:Gs.le F F'):XG F' g z:=λw hw=>h w (hw.le k)
theorem XG.at(h:XG F g z){w:World}(hw:Fits F w):Xf w g.v z:=⟨_,_,_,_,rfl,h w hw.r⟩
theorem XG.small(F:Gs){z:Int}(h0 : -9223372036854775808<=z)(h1:z<=9223372036854775807):XG F ⟨z,none,0,0⟩ z:=λ_ _=>.inl ⟨rfl,rfl,rfl,rfl,h0,h1⟩
abbrev ZX(P:Program)(f:FuncId)(args:List Value)(w:World)(F:Gs)(z:Int):Prop:=QS P f args w F Bg.v (λg F=>XG F g z)
theorem ZX.of{f:FuncId}(he:Enters P f)(hF:Fits F w)(h:Calls P f args.toArray w λe w'=>Zw w (λv w'=>Xf w' v z) e w'):ZX P f args w F z:=by
 refine(QS.lift (λ_=>True) he hF (val:=Bg.v) (R:=λ(g:Bg) w=>Kc w g.s g.q g.n g.cap z) (h.mono ?_) (λc w' w'' hs hr=>hr.Hs hs)).imp λc F' hf=>⟨c,rfl,λF'' hle=>XG.le hf.1 hle⟩
 rintro e w' ⟨v,rfl,⟨s,q,n,cap,rfl,hp⟩,hx⟩
 exact⟨⟨s,q,n,cap⟩,rfl,hp,trivial,hx⟩
abbrev Qe[Dr](P:Program)(f:FuncId)(args:List Value)(w:World)(F:Gs)(v:Value):Prop:=QS P f args w F (λ(_:Unit)=>v) (λ_ _=>True)
theorem Qe.of{f:FuncId}{v:Value}(he:Enters P f)(hF:Fits F w)(h:Calls P f args.toArray w λe w'=>e = .returned v/\Ext w w'):Qe P f args w F v:=by
 have:=QS.lift (γ:=Unit) (val:=λ_=>v) (R:=λ_ _=>True) (λ_=>True) he hF (h.mono λe w' ⟨h1,h2⟩=>⟨(),h1,trivial,trivial,h2⟩) (λ_ _ _ _ h=>h)
 exact this.imp λc F' _=>⟨(),rfl,λ_ _=>trivial⟩
section
variable{w:World}{F:Gs}{g g':Bg}{a b:Int}
theorem Rf(hF:Fits F w)(h:XG F g a):Qe Tryz.prog 181 [g.v] w F (.int .i64 (ED a)) :=
 .of (enters_of Tryz.func181 wc rfl) hF (Ft _ a w (h.at hF))
theorem R6(hF:Fits F w)(h:XG F g a):ZX Tryz.prog 262 [g.v] w F (-a) :=
 .of (enters_of Tryz.func262 wc rfl) hF (AH _ a w (h.at hF))
theorem QAm(hF:Fits F w)(h:XG F g a):ZX Tryz.prog 256 [g.v] w F (Jr a) :=
 .of (enters_of Tryz.func256 wc rfl) hF (cF _ a w (h.at hF))
theorem qi(hF:Fits F w)(h:XG F g a)(h':XG F g' b)(ha:sz a<=1000000000)(hb:sz b<=1000000000):ZX Tryz.prog 223 [g.v,g'.v] w F (a+b) :=
 .of (enters_of Tryz.func223 wc rfl) hF (qj _ _ a b w (h.at hF) (h'.at hF) ha hb)
theorem QDr(hF:Fits F w)(h:XG F g a)(h':XG F g' b)(ha:sz a<=1000000000)(hb:sz b<=1000000000):ZX Tryz.prog 298 [g.v,g'.v] w F (a - b) :=
 .of (enters_of Tryz.func298 wc rfl) hF (Cm _ _ a b w (h.at hF) (h'.at hF) ha hb)
theorem DY(hF:Fits F w)(h:XG F g a)(h':XG F g' b)(ha:sz a<=1000000000)(hb:sz b<=1000000000):ZX Tryz.prog 183 [g.v,g'.v] w F (a*b) :=
 .of (enters_of Tryz.func183 wc rfl) hF (pW _ _ a b w (h.at hF) (h'.at hF) ha hb)
theorem QEp(hF:Fits F w)(h:XG F g a)(h':XG F g' b)(ha:sz a<=1000000000)(hb:sz b<=1000000000):Qe Tryz.prog 236 [g.v,g'.v] w F (.int .i64 (YP a b)) :=
 .of (enters_of Tryz.func236 wc rfl) hF (uo _ _ a b w (h.at hF) (h'.at hF) ha hb)
theorem IL{n:Int}(hF:Fits F w)(h0 : -9223372036854775808<=n)(h1:n<=9223372036854775807):ZX Tryz.prog 184 [.int .i64 n] w F n :=
 .of (enters_of Tryz.func184 wc rfl) hF (QBh n w h0 h1)
end
structure Sr where
 q:Option Addr
 n:Nat
 cap:Nat
@[reducible] def Sr.v (r:Sr):Value:=.slice r.q r.n r.cap
def Vm(F:Gs)(r:Sr)(l:List Int):Prop:=(∀w,Sz F w->SL w r.v Jl l)/\DG W l/\NZ l
theorem Vm.le{r:Sr}{l:List Int}(h:Vm F r l)(k:Gs.le F F'):Vm F' r l:=⟨λw hw=>h.1 w (hw.le k),h.2⟩
section
variable{w:World}{F:Gs}{g g':Bg}{a b:Int}
theorem PY(hF:Fits F w)(h:XG F g a):QS Tryz.prog 266 [g.v] w F (λ(c:Sr×List Int)=>.tuple #[.bool (decide (a<0)),.slice c.1.q c.1.n c.1.cap]) (λc F=>Vm F c.1 c.2/\dv W c.2=Jr a):=by
 refine(QS.lift (val:=λ(c:Sr×List Int)=>.tuple #[.bool (decide (a<0)),.slice c.1.q c.1.n c.1.cap]) (R:=λc w=>SL w c.1.v Jl c.2) (λc=>DG W c.2/\NZ c.2/\dv W c.2=Jr a)
  (enters_of Tryz.func266 wc rfl) hF ((Kg _ a w (h.at hF)).mono ?_) (λc w' w'' hs hr=>hr.Hs hs)).imp λc F' hf=>⟨c,rfl,λF'' hle=>⟨Vm.le ⟨hf.1,hf.2.1,hf.2.2.1⟩ hle,hf.2.2.2⟩⟩
 rintro e w' ⟨_,rfl,⟨p,l,rfl,hs,h1,h2,h3⟩,hx⟩
 obtain⟨q,cap,rfl,hq⟩:=hs
 exact⟨(⟨q,l.length,cap⟩,l),rfl,⟨q,cap,rfl,hq⟩,⟨h1,h2,h3⟩,hx⟩
theorem kZ{neg:Bool}{r:Sr}{l:List Int}(hF:Fits F w)(h:Vm F r l):ZX Tryz.prog 267 [.bool neg,r.v] w F (sg neg (dv W l)) :=
 .of (enters_of Tryz.func267 wc rfl) hF (Wk neg _ l w (h.1 w hF.r) h.2.1 h.2.2)
theorem LN{r r':Sr}{la lb:List Int}(hF:Fits F w)(h:Vm F r la)(h':Vm F r' lb)(hb0:lb≠[])(h1:la.length<=10000000000)(h2:lb.length<=10000000000):
  QS Tryz.prog 286 [r.v,r'.v] w F (λ(c:(Sr×List Int)×(Sr×List Int))=>.tuple #[.slice c.1.1.q c.1.1.n c.1.1.cap,.slice c.2.1.q c.2.1.n c.2.1.cap])
   (λc F=>(Vm F c.1.1 c.1.2/\Vm F c.2.1 c.2.2)/\dv W c.1.2=dv W la / dv W lb/\dv W c.2.2=dv W la%dv W lb):=by
 refine(QS.lift (val:=λ(c:(Sr×List Int)×(Sr×List Int))=>.tuple #[.slice c.1.1.q c.1.1.n c.1.1.cap,.slice c.2.1.q c.2.1.n c.2.1.cap]) (R:=λc w=>SL w c.1.1.v Jl c.1.2/\SL w c.2.1.v Jl c.2.2)
  (λc=>(DG W c.1.2/\NZ c.1.2)/\(DG W c.2.2/\NZ c.2.2)/\dv W c.1.2=dv W la / dv W lb/\dv W c.2.2=dv W la%dv W lb)
  (enters_of Tryz.func286 wc rfl) hF ((CD _ _ la lb w h.2.1 h'.2.1 h.2.2 h'.2.2 (h.1 w hF.r) (h'.1 w hF.r) hb0 h1 h2).mono ?_) (λc w' w'' hs hr=>⟨hr.1.Hs hs,hr.2.Hs hs⟩)).imp
  λc F' hf=>⟨c,rfl,λF'' hle=>⟨⟨Vm.le ⟨λw hw=>(hf.1 w hw).1,hf.2.1⟩ hle,Vm.le ⟨λw hw=>(hf.1 w hw).2,hf.2.2.1⟩ hle⟩,hf.2.2.2⟩⟩
 rintro e w' ⟨_,rfl,⟨pq,pr,lq,lr,rfl,hsq,hsr,hdq,hdr,hvq,hvr⟩,hx⟩
 obtain⟨q,cap,rfl,hq⟩:=hsq
 obtain⟨q',cap',rfl,hq'⟩:=hsr
 exact⟨((⟨q,lq.length,cap⟩,lq),(⟨q',lr.length,cap'⟩,lr)),rfl,⟨⟨q,cap,rfl,hq⟩,⟨q',cap',rfl,hq'⟩⟩,⟨hdq,hdr,hvq,hvr⟩,hx⟩
end
theorem E6{b:Int}(hb:0<b):
  (0<=sg (decide (a<0)) (Jr a%b)->sg (decide (a<0)) (Jr a / b)=a / b/\sg (decide (a<0)) (Jr a%b)=a%b) /\
  (sg (decide (a<0)) (Jr a%b)<0->sg (decide (a<0)) (Jr a / b) - 1=a / b/\sg (decide (a<0)) (Jr a%b)+b=a%b):=by
 have q1:=aB (Jr a) b
 have q2:=aK (Jr a) (by omega:b≠0)
 have q3:=aH (Jr a) hb
 generalize Jr a / b=q at *
 generalize hr:Jr a%b=r at *
 by_cases h:a<0
 ·rw[Er h]at q1
  have e1:sg (decide (a<0)) r = -r:=by simp[sg,h]
  have e2:sg (decide (a<0)) q = -q:=by simp[sg,h]
  rw[e1,e2]
  constructor
  ·intro h0
   have:r=0:=O
   have g1 : -q*b<=a:=by rw[bI,aj];omega
   have g2:a<(-q+1)*b:=by rw[aV,bI,aj q];omega
   exact⟨(ZN hb g1 g2).symm,by rw[YY g1 g2,bI,aj q];omega⟩
  ·intro h0
   have g1:(-q - 1)*b<=a:=by rw[eF,bI,aj q];omega
   have g2:a<(-q - 1+1)*b:=by rw[show -q - 1+1 = -q from by omega,bI,aj];omega
   exact⟨(ZN hb g1 g2).symm,by rw[YY g1 g2,eF,bI,aj q];omega⟩
 ·rw[Gk O]at q1 hr
  have e1:sg (decide (a<0)) r=r:=by simp[sg,h]
  have e2:sg (decide (a<0)) q=q:=by simp[sg,h]
  rw[e1,e2]
  constructor
  ·intro _
   have g1:q*b<=a:=by rw[aj];omega
   have g2:a<(q+1)*b:=by rw[aV,aj q];omega
   exact⟨(ZN hb g1 g2).symm,by rw[YY g1 g2,aj q];omega⟩
  ·intro h0;omega
theorem Kd(x:Int):ED x<0↔x<0:=by unfold ED;split<;>(try split)<;>omega
theorem Fg(a b:Int):sz (Jr a / b)<=sz a:=by
 rw[<-PQ a]
 apply Kw
 exact bc _ _
theorem ck(n:Bool)(x:Int):sz (sg n x)=sz x:=by unfold sg;split<;>simp[Vq]
theorem Ck{b:Int}(hb:0<b):sz (a%b)<=sz b:=by
 apply Kw
 have:=aK a (by omega:b≠0)
 have:=aH a hb
 omega
abbrev Ui(P:Program)(f:FuncId)(args:List Value)(w:World)(F:Gs)(y z:Int):Prop:=QS P f args w F (λ(c:Bg×Bg)=>.tuple #[c.1.v,c.2.v]) (λc F=>XG F c.1 y/\XG F c.2 z)
theorem CB{b:Int}(hF:Fits F w)(h:XG F g a)(h':XG F g' b)(hb0:0<b)(hza:sz a<=1000000000)(hzb:sz b<=1000000000)(hcase:g.q.isNone=true->g'.q.isNone=true->(g.s != -9223372036854775808)=false):
  Ui Tryz.prog 257 [g.v,g'.v] w F (a / b) (a%b):=by
 refine QS.intro (G:=λF=>XG F g a/\XG F g' b) Tryz.func257 rfl wc rfl rfl hF (λF' hF'=>⟨h.le hF',h'.le hF'⟩)<|QG<|QB ?_
 refine Qo I (vs:=[_,_]) I (λb2=>?_)
 refine Qo I (vs:=[_,_]) I (λb3=>?_)
 refine Qb Y7 (λb4=>?_)
 refine Qb Y7 (λb5=>?_)
 refine wG<|QG ?_
 refine MJ 28 (.bool false) ?_ ?_
 ·
  refine QB<|QA (QH I DA Vp)<|QA (Qg I Vp .u3 (.skip .h1))<|QA (Gd I I KY)<|wE I ?_
  refine Q3 (t:=19) rfl (λhb19=>?_) (λhb19=>?_)
  ·
   refine QM I I<|QA (QH I DA Vp)<|QM I I<|QA (Qg I Vp .u2 (.skip .h1))<|QM I I<|QA (Gd I I KY)<|QA (Qp I I I)<|wE I ?_
   refine Q3 (t:=24) rfl (λhb24=>?_) (λhb24=>?_)
   ·
    refine QM I I<|QA (QH I Ez JR)<|QM I I<|QA (Qg I JR .u3 .h1)<|QM I I<|QA (QZ I I I)<|QA (Qp I I I)<|QE ?_
    exact Zb (exd 15 rfl rfl) (congrArg (λb=>some (ah b)) (hcase hb19 hb24)) wK wi
   ·
    refine Qc I I I<|Qc I I I<|Qc I I I<|QA (Qj I I I)<|QE ?_
    exact Zb (exd 15 rfl rfl) rfl wK wi
  ·
   refine Qc I I I<|Qc I I I<|Qc I I I<|QA (Qj I I I)<|wE I<|Qc I I I<|Qc I I I<|Qc I I I<|QA (Qj I I I)<|QE ?_
   exact Zb (exd 14 rfl rfl) rfl wK wi
 ·
  refine Ko I ?_
  ·
   refine QQ<|QC<|wI<|QA (QJ (vs:=[_,_]) I Qd .u3 .h2 rfl) ?_
   refine QI I (λw F hF ⟨ha,hb⟩=>PY hF (by assumption)) (λc53=>?_);rcases c53 with ⟨v53,l53⟩;dsimp only
   refine JQ _ (λw F hF ⟨⟨ha,hb⟩,⟨h53,h53p⟩⟩=>bA h53.2 h53p) (λp53=>?_)
   have hl53:=ZM p53.1.1 p53.1.2 p53.2 hza
   refine wE I<|QA (QT I I)<|QA (QT I I)<|wF I<|wH I<|wI<|QA (QJ (vs:=[_,_]) I Qd .u2 .h2 rfl) ?_
   refine QI I (λw F hF ⟨⟨ha,hb⟩,⟨h53,h53p⟩⟩=>PY hF (by assumption)) (λc58=>?_);rcases c58 with ⟨v58,l58⟩;dsimp only
   refine JQ _ (λw F hF ⟨⟨⟨ha,hb⟩,⟨h53,h53p⟩⟩,⟨h58,h58p⟩⟩=>bA h58.2 h58p) (λp58=>?_)
   have hl58:=ZM p58.1.1 p58.1.2 p58.2 hzb
   have hb58:l58≠[]:=by rintro rfl;have:=p58.2;rw[Gk O]at this;simp at this;omega
   refine wE I<|QA (QT I I)<|QA (QT I I)<|wF I<|wH I<|wJ I<|wE I ?_
   refine QI I (λw F hF ⟨⟨⟨ha,hb⟩,⟨h53,h53p⟩⟩,⟨h58,h58p⟩⟩=>LN hF (by assumption) (by assumption) hb58 O O) (λc64=>?_);rcases c64 with ⟨⟨v64,l64⟩,v64_,l64_⟩;dsimp only
   refine JQ _ (λw F hF ⟨⟨⟨⟨ha,hb⟩,⟨h53,h53p⟩⟩,⟨h58,h58p⟩⟩,⟨⟨h64,h64_⟩,h64p⟩⟩=>bA h64.2 (bA h64_.2 h64p)) (λp64=>?_)
   rw[p53.2,p58.2,Gk (show 0<=b by omega)]at p64
   refine wE I<|QA (QT I I)<|QA (QT I I)<|wF I<|wH I<|wJ I<|wE I ?_
   refine QI I (λw F hF ⟨⟨⟨⟨ha,hb⟩,⟨h53,h53p⟩⟩,⟨h58,h58p⟩⟩,⟨⟨h64,h64_⟩,h64p⟩⟩=>kZ hF (by assumption)) (λg69=>?_)
   refine wE I<|wE I ?_
   refine QI I (λw F hF ⟨⟨⟨⟨⟨ha,hb⟩,⟨h53,h53p⟩⟩,⟨h58,h58p⟩⟩,⟨⟨h64,h64_⟩,h64p⟩⟩,h69⟩=>kZ hF (by assumption)) (λg72=>?_)
   refine Qb Y7 (λb14=>?_)
   refine Qb Y7 (λb15=>?_)
   refine QO (vs:=[_,_]) I I I Qd I .u1 .h2 wP<|QO (vs:=[_,_]) I I I Qd I .here .h2 wP<|wG<|QG<|wI<|QA (QJ (vs:=[_,_]) I Qd .here .h2 rfl) ?_
   refine QI I (λw F hF ⟨⟨⟨⟨⟨⟨ha,hb⟩,⟨h53,h53p⟩⟩,⟨h58,h58p⟩⟩,⟨⟨h64,h64_⟩,h64p⟩⟩,h69⟩,h72⟩=>Rf hF (by assumption)) (λ_=>?_)
   refine QA (QZ I I I)<|QE<|QC ?_
   have hsz72:sz (sg (decide (a<0)) (dv W l64_))<=1000000000:=by rw[ck,p64.2.2.2];exact ab (Ck hb0) hzb
   have hsz69:sz (sg (decide (a<0)) (dv W l64))<=1000000000:=by rw[ck,p64.2.2.1];exact ab (Fg a b) hza
   refine QR I (λhc=>?_) (λhc=>?_)
   ·
    refine Jt 6 wK mixed y0 y0 ?_
    simp only[aQ,bm,aR,aN]
    refine QK (QJ (vs:=[_,_]) I Qd .u1 .h2 rfl) ?_
    refine QN I (λw F hF h9=>IL hF O O) (λg77=>?_)
    refine QN I (λw F hF ⟨⟨⟨⟨⟨⟨⟨⟨ha,hb⟩,⟨h53,h53p⟩⟩,⟨h58,h58p⟩⟩,⟨⟨h64,h64_⟩,h64p⟩⟩,h69⟩,h72⟩,_⟩,h77⟩=>QDr hF (by assumption) (by assumption) hsz69 wa) (λg78=>?_)
    refine QK (QJ (vs:=[_,_]) I Qd .here .h2 rfl)<|QK (QJ (vs:=[_,_]) I Qd .u4 .h2 rfl) ?_
    refine QN I (λw F hF ⟨⟨⟨⟨⟨⟨⟨⟨⟨ha,hb⟩,⟨h53,h53p⟩⟩,⟨h58,h58p⟩⟩,⟨⟨h64,h64_⟩,h64p⟩⟩,h69⟩,h72⟩,_⟩,h77⟩,h78⟩=>qi hF (by assumption) hb hsz72 hzb) (λg81=>?_)
    refine Ze<|QO (vs:=[_,_]) I I I Qd I .u1 .h2 wP<|QO (vs:=[_,_]) I I I Qd I .here .h2 wP<|wG<|QG<|JO (.cons_cons _ (.cons_cons _ (.cons _ (.cons _ wm)))) mixed y0<|QK (QJ (vs:=[_,_]) I Qd .u1 .h2 rfl)<|QK (QJ (vs:=[_,_]) I Qd .here .h2 rfl)<|JV (vs:=[_,_]) I I I Qd I .u3 (.cons_cons _ (.cons_cons _ (.cons _ wm))) wi .h2 wP<|JV (vs:=[_,_]) I I I Qd I .u2 (.cons_cons _ (.cons_cons _ (.cons _ wm))) wi .h2 wP<|Q6<|QC<|QY ?_
    exact JZ (⟨g78,g81⟩) I (.JW (c:=[_,_]) I Qd .u3 (.JW (c:=[_,_]) I Qd .u2 .nil)) I (λF ⟨⟨⟨⟨⟨⟨⟨⟨⟨⟨ha,hb⟩,⟨h53,h53p⟩⟩,⟨h58,h58p⟩⟩,⟨⟨h64,h64_⟩,h64p⟩⟩,h69⟩,h72⟩,_⟩,h77⟩,h78⟩,h81⟩=>(by have hd:=(E6 hb0).2 (by rw[<-p64.2.2.2];exact(Kd _).1 (by simpa using hc));rw[p64.2.2.1]at h78;rw[p64.2.2.2]at h81;rw[hd.1]at h78;rw[hd.2]at h81;exact⟨h78,h81⟩))
   ·
    refine QQ<|QC<|QG<|JO (.cons_cons _ (.cons_cons _ (.cons _ (.cons _ wm)))) mixed y0<|QK (QJ (vs:=[_,_]) I Qd .u1 .h2 rfl)<|QK (QJ (vs:=[_,_]) I Qd .here .h2 rfl)<|JV (vs:=[_,_]) I I I Qd I .u3 (.cons_cons _ (.cons_cons _ (.cons _ wm))) wi .h2 wP<|JV (vs:=[_,_]) I I I Qd I .u2 (.cons_cons _ (.cons_cons _ (.cons _ wm))) wi .h2 wP<|Q6<|QC<|QY ?_
    exact JZ (⟨g69,g72⟩) I (.JW (c:=[_,_]) I Qd .u3 (.JW (c:=[_,_]) I Qd .u2 .nil)) I (λF ⟨⟨⟨⟨⟨⟨⟨ha,hb⟩,⟨h53,h53p⟩⟩,⟨h58,h58p⟩⟩,⟨⟨h64,h64_⟩,h64p⟩⟩,h69⟩,h72⟩,_⟩=>(by have hd:=(E6 hb0).1 (by rw[<-p64.2.2.2];have:=mt (Kd _).2 (by simpa using hc);omega);rw[p64.2.2.1]at h69;rw[p64.2.2.2]at h72;rw[hd.1]at h69;rw[hd.2]at h72;exact⟨h69,h72⟩))
theorem E7{b:Int}(hF:Fits F w)(h:XG F g a)(h':XG F g' b)(hb0:0<b)(hza:sz a<=1000000000)(hzb:sz b<=1000000000):
  Ui Tryz.prog 257 [g.v,g'.v] w F (a / b) (a%b):=by
 by_cases hs:g.q.isNone=true/\g'.q.isNone=true/\(g.s != -9223372036854775808)=true
 ·obtain⟨s,q,n,cap⟩:=g
  obtain⟨s',q',n',cap'⟩:=g'
  have hp:=h w hF.r
  have hp':=h' w hF.r
  obtain⟨h1,h2,h3⟩:=hs
  dsimp only at *
  rcases hp.isNone with ⟨rfl,rfl,rfl,rfl,k0,k1⟩ | ⟨_,_,rfl⟩
  ·rcases hp'.isNone with ⟨rfl,rfl,rfl,rfl,k0',k1'⟩ | ⟨_,_,rfl⟩
   ·have hm:s≠-9223372036854775808:=by simpa using h3
    refine(QS.lift (val:=λ(c:Bg×Bg)=>.tuple #[c.1.v,c.2.v]) (R:=λc w=>Kc w c.1.s c.1.q c.1.n c.1.cap (s / s')/\Kc w c.2.s c.2.q c.2.n c.2.cap (s%s')) (λ_=>True) (enters_of Tryz.func257 wc rfl) hF
     ((Am s s' w O k1 hb0 k1').mono ?_) (λc w' w'' hs hr=>⟨hr.1.Hs hs,hr.2.Hs hs⟩)).imp λc F' hf=>⟨c,rfl,λF'' hle=>⟨XG.le (λw hw=>(hf.1 w hw).1) hle,XG.le (λw hw=>(hf.1 w hw).2) hle⟩⟩
    rintro e w' ⟨_,rfl,⟨v,v',rfl,⟨s1,q1,n1,cap1,rfl,hp1⟩,⟨s2,q2,n2,cap2,rfl,hp2⟩⟩,hx⟩
    exact⟨(⟨s1,q1,n1,cap1⟩,⟨s2,q2,n2,cap2⟩),rfl,⟨hp1,hp2⟩,trivial,hx⟩
   ·cases h2
  ·cases h1
 ·refine CB hF h h' hb0 hza hzb λh1 h2=>?_
  cases hv:(g.s != -9223372036854775808)with
  |false=>rfl
  |true=>exact absurd ⟨h1,h2,hv⟩ hs
theorem Mj{b:Int}(h:b ∣ a): -a / -b=a / b:=by
 obtain⟨c,rfl⟩:=h
 by_cases hb:b=0
 ·subst hb;simp
 ·rw[Int.ediv_neg,<-lD,fk _ hb,fk _ hb];omega
theorem QF8:sz 1<=1000000000:=wa
theorem QAA{b:Int}(hF:Fits F w)(h:XG F g a)(h':XG F g' b)(hb0:b≠0)(hd:b ∣ a)(hza:sz a<=1000000000)(hzb:sz b<=1000000000):
  ZX Tryz.prog 263 [g.v,g'.v] w F (a / b):=by
 refine QS.intro (G:=λF=>XG F g a/\XG F g' b) Tryz.func263 rfl wc rfl rfl hF (λF' hF'=>⟨h.le hF',h'.le hF'⟩)<|QG<|QB ?_
 refine Qo I (vs:=[_,_]) I (λb2=>?_)
 refine Qo I (vs:=[_,_]) I (λb3=>?_)
 refine Qb Y7 (λb4=>?_)
 refine wG<|QG<|wI<|QA (QJ (vs:=[_,_]) I Qd .u1 .h2 rfl) ?_
 refine QI I (λw F hF ⟨ha,hb⟩=>Rf hF (by assumption)) (λ_=>?_)
 refine QA (QZ I I I)<|QE<|QC ?_
 refine QR I (λhc=>?_) (λhc=>?_)
 ·
  refine Jt 4 wK mixed y0 y0 ?_
  simp only[aQ,bm,aR,aN]
  refine QK (QJ (vs:=[_,_]) I Qd .u2 .h2 rfl) ?_
  refine QN I (λw F hF ⟨⟨ha,hb⟩,_⟩=>R6 hF (by assumption)) (λg11=>?_)
  refine QK (QJ (vs:=[_,_]) I Qd .u1 .h2 rfl) ?_
  refine QN I (λw F hF ⟨⟨⟨ha,hb⟩,_⟩,h11⟩=>R6 hF (by assumption)) (λg13=>?_)
  refine Ze<|QO (vs:=[_,_]) I I I Qd I .u2 .h2 wP<|QO (vs:=[_,_]) I I I Qd I .u1 .h2 wP<|wG<|wI<|QA (QJ (vs:=[_,_]) I Qd .u2 .h2 rfl)<|QA (QJ (vs:=[_,_]) I Qd .u1 .h2 rfl) ?_
  refine QI I (λw F hF h9=>E7 hF h9.1.2 h9.2 (by have:=(Kd b).1 (by simpa using hc);omega) (by rw[Vq];exact hza) (by rw[Vq];exact hzb)) (λc17=>?_);rcases c17 with ⟨g17,g17_⟩;dsimp only
  refine wE I<|QA (QT I I)<|QA (QT I I) ?_
  refine Qb Y7 (λb5=>?_)
  refine Qb Y7 (λb6=>?_)
  refine QO (vs:=[_,_]) I I I Qd I .u1 .h2 wP<|QO (vs:=[_,_]) I I I Qd I .here .h2 wP<|wG<|wI<|QA (QJ (vs:=[_,_]) I Qd .u1 .h2 rfl)<|QO (vs:=[_,_]) I I I Qd I .u2 .h2 wP<|wG<|QY ?_
  exact QV (_) rfl (.JW (c:=[_,_]) I Qd .u2 .nil) rfl (λF ⟨⟨⟨⟨⟨ha,hb⟩,_⟩,h11⟩,h13⟩,⟨h17,h17_⟩⟩=>(by rw[show -a / -b=a / b from Mj hd]at h17;exact h17))
 ·
  refine QQ<|QC<|wI<|QA (QJ (vs:=[_,_]) I Qd .u2 .h2 rfl)<|QA (QJ (vs:=[_,_]) I Qd .u1 .h2 rfl) ?_
  refine QI I (λw F hF h9=>E7 hF h9.1.1 h9.1.2 (by have:=mt (Kd b).2 (by simpa using hc);omega) hza hzb) (λc17=>?_);rcases c17 with ⟨g17,g17_⟩;dsimp only
  refine wE I<|QA (QT I I)<|QA (QT I I) ?_
  refine Qb Y7 (λb5=>?_)
  refine Qb Y7 (λb6=>?_)
  refine QO (vs:=[_,_]) I I I Qd I .u1 .h2 wP<|QO (vs:=[_,_]) I I I Qd I .here .h2 wP<|wG<|wI<|QA (QJ (vs:=[_,_]) I Qd .u1 .h2 rfl)<|QO (vs:=[_,_]) I I I Qd I .u2 .h2 wP<|wG<|QY ?_
  exact QV (_) rfl (.JW (c:=[_,_]) I Qd .u2 .nil) rfl (λF h9=>h9.2.1)
theorem yH(x:Int)(h:ED x≠0):x≠0:=by rintro rfl;exact h rfl
theorem QBG(x:Int)(h:ED x=0):x=0:=by unfold ED at h;split at h<;>(try split at h)<;>omega
structure QFF(a b:Int) where
 x:Int
 y:Int
 gx:Bg
 gy:Bg
 hx:0<=x
 hy:0<=y
 hg:bX x y=bX a b
 sx:sz x<=1000000000
 sy:sz y<=1000000000
theorem QAa{b:Int}(hF:Fits F w)(h:XG F g a)(h':XG F g' b)(hza:sz a<=1000000000)(hzb:sz b<=1000000000):
  ZX Tryz.prog 177 [g.v,g'.v] w F (bX a b):=by
 refine QS.intro (G:=λF=>XG F g a/\XG F g' b) Tryz.func177 rfl wc rfl rfl hF (λF' hF'=>⟨h.le hF',h'.le hF'⟩)<|QG<|QB ?_
 refine Qo I (vs:=[_,_]) I (λb2=>?_)
 refine Qo I (vs:=[_,_]) I (λb3=>?_)
 refine Qb Y7 (λb4=>?_)
 refine wG<|QG<|Jt 4 wK mixed y0 y0 ?_
 simp only[aQ,bm,aR,aN]
 refine QK (QJ (vs:=[_,_]) I Qd .u2 .h2 rfl) ?_
 refine QN I (λw F hF ⟨ha,hb⟩=>QAm hF (by assumption)) (λg8=>?_)
 refine QK (QJ (vs:=[_,_]) I Qd .u1 .h2 rfl) ?_
 refine QN I (λw F hF ⟨⟨ha,hb⟩,h8⟩=>QAm hF (by assumption)) (λg10=>?_)
 refine Ze<|QO (vs:=[_,_]) I I I Qd I .u2 .h2 wP<|QO (vs:=[_,_]) I I I Qd I .u1 .h2 wP<|wG<|QG<|QU ?_
 refine Zy (ι:=QFF a b) (λi=>[(2,.pointer (some ⟨b2,0,none⟩)),(3,.pointer (some ⟨b3,0,none⟩)),(4,.pointer (some ⟨b4,0,none⟩))]) (λi=>[(b4,.cells #[.int .i64 0,.slice none 0 0] 133 (0,0)),(b3,.cells #[.int .i64 i.gy.s,.slice i.gy.q i.gy.n i.gy.cap] 133 (0,0)),(b2,.cells #[.int .i64 i.gx.s,.slice i.gx.q i.gx.n i.gx.cap] 133 (0,0))])
  (λi F=>XG F i.gx i.x/\XG F i.gy i.y) (λi=>i.y.toNat) ⟨Jr a,Jr b,g8,g10,by rw[VU];omega,by rw[VU];omega,by rw[VU,VU];rfl,by rw[PQ];exact hza,by rw[PQ];exact hzb⟩ wQ wK (λ_ ⟨⟨_,h8⟩,h10⟩=>⟨h8,h10⟩) (λi=>?_)
 refine QG<|wI<|QA (QJ (vs:=[_,_]) I Qd .u1 .h2 rfl) ?_
 refine QI I (λw F hF ⟨hX,hY⟩=>Rf hF (by assumption)) (λ_=>?_)
 refine QA (QZ I I I)<|QE<|QC ?_
 refine QR I (λhc=>?_) (λhc=>?_)
 ·
  refine QQ<|QC<|QU<|wI<|QA (QJ (vs:=[_,_]) I Qd .u2 .h2 rfl)<|QA (QJ (vs:=[_,_]) I Qd .u1 .h2 rfl) ?_
  refine QI I (λw F hF h9=>E7 hF h9.1.1 h9.1.2 (by have:=i.hy;have:=yH i.y (by simpa using hc);omega) i.sx i.sy) (λc17=>?_);rcases c17 with ⟨g17,g17_⟩;dsimp only
  refine wE I<|QA (QT I I)<|QA (QT I I) ?_
  refine Qb Y7 (λb5=>?_)
  refine Qb Y7 (λb6=>?_)
  refine QO (vs:=[_,_]) I I I Qd I .u1 .h2 wP<|QO (vs:=[_,_]) I I I Qd I .here .h2 wP<|wG<|Jt 3 (.cons_cons _ (.cons_cons _ (.cons_cons _ (.cons_cons _ (.cons _ .slnil))))) mixed y0 y0 ?_
  simp only[aQ,bm,aR,aN]
  refine QK (QJ (vs:=[_,_]) I Qd .u3 .h2 rfl)<|QK (QJ (vs:=[_,_]) I Qd .here .h2 rfl)<|JV (vs:=[_,_]) I I I Qd I .u4 wm wi .h2 wP<|Ze<|QO (vs:=[_,_]) I I I Qd I .u3 .h2 wP<|QE<|Qk ?_
  have hy0:0<i.y:=by have:=i.hy;have:=yH i.y (by simpa using hc);omega
  have hm0:=aK i.x (by omega:i.y≠0)
  have hm1:=aH i.x hy0
  refine Ql (⟨i.y,i.x%i.y,i.gy,g17_,i.hy,hm0,by rw[<-i.hg,iR,Int.emod_def];first | rw[Int.gcd_sub_mul_left_left] | rw[Int.gcd_sub_mul_right_left] | rw[Int.gcd_sub_mul_left_right],i.sy,ab (Ck hy0) i.sy⟩:QFF a b) (by show(i.x%i.y).toNat<i.y.toNat;omega) wQ (.cons _ (.cons _ wK)) (λ_ ⟨⟨⟨_,hY⟩,_⟩,⟨_,h17⟩⟩=>⟨hY,h17⟩)
 ·
  refine Qz ?_
  repeat (first | refine QW ?_ | refine QP wc ?_)
  refine QX<|QC<|wI<|QA (QJ (vs:=[_,_]) I Qd .u2 .h2 rfl)<|QO (vs:=[_,_]) I I I Qd I .here .h2 wP<|wG<|QY ?_
  exact QV (_) rfl (.JW (c:=[_,_]) I Qd .here .nil) rfl (λF h9=>(by have h0:i.y=0:=QBG i.y (by simpa using hc);have e:=i.hg;rw[h0,Int.gcd_zero_right]at e;rw[<-e,fN i.hx];exact h9.1.1))
theorem Di(a:Int):∀e:Nat,sz (a^e)<=e*sz a+1
 |0=>by simp;decide
 |e+1=>by
  rw[ba]
  have:=Wd (a^e) a
  have:=Di a e
  rw[bG];omega
structure QCR(K:Nat) where
 k:Int
 e:Nat
 p:Nat
 go:Bg
 gx:Bg
 hk:0<=k
 hK:k<=9223372036854775807
 hp:1<=p
 h:e+p*k.toNat=K
structure QCQ(K p:Nat)(k:Int) where
 e:Nat
 go:Bg
 h:e+p*(2*(k.toNat / 2))=K
theorem AA{K e:Nat}(he:e<=K)(h:K*sz a<=500000000):sz (a^e)<=1000000000:=by
 have h1:=Di a e
 have h2:=fJ (sz a) he
 omega
theorem yw{k:Int}(hF:Fits F w)(h:XG F g a)(hk:0<=k)(hK:k<=9223372036854775807)(hz:k.toNat*sz a<=500000000):
  ZX Tryz.prog 261 [g.v,.int .i64 k] w F (a^k.toNat):=by
 refine QS.intro (G:=λF=>XG F g a) Tryz.func261 rfl wc rfl rfl hF (λF' hF'=>h.le hF')<|wI<|Qo rfl (vs:=[_,_]) rfl (λb2=>Qb Y7 (λb4=>wG<|wI<|QI rfl (λw F hF ha=>IL hF O O) (λg6=>Qb Y7 (λb5=>QO (vs:=[_,_]) rfl rfl rfl Qd rfl .here .h2 wP<|wG<|QG<|QU ?_))))
 refine Zy (ι:=QCR k.toNat) (λi=>[(1,.int .i64 i.k),(2,.pointer (some ⟨b2,0,none⟩)),(4,.pointer (some ⟨b4,0,none⟩)),(5,.pointer (some ⟨b5,0,none⟩))]) (λi=>[(b5,.cells #[.int .i64 i.go.s,.slice i.go.q i.go.n i.go.cap] 133 (0,0)),(b4,.cells #[.int .i64 0,.slice none 0 0] 133 (0,0)),(b2,.cells #[.int .i64 i.gx.s,.slice i.gx.q i.gx.n i.gx.cap] 133 (0,0))])
  (λi F=>XG F i.go (a^i.e)/\XG F i.gx (a^i.p)) (λi=>i.k.toNat) ⟨k,0,1,g6,g,hk,hK,aF _,we⟩ wR wK (λ_ ⟨h1,h6⟩=>⟨by simpa using h6,by show XG _ _ (a^1);rw[ba,iP,eX];exact h1⟩) (λi=>?_)
 refine QG<|wJ I<|QA (QZ I I I)<|QE<|QC ?_
 refine QR I (λhc=>?_) (λhc=>?_)
 ·
  refine QQ<|QC<|QG<|QU ?_
  have hk0:0<i.k:=by simpa using hc
  have hpk:i.p<=k.toNat:=by have:=i.h;have:=aL i.p (show 1<=i.k.toNat by omega);omega
  have hik:=i.hk;have hiK:=i.hK
  refine Bn (ι:=QCQ k.toNat i.p i.k) (λj=>[(1,.int .i64 i.k),(2,.pointer (some ⟨b2,0,none⟩)),(4,.pointer (some ⟨b4,0,none⟩)),(5,.pointer (some ⟨b5,0,none⟩))]) (λj=>[(b5,.cells #[.int .i64 j.go.s,.slice j.go.q j.go.n j.go.cap] 133 (0,0)),(b4,.cells #[.int .i64 0,.slice none 0 0] 133 (0,0)),(b2,.cells #[.int .i64 i.gx.s,.slice i.gx.q i.gx.n i.gx.cap] 133 (0,0))])
   (λj F=>XG F j.go (a^j.e)/\XG F i.gx (a^i.p)) ?_ ?_
  ·
   refine wJ I<|QA (QBO I I O)<|QA (QZ I I I)<|QE<|QC ?_
   refine QR I (λhc=>?_) (λhc=>?_)
   ·
    refine QB<|QA (QJ (vs:=[_,_]) I Qd .here .h2 rfl)<|QA (QJ (vs:=[_,_]) I Qd .u2 .h2 rfl)<|QI I (λw F hF h9=>DY hF h9.1 h9.2 (AA (by have:=i.h;omega) hz) (AA hpk hz)) (λg16=>QO (vs:=[_,_]) I I I Qd I .here .h2 wP<|QE ?_)
    have hodd:i.k%2=1:=by simpa using hc
    refine Zq (⟨i.e+i.p,g16,by have:=i.h;have e:i.k.toNat=2*(i.k.toNat / 2)+1:=O;rw[e,lz]at this;omega⟩:QCQ k.toNat i.p i.k) wR wK (λ_ ⟨⟨_,hX⟩,h16⟩=>⟨by show XG _ _ (a^(i.e+i.p));rw[fM];exact h16,hX⟩)
   ·
    refine QQ ?_
    have hev:i.k%2=0:=by have:i.k%2≠1:=(by simpa using hc);omega
    refine Zq (⟨i.e,i.go,by have:=i.h;have e:i.k.toNat=2*(i.k.toNat / 2):=O;rw[<-e];exact this⟩:QCQ k.toNat i.p i.k) wR wK wi
  ·intro j
   refine wJ I<|QA (QZ I I I)<|QE<|QC ?_
   refine QR I (λhc=>?_) (λhc=>?_)
   ·
    refine QB<|QA (QJ (vs:=[_,_]) I Qd .u2 .h2 rfl)<|QA (QJ (vs:=[_,_]) I Qd .u2 .h2 rfl)<|QI I (λw F hF h9=>DY hF h9.2 h9.2 (AA hpk hz) (AA hpk hz)) (λg21=>QO (vs:=[_,_]) I I I Qd I .u2 .h2 wP<|QE<|Qk<|QC<|QB<|wE I<|QA (yZ I I)<|wF I<|QE ?_)
    have hk2:(i.k / 2).toNat=i.k.toNat / 2:=O
    refine Ql (⟨i.k / 2,j.e,i.p+i.p,j.go,g21,O,O,by have:=i.hp;omega,by rw[hk2];have:=j.h;rw[Nat.mul_left_comm]at this;rw[bG];omega⟩:QCR k.toNat) (by show(i.k / 2).toNat<i.k.toNat;omega) wR wK (λ_ ⟨⟨hO,_⟩,h21⟩=>⟨hO,by show XG _ _ (a^(i.p+i.p));rw[fM];exact h21⟩)
   ·
    refine QQ<|Qk<|QC<|QB<|wE I<|QA (yZ I I)<|wF I<|QE ?_
    have hk1:i.k=1:=by have:¬1<i.k:=(by simpa using hc);omega
    have hk2:(i.k / 2).toNat=i.k.toNat / 2:=O
    refine Ql (⟨i.k / 2,j.e,i.p,j.go,i.gx,O,O,i.hp,by rw[hk2];have:=j.h;have h0:i.k.toNat / 2=0:=O;rw[h0]at this ⊢;simpa using this⟩:QCR k.toNat) (by show(i.k / 2).toNat<i.k.toNat;omega) wR wK wi
 ·
  refine Qz ?_
  repeat (first | refine QW ?_ | refine QP wc ?_)
  refine QX<|QC<|wI<|QA (QJ (vs:=[_,_]) I Qd .here .h2 rfl)<|QO (vs:=[_,_]) I I I Qd I .u1 .h2 wP<|wG<|QY ?_
  exact QV (_) rfl (.JW (c:=[_,_]) I Qd .u1 .nil) rfl (λF h9=>(by have h0:i.k.toNat=0:=(by have:¬0<i.k:=(by simpa using hc);omega);have e:=i.h;rw[h0]at e;have e2:i.e=k.toNat:=(by simpa using e);have e3:=congrArg (λn=>XG F i.go (a^n)) e2;exact cast e3 h9.1))
structure Fr where
 n:Bg
 d:Bg
@[reducible] def Fr.v (x:Fr):Value:=.agg #[.int .i64 x.n.s,.slice x.n.q x.n.n x.n.cap,.int .i64 x.d.s,.slice x.d.q x.d.n x.d.cap]
def JM(F:Gs)(x:Fr)(r:Rat):Prop:=XG F x.n r.num/\XG F x.d r.den
theorem JM.le{x:Fr}{r:Rat}(h:JM F x r)(k:Gs.le F F'):JM F' x r:=⟨h.1.le k,h.2.le k⟩
abbrev ZA(P:Program)(f:FuncId)(args:List Value)(w:World)(F:Gs)(r:Rat):Prop:=QS P f args w F Fr.v (λx F=>JM F x r)
def JL(r:Rat):Nat:=max (sz r.num) (sz (r.den:Int))
theorem Js(r:Rat):sz r.num<=JL r:=iC _ _
theorem Jo(r:Rat):sz (r.den:Int)<=JL r:=iy _ _
theorem den_pos(r:Rat):(0:Int)<r.den:=by have:=r.den_pos;omega
theorem Kc.one{s:Int}{q:Option Addr}(h:Kc w s q n cap z):(q.isNone=true->(s==1)=decide (z=1))/\(q.isNone=false->decide (z=1)=false):=by
 rcases h with ⟨rfl,rfl,rfl,rfl,_⟩ | ⟨b,off,l,rfl,_,_,_,_,_,_,_,h,hz,hb⟩
 ·exact⟨λ_=>by rw[aq];simp,λh=>(by cases h)⟩
 ·refine⟨λh=>(by cases h),λ_=>?_⟩
  rcases h with rfl | rfl<;>simp<;>omega
structure MkI(a b:Int) where
 x:Int
 y:Int
 gx:Bg
 gy:Bg
 hy:0<y
 e:aC x y=aC a b
 sx:sz x<=1000000000
 sy:sz y<=1000000000
theorem CF(x:Int):(aC x 1).num=x/\(aC x 1).den=1:=by
 rw[iF,iG];simp
theorem HZ{x y:Int}(h:0<y):(bX x y:Int)≠0:=by
 have:bX x y≠0:=by rw[Ne,Int.gcd_eq_zero_iff];omega
 omega
theorem LC{x y:Int}(h:0<y):sz (bX x y:Int)<=sz y:=by
 apply Kw
 have:=Int.gcd_le_right x h
 omega
theorem WA{x y:Int}(h:0<y):(aC x y).num=x / (bX x y:Int)/\((aC x y).den:Int)=y / (bX x y:Int):=by
 rw[iF,iG,if_neg O,Int.sign_eq_one_of_pos h,eX,iR y x]
 refine⟨rfl,?_⟩
 rw[Int.natCast_ediv,fN O]
theorem AO{b:Int}(hF:Fits F w)(h:XG F g a)(h':XG F g' b)(hb0:b≠0)(hza:sz a<=1000000000)(hzb:sz b<=1000000000):
  ZA Tryz.prog 182 [g.v,g'.v] w F (aC a b):=by
 refine QS.intro (G:=λF=>XG F g a/\XG F g' b) Tryz.func182 rfl wc rfl rfl hF (λF' hF'=>⟨h.le hF',h'.le hF'⟩)<|QG<|QB ?_
 refine Qo I (vs:=[_,_]) I (λb2=>?_)
 refine Qo I (vs:=[_,_]) I (λb3=>?_)
 refine Qb Ju (λb4=>?_)
 refine QE<|QC ?_
 refine Bn (ι:=MkI a b) (λi=>[(2,.pointer (some ⟨b2,0,none⟩)),(3,.pointer (some ⟨b3,0,none⟩)),(4,.pointer (some ⟨b4,0,none⟩))]) (λi=>[(b4,.cells #[.int .i64 0,.slice none 0 0,.int .i64 0,.slice none 0 0] 135 (0,0)),(b3,.cells #[.int .i64 i.gy.s,.slice i.gy.q i.gy.n i.gy.cap] 133 (0,0)),(b2,.cells #[.int .i64 i.gx.s,.slice i.gx.q i.gx.n i.gx.cap] 133 (0,0))]) (λi F=>XG F i.gx i.x/\XG F i.gy i.y) ?_ ?_
 ·
  refine wI<|QA (QJ (vs:=[_,_]) I Qd .u1 .h2 rfl) ?_
  refine QI I (λw F hF ⟨ha,hb⟩=>Rf hF (by assumption)) (λ_=>?_)
  refine QA (QZ I I I)<|QE<|QC ?_
  refine QR I (λhc=>?_) (λhc=>?_)
  ·
   refine Jt 4 wK mixed y0 y0 ?_
   simp only[aQ,bm,aR,aN]
   refine QK (QJ (vs:=[_,_]) I Qd .u2 .h2 rfl) ?_
   refine QN I (λw F hF ⟨⟨ha,hb⟩,_⟩=>R6 hF (by assumption)) (λg10=>?_)
   refine QK (QJ (vs:=[_,_]) I Qd .u1 .h2 rfl) ?_
   refine QN I (λw F hF ⟨⟨⟨ha,hb⟩,_⟩,h10⟩=>R6 hF (by assumption)) (λg12=>?_)
   refine Ze<|QO (vs:=[_,_]) I I I Qd I .u2 .h2 wP<|QO (vs:=[_,_]) I I I Qd I .u1 .h2 wP<|QE ?_
   have hb1:b<0:=(Kd b).1 (by simpa using hc)
   exact Zq (⟨-a,-b,g10,g12,O,hJ a b,by rw[Vq];exact hza,by rw[Vq];exact hzb⟩:MkI a b) wQ wK (λ_ ⟨⟨_,h10⟩,h12⟩=>⟨h10,h12⟩)
  ·
   refine QQ ?_
   have hb1:¬b<0:=mt (Kd b).2 (by simpa using hc)
   exact Zq (⟨a,b,g,g',O,rfl,hza,hzb⟩:MkI a b) wQ wK wj
 ·intro i
  refine QG ?_
  refine XQ _ (λw F hF h9=>(h9.2 w hF.r).one) (λp1=>?_)
  refine MJ 20 (.bool (decide (i.y=1))) ?_ ?_
  ·
   refine QB<|QA (QH I DA Vp)<|QA (Qg I Vp .u1 (.skip .h1))<|QA (Gd I I KY)<|wE I ?_
   refine Q3 (t:=16) rfl (λhb16=>?_) (λhb16=>?_)
   ·
    refine QM I I<|QA (QH I Ez JR)<|QM I I<|QA (Qg I JR .u1 .h1)<|QM I I<|QA (QZ I I I)<|QA (Qp I I I)<|QE ?_
    exact Zb (exd 9 rfl rfl) (congrArg (λb=>some (ah b)) (p1.1 hb16)) wK wi
   ·
    refine Qc I I I<|Qc I I I<|Qc I I I<|QA (Qj I I I)<|QE ?_
    exact Zb (exd 9 rfl rfl) (congrArg (λb=>some (ah b)) (p1.2 hb16).symm) wK wi
  ·
   refine QR I (λhc=>?_) (λhc=>?_)
   ·
    refine wI<|QA (QJ (vs:=[_,_]) I Qd .u2 .h2 rfl)<|QA (QJ (vs:=[_,_]) I Qd .u1 .h2 rfl)<|QA (Qv I Me Ju (.cons (vs:=[_,_]) I I I .h2 (.cons (vs:=[_,_]) I I I (.skip (.skip .h2)) .nil)))<|QO (vs:=[_,_,_,_]) I I I QL I .here .h4 wR<|wG<|QY ?_
    exact QV (⟨i.gx,i.gy⟩) I (.JW (c:=[_,_,_,_]) I QL .here .nil) rfl (λF ⟨ha,hb⟩=>(by have h1:i.y=1:=(by simpa using hc);have e:=CF i.x;rw[<-i.e,h1];exact⟨by rw[e.1];exact ha,by rw[e.2];have hb1:=hb;rw[h1]at hb1;exact hb1⟩))
   ·
    refine QQ<|QC<|wI<|QA (QJ (vs:=[_,_]) I Qd .u2 .h2 rfl)<|QA (QJ (vs:=[_,_]) I Qd .u1 .h2 rfl) ?_
    refine QI I (λw F hF h9=>QAa hF h9.1 h9.2 i.sx i.sy) (λg26=>?_)
    refine Qb Y7 (λb5=>?_)
    refine QO (vs:=[_,_]) I I I Qd I .here .h2 wP<|wG<|QG<|JO (.cons_cons _ (.cons _ wm)) mixed y0<|QK (QJ (vs:=[_,_]) I Qd .u2 .h2 rfl)<|QK (QJ (vs:=[_,_]) I Qd .here .h2 rfl) ?_
    refine QN I (λw F hF h9=>QAA hF h9.1.1 h9.2 (HZ i.hy) (Int.gcd_dvd_left ..) i.sx (ab (LC i.hy) i.sy)) (λg29=>?_)
    refine QK (QJ (vs:=[_,_]) I Qd .u1 .h2 rfl)<|QK (QJ (vs:=[_,_]) I Qd .here .h2 rfl) ?_
    refine QN I (λw F hF h9=>QAA hF h9.1.1.2 h9.1.2 (HZ i.hy) (Int.gcd_dvd_right ..) i.sy (ab (LC i.hy) i.sy)) (λg32=>?_)
    refine QK (Qv I Me Ju (.cons (vs:=[_,_]) I I I .h2 (.cons (vs:=[_,_]) I I I (.skip (.skip .h2)) .nil)))<|JV (vs:=[_,_,_,_]) I I I QL I .u1 wm (λ_ h=>h.1.1) .h4 wR<|Q6<|QC<|QY ?_
    exact QV (⟨g29,g32⟩) I (.JW (c:=[_,_,_,_]) I QL .u1 .nil) rfl (λF h9=>(by have e:=WA (x:=i.x) i.hy;rw[<-i.e];exact⟨by rw[e.1];exact h9.1.2,by rw[e.2];exact h9.2⟩))
theorem EI{a:Int}(hF:Fits F w)(h:XG F g a):ZA Tryz.prog 180 [g.v] w F (a:Rat):=by
 refine QS.intro (G:=λF=>XG F g a) Tryz.func180 rfl wc rfl rfl hF (λF' hF'=>h.le hF')<|QG<|QB ?_
 refine Qo I (vs:=[_,_]) I (λb1=>?_)
 refine Qb Ju (λb2=>?_)
 refine wG<|QG<|JO (.cons _ wm) mixed y0<|QK (QJ (vs:=[_,_]) I Qd .here .h2 rfl) ?_
 refine QN I (λw F hF ha=>IL hF O O) (λg4=>?_)
 refine QK (Qv I Me Ju (.cons (vs:=[_,_]) I I I .h2 (.cons (vs:=[_,_]) I I I (.skip (.skip .h2)) .nil)))<|JV (vs:=[_,_,_,_]) I I I QL I .here wm wj .h4 wR<|Q6<|QC<|QY ?_
 exact QV (⟨g,g4⟩) I (.JW (c:=[_,_,_,_]) I QL .here .nil) rfl (λF h9=>⟨h9.1,h9.2⟩)
theorem TO{n:Int}(hF:Fits F w)(h0 : -9223372036854775808<=n)(h1:n<=9223372036854775807):ZA Tryz.prog 90 [.int .i64 n] w F (n:Rat):=by
 refine QS.intro (G:=λF=>True) Tryz.func90 rfl wc rfl rfl hF wh<|QG<|QB ?_
 refine Qb Ju (λb2=>?_)
 refine wG<|wI<|wE I ?_
 refine QI I (λw F hF _=>IL hF O O) (λg4=>?_)
 refine QI I (λw F hF ⟨_,h4⟩=>EI hF (by assumption)) (λx5=>?_)
 refine QO (vs:=[_,_,_,_]) I I I QL I .here .h4 wR<|wG<|QY ?_
 exact QV (_) rfl (.JW (c:=[_,_,_,_]) I QL .here .nil) rfl (λF ⟨⟨_,h4⟩,⟨h5,h5_⟩⟩=>⟨‹_›,‹_›⟩)
theorem TA{x:Fr}{r:Rat}(hF:Fits F w)(h:JM F x r):Qe Tryz.prog 88 [x.v] w F (.int .i64 (ED r.num)):=by
 refine QS.intro (G:=λF=>JM F x r) Tryz.func88 rfl wc rfl rfl hF (λF' hF'=>h.le hF')<|QG<|QB ?_
 refine Qo I (vs:=[_,_,_,_]) I (λb1=>?_)
 refine wH I<|wI<|QA (QH I Z1 Qd)<|QA (QJ (vs:=[_,_]) I Qd .here .h2 rfl) ?_
 refine QI I (λw F hF h9=>Rf (g:=x.n) hF h9.1) (λ_=>?_)
 refine wH I<|QY ?_
 exact wL I I I wh
theorem Mo{x:Fr}{r:Rat}(hF:Fits F w)(h:JM F x r):Qe Tryz.prog 222 [x.v] w F (.bool (decide ((r.den:Int)=1))):=by
 refine QS.intro (G:=λF=>JM F x r) Tryz.func222 rfl wc rfl rfl hF (λF' hF'=>h.le hF') ?_
 refine XQ _ (λw F hF h=>(h.2 w hF.r).one) (λp1=>?_)
 refine QG<|QB ?_
 refine Qo I (vs:=[_,_,_,_]) I (λb1=>?_)
 refine wH I<|wI<|QA (QH I Z0 Qd)<|QA (QH I DA Vp)<|QA (Qg I Vp .here (.skip (.skip (.skip .h1))))<|QA (Gd I I KY)<|wE I ?_
 refine Q3 (t:=7) rfl (λhb7=>?_) (λhb7=>?_)
 ·
  refine QM I I<|QA (QH I Z0 Qd)<|QM I I<|QA (QH I Ez JR)<|QM I I<|QA (Qg I JR .here (.skip (.skip .h1)))<|QM I I<|QA (QZ I I I)<|QA (Qp I I I)<|wH I<|QY ?_
  exact wL I I (by show ah _=ah _;rw[<-p1.1 hb7];first | rfl | skip) wh
 ·
  refine Qc I I I<|Qc I I I<|Qc I I I<|Qc I I I<|QA (Qj I I I)<|wH I<|QY ?_
  exact wL I I (congrArg ah (p1.2 hb7)) wh
theorem Ad{x:Fr}{r:Rat}(hF:Fits F w)(h:JM F x r):ZA Tryz.prog 221 [x.v] w F (-r):=by
 refine QS.intro (G:=λF=>JM F x r) Tryz.func221 rfl wc rfl rfl hF (λF' hF'=>h.le hF')<|QG<|QB ?_
 refine Qo I (vs:=[_,_,_,_]) I (λb1=>?_)
 refine Qb Ju (λb2=>?_)
 refine wG<|QG<|JO (.cons _ wm) mixed y0<|QK (QH I Z1 Qd)<|QK (QJ (vs:=[_,_]) I Qd .here .h2 rfl) ?_
 refine QN I (λw F hF h9=>R6 (g:=x.n) hF h9.1) (λg5=>?_)
 refine QK (QH I Z0 Qd)<|QK (QJ (vs:=[_,_]) I Qd .here (.skip (.skip .h2)) I)<|QK (Qv I Me Ju (.cons (vs:=[_,_]) I I I .h2 (.cons (vs:=[_,_]) I I I (.skip (.skip .h2)) .nil)))<|JV (vs:=[_,_,_,_]) I I I QL I .here wm wj .h4 wR<|Q6<|QC<|QY ?_
 exact QV (⟨g5,x.d⟩) I (.JW (c:=[_,_,_,_]) I QL .here .nil) rfl (λF h9=>⟨h9.2,h9.1.2⟩)
@[reducible] def tx (l:List UInt8):Value:=.string ⟨l.toArray⟩
theorem KR(l:List UInt8):(⟨l.toArray⟩:ByteArray).size=l.length:=by simp[eR]
theorem Bo(l:List UInt8):(⟨l.toArray⟩:ByteArray).toList=l:=by rw[ByteArray.toList_eq]
theorem q7(a b:List UInt8):(⟨a.toArray⟩++⟨b.toArray⟩:ByteArray)=⟨(a++b).toArray⟩:=by
 apply fY
 simp
theorem L7(l:List UInt8)(i j:Nat):(⟨l.toArray⟩:ByteArray).extract i j=⟨((l.take j).drop i).toArray⟩:=by
 apply fY
 simp only[ByteArray.data_extract,List.extract_toArray,List.extract_eq_take_drop]
 rw[Array.mk.injEq,List.drop_take]
section
variable{P:Program}{N:Nat}{m:Sl}{Y:World->Prop}{ty:TypeId}
theorem KF{a b:List UInt8}(hx:ev m x=some (tx a))(hy:ev m y=some (tx b))(h:a.length+b.length<=9223372036854775807):Qt P N m Y (.binOp .add T x y yT) ty (tx (a++b)):=by
 have:=yk (P:=P) (N:=N) (m:=m) (S:=Y) (ty:=ty) (T:=T) (yT:=yT) hx hy (by rw[KR,KR];omega)
 rw[q7]at this;exact this
theorem Vr{a b:List UInt8}(hx:ev m x=some (tx a))(hy:ev m y=some (tx b)):Qt P N m Y (.binOp .eql T x y yT) ty (.bool (a==b)) :=
 QZ hx hy (by show some (ah (bS _==bS _))=_;rw[Bo,Bo])
theorem yf{a b:List UInt8}(hx:ev m x=some (tx a))(hy:ev m y=some (tx b)):Qt P N m Y (.binOp .neq T x y yT) ty (.bool (!(a==b))) :=
 QZ hx hy (by show some (ah (!(bS _==bS _)))=_;rw[Bo,Bo])
theorem X7{a:List UInt8}(hx:ev m x=some (tx a))(hT:Bu P T=true):Qt P N m Y (.call ⟨.builtin .len,#[x],#[T]⟩) ty (.int .i64 a.length):=by
 have:=yi (P:=P) (N:=N) (S:=Y) (ty:=ty) hx hT
 rw[KR]at this;exact this
theorem Gc{a:List UInt8}{i:Nat}(hx:ev m x=some (tx a))(hy:ev m y=some (.int .i64 (i:Int)))(hT:Bu P T=true)(hi:i<a.length):Qt P N m Y (.index T x y) ty (.int .u8 (a[i].toNat:Int)):=by
 have:=yj (P:=P) (N:=N) (S:=Y) (ty:=ty) hx hy hT (by rw[KR];exact hi)
 simpa using this
theorem Rn{lo hi:Option Operand}{vl vh:Option Value}{a:List UInt8}(l h:Nat)(hx:ev m x=some (tx a))(el:O9 m lo=some vl)(eh:O9 m hi=some vh)(hT:Bu P T=true)
  (hlo:(vl=none/\l=0)\/vl=some (.int .i64 (l:Int))) (hhi:(vh=none/\h=a.length)\/vh=some (.int .i64 (h:Int))) (h1:l<=h) (h2:h<=a.length):Qt P N m Y (.slice T x lo hi none) ty (tx ((a.take h).drop l)):=by
 have:=Oa (P:=P) (N:=N) (S:=Y) (ty:=ty) hx el eh hT hlo (by rw[KR];exact hhi) h1 (by rw[KR];exact h2)
 rw[L7]at this;exact this
theorem Ee{hi:Option Operand}{vh:Option Value}{a:List UInt8}(h:Nat)(hx:ev m x=some (tx a))(eh:O9 m hi=some vh)(hT:Bu P T=true)(hhi:vh=some (.int .i64 (h:Int)))(h2:h<=a.length):Qt P N m Y (.slice T x none hi none) ty (tx (a.take h)) :=
 Rn (P:=P) (N:=N) (m:=m) (Y:=Y) (ty:=ty) (lo:=none) (vl:=none) 0 h hx rfl eh hT (.inl ⟨rfl,rfl⟩) (.inr hhi) (bV _) h2
theorem GW{lo:Option Operand}{vl:Option Value}{a:List UInt8}(l:Nat)(hx:ev m x=some (tx a))(el:O9 m lo=some vl)(hT:Bu P T=true)(hlo:vl=some (.int .i64 (l:Int)))(h1:l<=a.length):Qt P N m Y (.slice T x lo none none) ty (tx (a.drop l)):=by
 have:=Rn (P:=P) (N:=N) (m:=m) (Y:=Y) (ty:=ty) (hi:=none) (vh:=none) l a.length hx el I hT (.inr hlo) (.inl ⟨rfl,rfl⟩) h1 (aF _)
 rw[List.take_length]at this;exact this
end
def JC(F:Gs):Prop:=(∃m T,F 0=some (#[.int .i64 m],T))/\∃T,F 5=some ((Lib.pow10Tab.map λz=>ak .u64 z).toArray,T)
theorem JC.le(h:JC F)(k:Gs.le F F'):JC F':=by
 obtain⟨⟨m,T,h1⟩,T',h2⟩:=h
 exact⟨⟨m,T,k _ _ h1⟩,T',k _ _ h2⟩
theorem JC.max(hF:Fits F w)(h:JC F):∃m,w.cell? ⟨0,0,none⟩=some (.int .i64 m):=by
 obtain⟨⟨m,T,h1⟩,_⟩:=h
 obtain⟨fr,e⟩:=hF.row _ _ _ h1
 exact⟨m,by simp[eC,e]⟩
theorem JC.jF(hF:Fits F w)(h:JC F):iA Tryz.prog w "internal/strconv.uint64pow10" .u64 iT:=by
 obtain⟨_,T,h2⟩:=h
 obtain⟨fr,e⟩:=hF.row _ _ _ h2
 have hg:Tryz.prog.globalNamed "internal/strconv.uint64pow10" = some 5:=y0
 unfold iA World.var?
 rw[hg]
 simp only[Option.bind_some,e]
theorem Sj(w:World)(e:TypeId)(s:ByteArray):Ext w (Lib.bytesWorld w e s) :=
 ⟨rfl,rfl,rfl,by rw[Lib.bytesWorld_size];omega,λk hk=>Lib.bytesWorld_at_old w e s k hk⟩
theorem I8(w:World)(os:Array Obj):Ext w (fl w os) :=
 ⟨rfl,rfl,rfl,by simp[fl],λk hk=>by
  show(w.heap++os)[k]?=_
  rw[fz,if_pos hk]⟩
section
variable{w:World}{F:Gs}
theorem QAi(hF:Fits F w)(hG:JC F){s p:List UInt8}(hs:s.length<4294967281):Qe Tryz.prog 174 [tx s,tx p] w F (.tuple #[tx (fe s p).1,tx (fe s p).2.1,.bool (fe s p).2.2]):=by
 obtain⟨m,hm⟩:=hG.max hF
 refine .of (enters_of Tryz.func174 wc rfl) hF ((Tryz.strings_Cut ⟨s.toArray⟩ ⟨p.toArray⟩ m w (by rw[KR];exact hs) hm).mono ?_)
 rintro e w' ⟨h1,n,rfl⟩
 exact⟨h1,(Ext.refl w).drewN n⟩
theorem LQ(hF:Fits F w){s p:List UInt8}:Qe Tryz.prog 175 [tx s,tx p] w F (.tuple #[tx (ag s p),.bool (ar s p)]):=by
 refine .of (enters_of Tryz.func175 wc rfl) hF ((Tryz.strings_CutPrefix ⟨s.toArray⟩ ⟨p.toArray⟩ w).mono ?_)
 rintro e w' ⟨h1,rfl⟩
 exact⟨h1,Ext.refl _⟩
theorem I6(hF:Fits F w){s p:List UInt8}:Qe Tryz.prog 258 [tx s,tx p] w F (.bool (ar s p)):=by
 refine .of (enters_of Tryz.func258 wc rfl) hF ((Tryz.strings_HasPrefix ⟨s.toArray⟩ ⟨p.toArray⟩ w).mono ?_)
 rintro e w' ⟨h1,rfl⟩
 exact⟨h1,Ext.refl _⟩
theorem EL(hF:Fits F w){s p:List UInt8}:Qe Tryz.prog 259 [tx s,tx p] w F (tx (ag s p)):=by
 refine .of (enters_of Tryz.func259 wc rfl) hF ((Tryz.strings_TrimPrefix ⟨s.toArray⟩ ⟨p.toArray⟩ w).mono ?_)
 rintro e w' ⟨h1,rfl⟩
 exact⟨h1,Ext.refl _⟩
theorem yX(hF:Fits F w){s:List UInt8}{c:Nat}(hc:s.length*c<=140737488355328)(hc':c<=140737488355328):Qe Tryz.prog 288 [tx s,.int .i64 c] w F (tx (eY s c)):=by
 refine .of (enters_of Tryz.func288 wc rfl) hF ((Tryz.strings_Repeat ⟨s.toArray⟩ c w O (by rw[KR];exact hc)).mono ?_)
 rintro e w' ⟨h1,h2⟩
 exact⟨h1,h2⟩
theorem QCJ(hF:Fits F w){s:List UInt8}{n:Int}(hl:s.length<=18)(h:iI s=some n):Qe Tryz.prog 260 [tx s] w F (.tuple #[.int .i64 n,.nilIface]):=by
 refine .of (enters_of Tryz.func260 wc rfl) hF ((Tryz.strconv_Atoi ⟨s.toArray⟩ n (by rw[KR];exact hl) h w).mono ?_)
 rintro e w' ⟨h1,t,rfl⟩
 exact⟨h1,Sj _ _ _⟩
theorem kz(hF:Fits F w)(hG:JC F){n:Int}(h0 : -9223372036854775808<=n)(h1:n<=9223372036854775807):Qe Tryz.prog 285 [.int .i64 n] w F (tx (fQ n)):=by
 refine .of (enters_of Tryz.func285 wc rfl) hF ((Tryz.strconv_Itoa n h0 h1 w (hG.jF hF)).mono ?_)
 rintro e w' ⟨h1,k,os,rfl⟩
 exact⟨h1,((Ext.refl w).drewN k).trans (I8 _ _)⟩
theorem pk(hF:Fits F w){x:Int}(h0:0<=x)(h1:x<=18446744073709551615):Qe Tryz.prog 311 [.int .u64 x] w F (.int .i64 (bw x.toNat)):=by
 refine .of (enters_of Tryz.func311 wc rfl) hF ((Tryz.bits_Len64 x w h0 h1).mono ?_)
 rintro e w' ⟨h1,rfl⟩
 exact⟨h1,Ext.refl _⟩
theorem MA[Dr](hF:Fits F w){x y:Int}:Qe Tryz.prog 317 [.int .i64 x,.int .i64 y] w F (.int .i64 (Lib.compareInt x y)):=by
 refine QS.same (enters_of Tryz.func317 wc rfl) hF (Tryz.cmp_Compare_int x y w)
end
section
variable[Dr][df:Df]
section
variable{P:Program}{Q:Exit->Act->World->Prop}{N:Nat}{m:Sl}{E E0:Env}{ops:Array Oper}{l:List Oper}{w0:World}{F0:Gs}{bs:List (Nat×Obj)}{G:Gs->Prop}
theorem St.perm(h:St ⟨w0,F0,bs,G⟩ w)(hp:bs.Perm bs'):St ⟨w0,F0,bs',G⟩ w:=by
 obtain⟨F,h⟩:=h
 exact⟨F,h.le,h.old,h.fits,h.ext,λk hk=>h.bx k (hp.mem_iff.2 hk),(hp.map _).nodup_iff.1 h.nd,h.g⟩
def XB(P:Program)(f:FuncId)(args:List Value)(E:Env){γ:Type}(val:γ->Value)(E':γ->Env):Prop :=
 Enters P f/\∀w,St E w->Calls P f args.toArray w λe w'=>∃c,e = .returned (val c)/\St (E' c) w'
def EPost{γ:Type}(val:γ->Value)(E':γ->Env)(e:Ending)(w':World):Prop:=∃c,e = .returned (val c)/\St (E' c) w'
section
variable{d:Nat}{ty:TypeId}{pos:String}{aft:Array Edge}{f:FuncId}{args:Array Operand}{tys:Array TypeId}{vs:List Value}{γ:Type}{val:γ->Value}{E':γ->Env}{bs1:List (Nat×Obj)}
theorem xa{c1 c2:List Value}(hx:ev m x=some (.func (.func f) c1.toArray c2.toArray))(hv:MP m args.toList=some vs)(hp:bs.Perm bs1)(hc:XB P f (c1++vs++c2) ⟨w0,F0,bs1,G⟩ val E')
  (k:∀c,JS P ops Q l N ((d,val c)::m) (E' c)) (hd:J5 N (some d)=true:=by rfl):JS P ops Q (⟨some d,.call ⟨.value x,args,tys⟩,ty,pos,aft,none⟩::l) N m ⟨w0,F0,bs,G⟩:=by
 intro a w ha hw
 refine wpList_plain rfl λK hK=>?_
 unfold Oper.wp
 rw[G4 hc.1 (ha.ev hx)]
 have e:c1.toArray++args.map a.eval++c2.toArray=(c1++vs++c2).toArray:=by
  have:=ha.MP hv
  have e2:args.map a.eval=vs.toArray:=by rw[<-this];apply bP ;simp
  rw[e2];apply bP;simp
 simp only[Oper.upon]
 rw[e]
 refine(hc.2 w (hw.perm hp)).mono ?_
 rintro e w' ⟨c,rfl,h⟩
 exact hK _ _ (k c _ w' (ha.put hd (val c)) h)
theorem XX(hv:MP m args.toList=some vs)(hp:bs.Perm bs1)(hc:XB P f vs ⟨w0,F0,bs1,G⟩ val E')
  (k:∀c,JS P ops Q l N ((d,val c)::m) (E' c)) (hd:J5 N (some d)=true:=by rfl):JS P ops Q (⟨some d,.call ⟨.value (.func f),args,tys⟩,ty,pos,aft,none⟩::l) N m ⟨w0,F0,bs,G⟩ :=
 xa (x:=.func f) (c1:=[]) (c2:=[]) I hv hp (by simpa using hc) k hd
theorem Ls{bs0:List (Nat×Obj)}(hv:MP m args.toList=some vs)(hp:bs.Perm bs1)(hc:XB P f vs ⟨w0,F0,bs1,G⟩ val E')(h0:∀c w,St (E' c) w->St ⟨w0,F0,bs0,G0⟩ w)
  (k:∀c,JD P ops Q ⟨w0,F0,bs0,G0⟩ l N ((d,val c)::m) (E' c)) (hd:J5 N (some d)=true:=by rfl):JD P ops Q ⟨w0,F0,bs0,G0⟩ (⟨some d,.call ⟨.value (.func f),args,tys⟩,ty,pos,aft,none⟩::l) N m ⟨w0,F0,bs,G⟩:=by
 intro hE a w ha hw
 refine .inr ⟨rfl,?_⟩
 rw[if_pos (by simp[fc])]
 unfold Oper.wp
 rw[G4 (c1:=#[]) (c2:=#[]) hc.1 (ha.ev (x:=.func f) rfl)]
 have e:#[]++args.map a.eval++#[]=vs.toArray:=by
  have:=ha.MP hv
  have e2:args.map a.eval=vs.toArray:=by rw[<-this];apply bP ;simp
  rw[e2];apply bP;simp
 simp only[Oper.upon]
 rw[e]
 refine(hc.2 w (hw.perm hp)).mono ?_
 rintro e w' ⟨c,rfl,h⟩
 exact⟨h0 c w' h,k c (h0 c) _ w' (ha.put hd (val c)) h⟩
theorem St.last(hF:Fits F0 w0)(h:St ⟨w0,F0,bs,G⟩ w)(hb:Below w0.heap.size w w')(hd:Dr.on->w.drawn<=w'.drawn):St ⟨w0,F0,[],λF=>Gs.le F0 F⟩ w':=by
 obtain⟨F,h⟩:=h
 have hx:Ext w0 w':=⟨hb.os.trans h.ext.os,hb.tape.trans h.ext.tape,hb.output.trans h.ext.output,ab h.ext.size hb.size,λk hk=>(hb.block k hk).trans (h.ext.block k hk)⟩
 have hle:Gs.le F0 (λb=>if b<w0.heap.size then F0 b else match w'.heap[b]? with | some (.cells c T _)=>if T=297 then some (c,297)else none | _=>none):=by
  intro b x hb
  show(if b<w0.heap.size then _ else _)=_
  rw[if_pos (hF.lt hb)];exact hb
 refine⟨_,hle,?_,⟨?_,?_⟩,⟨hx,λd=>ab (h.ext.dr d) (hd d)⟩,λ_ h=>(by cases h),List.nodup_nil,λF' h'=>Gs.le_trans hle h'⟩
 ·intro b hb
  show(if b<w0.heap.size then _ else _)=_
  rw[if_pos hb]
 ·intro b c T hb
  by_cases hlt:b<w0.heap.size
  ·rw[if_pos hlt]at hb
   obtain⟨fr,e⟩:=hF.row b c T hb
   exact⟨fr,by rw[hx.block b hlt];exact e⟩
  ·rw[if_neg hlt]at hb
   split at hb
   ·rename_i c' T' fr heq
    split at hb
    ·rename_i hT;cases hb;exact⟨fr,by rw[heq,hT]⟩
    ·cases hb
   ·cases hb
 ·intro b c fr hb
  show(if b<w0.heap.size then _ else _)=_
  by_cases hlt:b<w0.heap.size
  ·rw[if_pos hlt]
   rw[hx.block b hlt]at hb
   exact hF.all b c fr hb
  ·rw[if_neg hlt,hb];simp
theorem Nz{v:Value}(hF:Fits F0 w0)(hv:MP m args.toList=some vs)(he:Enters P f)(hc:∀w,St ⟨w0,F0,bs,G⟩ w->Calls P f vs.toArray w λe w'=>e = .returned v/\Below w0.heap.size w w')
  (k:JS P ops Q l N ((d,v)::m) ⟨w0,F0,[],λF=>Gs.le F0 F⟩) (hd:J5 N (some d)=true:=by rfl) (hn:¬Dr.on:=by exact id):JS P ops Q (⟨some d,.call ⟨.value (.func f),args,tys⟩,ty,pos,aft,none⟩::l) N m ⟨w0,F0,bs,G⟩ :=
 XX (γ:=Unit) (val:=λ_=>v) (E':=λ_=>⟨w0,F0,[],λF=>Gs.le F0 F⟩) hv (bH _) ⟨he,λw hw=>(hc w hw).mono λ_ _ ⟨h1,h2⟩=>⟨(),h1,hw.last hF h2 λd=>absurd d hn⟩⟩ (λ_=>k) hd
end
omit [Df] in
theorem XB.intro{f:FuncId}{c:Code}{val:γ->Value}{E':γ->Env}(hf:P.funcs[f]?=some fn)(hb:fn.body=some c)(hn:(fn.name == "runtime.NumGoroutine")=false)(hN:fn.ntmps=N)(hl:iO args.length N=true)
  (h:J (df:=VE) P c (bodyPost P fn (EPost val E')) N (Sm 0 args) E):XB P f args E val E':=by
 refine⟨enters_of hf hn (by rw[hb];rfl),λw hw=>calls_of_wp hf hb (h _ w ⟨?_,rfl,λt v ht=>?_⟩ hw)⟩
 ·have:=fH hl
  simp[hN];omega
 ·obtain⟨_,h2⟩:=HM args 0 t v ht
  have hlt:t<args.length:=by rcases aY t args.length with g | g;exact g;rw[iM,ey g]at h2;cases h2
  simp only[iM]at h2
  rw[fz,if_pos (by simpa using hlt)]
  simpa using h2
omit [Df] in
theorem KQ{val:γ->Value}{E':γ->Env}{rs:List ResultVar}{vs:List Value}(c:γ)(hrs:fn.results=rs.toArray)(h:MH P m bs rs vs)(hv:val c=(match vs with | [v]=>v | vs=>.tuple vs.toArray))(hg:∀w,St ⟨w0,F0,bs,G⟩ w->St (E' c) w):Fin (df:=VE) (bodyPost P fn (EPost val E')) .ret N m ⟨w0,F0,bs,G⟩:=λa w ha hw =>
 ⟨ha.df,val c,by rw[hv];exact BM hrs h ha hw,c,rfl,hg w hw⟩
omit [Df] in
theorem M9{val:γ->Value}{E':γ->Env}(h:Fin (df:=VE) (bodyPost P fn (EPost val E')) .ret N m E):Fin (df:=VE) (bodyPost P fn (EPost val E')) .normal N m E:=h
theorem ZP(hp:bs.Perm bs')(k:JS P ops Q l N m ⟨w0,F0,bs',G⟩):JS P ops Q l N m ⟨w0,F0,bs,G⟩:=λa w ha hw=>k a w ha (hw.perm hp)
theorem gh{c:Code}(hp:bs.Perm bs')(k:J P c Q N m ⟨w0,F0,bs',G⟩):J P c Q N m ⟨w0,F0,bs,G⟩:=λa w ha hw=>k a w ha (hw.perm hp)
theorem CW{e:Exit}(hp:bs.Perm bs')(k:Fin Q e N m ⟨w0,F0,bs',G⟩):Fin Q e N m ⟨w0,F0,bs,G⟩:=λa w ha hw=>k a w ha (hw.perm hp)
theorem Src.yU{sz c:Nat}{news:List Value}(hm:(b,eH news.toArray T fr)∈bs)(hl:news.length=k*sz):Src ⟨w0,F0,bs,G⟩ sz (.slice (.some ⟨b,0,none⟩) k c) k news :=
 ⟨hl,.inr ⟨_,_,rfl,λw hw j v hv=>by
  obtain⟨F,hw⟩:=hw
  rw[H2,X4 (hw.bx _ hm).1,aX];exact hv⟩⟩
theorem QCT{d:Nat}{o:Op}{ty:TypeId}{pos:String}{v:Value}{E':Env}(h:∀a w,JP N m a->St E w->∃w',(execOp a.eval ⟨some d,o,ty,pos,aft,none⟩).run P w = .ok (.value v) w'/\St E' w')(k:JS P ops Q l N ((d,v)::m) E')(hd:J5 N (some d)=true:=by rfl):
  JS P ops Q (⟨some d,o,ty,pos,aft,none⟩::l) N m E:=λa w ha hw=>wpList_plain rfl λK hK=>by
 obtain⟨w',h1,h2⟩:=h a w ha hw
 exact upon_value h1 (hK _ _ (k _ w' (ha.put hd v) h2))
theorem yb{ty:TypeId}{p:Option Addr}{Y:World->Prop}(hx:ev m x=some (.pointer p))(hy:ev m y=some (.pointer none))(hT:P.underlying T=some (.pointer (P.pointee T))):Qt P N m Y (.binOp .eql T x y yT) ty (.bool p.isNone):=λa w _ _ _ _ ha _=>by
 have:=run_eql_pointer_nil (P:=P) (w:=w) T p hT
 simp[execOp,ha.ev hx,ha.ev hy,eqGuard,this]
theorem TK{u e ty:TypeId}{i:TypeInfo}{x:Value}(ht:Hr P t=some e)(hu:P.underlying u=some .string)(hi:P.info? e=some i)(hz:i.zero=some (.int .u8 0))(hsz:i.size=1)(hby:i.bytes=1)
  (hr:Qx e 1 x n olds ob) (hw:St ⟨w0,F0,ob++bs,G⟩ w) (h47:n+s.length<=140737488355328) (hU:Gg e=true) :
  ∃v' ob' w',(fX #[t,u] ty #[x,tx s]).run P w = .ok v' w'/\Qx e 1 v' (n+s.length) (olds++ay s) ob'/\St ⟨w0,F0,ob'++bs,G⟩ w':=by
 have hu':∀c fr c' fr',eH c e fr≠.cells c' 297 fr':=λc fr=>ZB hU
 have hsl:(⟨s.toArray⟩:ByteArray).size=s.length:=KR s
 have hbl:(ay s).length=s.length:=fS s
 have hzc:∀q,(aJ (ak .u8 0).cells q).toList.length=q:=λq=>by simp[aJ,Value.cells]
 have new:∀ {w':World} (l rest:List Value) (cap:Nat) (bs':List (Nat×Obj)),St ⟨w0,F0,bs',G⟩ w'->bs.Sublist bs'->l.length=n+s.length->l.length+rest.length=cap->n+s.length<=cap->cap<=maxLen ->
   ∃ob',Qx e 1 (.slice (some ⟨w'.heap.size,0,none⟩) (n+s.length) cap) (n+s.length) l ob'/\St ⟨w0,F0,ob'++bs,G⟩ (w'.alloc (.cells (l++rest).toArray e)):=by
  intro w' l rest cap bs' hw' hsub h2 h3 h4 h5
  exact⟨_,.some O O h4 h5,(hw'.imp hsub λ_ h=>h).alloc _ (hu' _ _)⟩
 cases hr with
 |nil =>
  simp only[aX,bZ]at *
  by_cases hm:s.length=0
  ·have hs0:s=[]:=aI hm
   subst hs0
   refine⟨.slice none 0 0,[],w,?_,.nil,hw⟩
   have hf:=Lib.run_firstCells_string (P:=P) w 1 ⟨#[]⟩
   have hf':(Builtin.firstCells 1 0 (tx [])).run P w = .ok #[] w:=by simpa[eR,fG]using hf
   simp[fX,run_underlying (Qw ht),run_underlying hu,sizeOf,typeInfo,hi,hsz,Builtin.lenOf,eR,hf']
  ·have hrun:=run_append_nil_string (P:=P) (w:=w) t u ty e i (.int .u8 0) (Qw ht) hu hi hz ⟨s.toArray⟩ O O (by rw[hby];omega)
   rw[hsl]at hrun
   have hge:=grownCap_ge w s.length 0 e
   obtain⟨ob',h2,h3⟩:=new (ay s) (aJ (ak .u8 0).cells (grownCap w s.length 0 e - s.length)).toList (grownCap w s.length 0 e) bs hw.drew wK hbl (by rw[hzc,hbl];omega) hge (grownCap_le_maxLen w s.length 0 e (by simp only[maxLen];omega))
   refine⟨_,ob',_,hrun,h2,?_⟩
   have e1:(ay s++(aJ (ak .u8 0).cells (grownCap w s.length 0 e - s.length)).toList).toArray=((⟨s.toArray⟩:ByteArray).data.map λb=>ak .u8 b.toNat)++aJ (ak .u8 0).cells (grownCap w s.length 0 e - s.length):=by apply bP;simp[ay]
   rw[e1]at h3;exact h3
 |some g1 g2 g3 g4 =>
  rename_i b cap rest
  have hbw:w.heap[b]?=some (.cells (olds++rest).toArray e (0,0)):=hw.own (f:=λo'=>(b,o')::bs) .here
  have hol:olds.length=n:=O
  by_cases hroom:n+s.length<=cap
  ·have hrun:=Lib.run_append_room_string (P:=P) w t u ty e i (Qw ht) hu hi hsz b n cap _ hbw ⟨s.toArray⟩ O wg
   rw[hsl]at hrun
   have e1:((olds++rest).toArray.toList.take n++fG ⟨s.toArray⟩++(olds++rest).toArray.toList.drop (n+s.length))=olds++ay s++rest.drop s.length:=by
    rw[iD]
    simp only[aT]
    rw[<-hol]
    simp[List.drop_append]
   rw[e1]at hrun
   refine⟨_,[(b,.cells (olds++ay s++rest.drop s.length).toArray e (0,0))],_,hrun,.some ?_ ?_ hroom g4,?_⟩
   ·rw[au,hbl];omega
   ·rw[au,aW,hbl];omega
   ·have hlt:b<w.heap.size:=(Array.getElem?_eq_some_iff.1 hbw).1
    refine St.write (o:=.cells (olds++rest).toArray e (0,0)) [] hw ⟨?_,rfl,rfl,rfl,rfl⟩ (hu' _ _)
    apply Array.ext_getElem?
    intro j
    rw[Array.getElem?_setIfInBounds]
    by_cases hj:b=j
    ·subst hj
     rw[if_pos rfl,if_pos hlt,setRow_heap w b _ _ e _ hbw]
    ·rw[if_neg hj,setRow_other w b j _ (λe=>hj e.symm)]
  ·have hold:∀j v,olds[j]?=some v->w.cell? ((⟨b,0,none⟩:Addr).add j)=some v:=λj v hv=>by
    rw[H2,aX,X4 hbw,bB]
    have:j<olds.length:=by rcases aY j olds.length with q | q;exact q;rw[ey q]at hv;cases hv
    rw[if_pos this];exact hv
   have hrun:=Lib.run_append_grow_string (P:=P) w t u ty e i (.int .u8 0) (Qw ht) hu hi hz ⟨b,0,none⟩ n cap olds (by rw[hsz];omega) hold ⟨s.toArray⟩ O O (by rw[hby];exact growslice_fits O O)
   rw[hsl]at hrun
   have hge:=grownCap_ge w (n+s.length) cap e
   obtain⟨ob',h2,h3⟩:=new (olds++ay s) (aJ (ak .u8 0).cells (grownCap w (n+s.length) cap e - (n+s.length))).toList (grownCap w (n+s.length) cap e) _ hw.drew (List.sublist_cons_self _ _) (by rw[au,hbl];omega) (by rw[hzc,au,hbl];omega) hge (grownCap_le_maxLen w (n+s.length) cap e (by simp only[maxLen];omega))
   refine⟨_,ob',_,hrun,h2,?_⟩
   have e1:(olds++ay s++(aJ (ak .u8 0).cells (grownCap w (n+s.length) cap e - (n+s.length))).toList).toArray=olds.toArray++(fG ⟨s.toArray⟩).toArray++aJ (ak .u8 0).cells (grownCap w (n+s.length) cap e - (n+s.length)):=by
    rw[iD]
    apply bP;simp
   rw[e1]at h3;exact h3
theorem FG{d:Nat}{ty:TypeId}{pos:String}{u e:TypeId}{i:TypeInfo}{X Y:Operand}{x:Value}{bs1:List (Nat×Obj)}(hx:ev m X=some x)(hy:ev m Y=some (tx s))(ht:Hr P t=some e)(hu:P.underlying u=some .string)(hi:P.info? e=some i)(hz:i.zero=some (.int .u8 0))(hsz:i.size=1)(hby:i.bytes=1)
  (hr:Qx e 1 x n olds ob) (hp:bs.Perm (ob++bs1)) (h47:n+s.length<=140737488355328)
  (kk:∀v' ob',Qx e 1 v' (n+s.length) (olds++ay s) ob'->JS P ops Q l N ((d,v')::m) ⟨w0,F0,ob'++bs1,G⟩) (hU:Gg e=true:=by rfl) (hd:J5 N (some d)=true:=by rfl) :
  JS P ops Q (⟨some d,.call ⟨.builtin .append,#[X,Y],#[t,u]⟩,ty,pos,aft,none⟩::l) N m ⟨w0,F0,bs,G⟩:=λa w ha hw =>
 wpList_plain rfl λK hK=>by
  obtain⟨v',ob',w',h2,h3,h4⟩:=TK (ty:=ty) ht hu hi hz hsz hby hr (hw.perm hp) h47 hU
  refine upon_value (w':=w') (v:=v') ?_ (hK _ _ (kk v' ob' h3 _ w' (ha.put hd v') h4))
  simp only[execOp,resolve,invoke,builtin,ee,eb,bj,List.map_toArray,iH,List.map_nil,ha.ev hx,ha.ev hy,h2]
end
end
section
variable[Dr][df:Df]{P:Program}{Q:Exit->Act->World->Prop}{N:Nat}{m:Sl}{E E0:Env}{ops:Array Oper}{l:List Oper}{w0:World}{F0:Gs}{bs:List (Nat×Obj)}{G:Gs->Prop}
theorem Ea{c:List Value}(h:w.heap[b]?=some (.cells c.toArray T fr)):w.shape? b=some (T,c.length):=by
 simp[World.shape?,h]
theorem OZ{src dst T' ty:TypeId}{c:List Value}(hx:ev m x=some (.pointer (some ⟨b,off,none⟩)))(hs:P.underlying src=some (.pointer t))(hd:P.underlying dst=some .unsafePointer)(ht:(P.info? t).any (λj=>j.size != 0)=true)
  (ho:Own bs b (.cells c.toArray T' fr) f) (hoff:off<c.length):Qt P N m (St ⟨w0,F0,bs,G⟩) (.convert src dst x) ty (.pointer (some ⟨b,off,none⟩)):=λa w _ _ _ _ ha hw=>by
 obtain⟨j,hj,hjs⟩:=Option.any_eq_true .. |>.1 ht
 have:=Lib.run_to_unsafe (P:=P) w ⟨b,off,none⟩ hs hd hj (by simpa using hjs) (Ea (hw.own ho)) hoff
 simp[execOp,ha.ev hx,this]
theorem U8{src dst T' ty:TypeId}{c:List Value}(hx:ev m x=some (.pointer (some ⟨b,off,none⟩)))(hs:P.underlying src=some .unsafePointer)(hd:P.underlying dst=some (.pointer t))(ht:(P.info? t).isSome=true)
  (ho:Own bs b (.cells c.toArray T' fr) f) (hl:liesAt P P.depth T' (c.length / P.cellsOf T') off t 1=true):Qt P N m (St ⟨w0,F0,bs,G⟩) (.convert src dst x) ty (.pointer (some ⟨b,off,none⟩)):=λa w _ _ _ _ ha hw=>by
 obtain⟨j,hj⟩:=Option.isSome_iff_exists.1 ht
 have:=Lib.run_from_unsafe (P:=P) w ⟨b,off,none⟩ hs hd hj (Ea (hw.own ho)) hl
 simp[execOp,ha.ev hx,this]
theorem jR{ty:TypeId}{p:Addr}{Y:World->Prop}(hx:ev m x=some (.pointer (some p)))(hy:ev m y=some (.pointer (some p)))(hT:P.underlying T=some (.pointer t))(ht:(P.info? t).isSome=true):Qt P N m Y (.binOp .neq T x y yT) ty (.bool false):=λa w _ _ _ _ ha _=>by
 obtain⟨j,hj⟩:=Option.isSome_iff_exists.1 ht
 have:=Lib.run_neq_ptr_same (P:=P) w p hT hj
 simp[execOp,ha.ev hx,ha.ev hy,eqGuard,this]
theorem xZ{d:Nat}{ty:TypeId}{pos:String}{f:FuncId}{e:Array Value->Sem Value}{args:Array Operand}{tys:Array TypeId}{vs:List Value}{v:Value}(hf:P.funcs[f]?=some fn)(hname:(fn.name == "runtime.NumGoroutine")=false)
  (hb:fn.body.isNone=true) (hn:Extern.findNext fn=none) (he:Extern.find fn=some e) (hv:MP m args.toList=some vs) (hr:∀w,(e vs.toArray).run P w = .ok v w) (k:JS P ops Q l N ((d,v)::m) E) (hd:J5 N (some d)=true:=by rfl) :
  JS P ops Q (⟨some d,.call ⟨.value (.func f),args,tys⟩,ty,pos,aft,none⟩::l) N m E :=
 QCT (λa w ha hw=>⟨w,by
  have h1:a.eval (.func f) = .func (.func f) #[] #[]:=ha.ev (x:=.func f) rfl
  have e2:args.map a.eval=vs.toArray:=by rw[<-ha.MP hv];apply bP;simp
  simp only[execOp,resolve,h1,Deferred.ofValue,ee,eb,bj,invoke,e2]
  simp[run_callFunc_extern hf hname hb hn he,hr],hw⟩) k hd
end
inductive L2(b:Nat):List UInt8->List (Nat×Obj)->Prop
 |fresh:L2 b [] [(b,.cells [ax none,.slice none 0 0].toArray 326 (0,0))]
 |used {l:List UInt8} {v:Value} {ob:List (Nat×Obj)} (hr:Qx 5 1 v l.length (ay l) ob):L2 b l ((b,.cells [ax (some ⟨b,0,none⟩),v].toArray 326 (0,0))::ob)
section
variable{w0:World}{F0:Gs}{bs:List (Nat×Obj)}{G:Gs->Prop}
theorem Nl{p:Option Addr}{v:Value}(hp:p=none\/p=some ⟨b,0,none⟩):XB Tryz.prog 329 [.pointer (some ⟨b,0,none⟩)] ⟨w0,F0,(b,.cells [ax p,v].toArray 326 (0,0))::bs,G⟩ (λ(_:Unit)=>.tuple #[]) (λ_=>⟨w0,F0,(b,.cells [ax (some ⟨b,0,none⟩),v].toArray 326 (0,0))::bs,G⟩):=by
 refine XB.intro Tryz.func329 rfl wc rfl rfl<|wJ rfl<|QA (Zj rfl)<|QA (QH rfl Af MR)<|QA (Qg rfl MR .here .h1)<|QA (yb rfl rfl y0)<|QE<|QC ?_
 refine QR I (λhc=>?_) (λhc=>?_)
 ·have hp':p=none:=by rcases hp with rfl | rfl;rfl;cases hc
  subst hp'
  refine QB<|wE I<|wE I<|QA (OZ I Tryz.underlying323 Tryz.underlying374 y0 .here (Nat.zero_lt_succ _))<|xZ Tryz.func357 y0 y0 y0 (e:=iu) y0 rfl (λw=>Lib.run_noEscape w _)<|QA (U8 I Tryz.underlying374 Tryz.underlying323 y0 .here y0)<|QA (Zj I)<|QA (QH I Af MR)<|QO (vs:=[_]) I I I MR I .here .h1 wO<|QE<|M9 ?_
  exact KQ () I .nil rfl wi
 ·have hp':p=some ⟨b,0,none⟩:=by rcases hp with rfl | rfl;cases hc;rfl
  subst hp'
  refine wJ I<|QA (Zj I)<|QA (QH I Af MR)<|QA (Qg I MR .here .h1)<|wE I<|QA (jR I I Tryz.underlying323 y0)<|wG<|Ko I<|QQ<|M9 ?_
  exact KQ () I .nil rfl wi
theorem QB3:∃i,Tryz.prog.info? 5=some i/\i.zero=some (.int .u8 0)/\i.size=1/\i.bytes=1:=by
 have h:((Tryz.prog.info? 5).map λi=>(i.zero,i.size,i.bytes))=some (some (.int .u8 0),1,1):=y0
 obtain⟨i,h1,h2⟩:=Option.map_eq_some_iff.1 h
 simp only[Prod.mk.injEq]at h2
 exact⟨i,h1,h2⟩
theorem Ho{p:Option Addr}{v:Value}(hp:p=none\/p=some ⟨b,0,none⟩)(hr:Qx 5 1 v l.length (ay l) ob)(hn:l.length+s.length<=140737488355328):
  XB Tryz.prog 289 [.pointer (some ⟨b,0,none⟩),tx s] ⟨w0,F0,(b,.cells [ax p,v].toArray 326 (0,0))::(ob++bs),G⟩ (λ(_:List (Nat×Obj))=>.tuple #[.int .i64 s.length,.nilIface])
   (λob'=>⟨w0,F0,ob'++bs,λF=>G F/\L2 b (l++s) ob'⟩):=by
 obtain⟨i8,hi1,hi2,hi3,hi4⟩:=QB3
 refine XB.intro Tryz.func289 rfl wc rfl rfl<|wI<|wF rfl<|wH rfl<|wJ rfl<|XX rfl (bH _) (Nl hp) (λ_=>wG<|wJ rfl<|wE rfl<|QA (Zj rfl)<|QA (QH rfl Pg BC)<|QA (Qg rfl BC .here (.skip .h1))<|wE rfl<|FG (bs1:=(b,.cells [ax (some ⟨b,0,none⟩),v].toArray 326 (0,0))::bs) rfl rfl OQ Tryz.underlying9 hi1 hi2 hi3 hi4 hr (by rw[<-er];exact(aS _ _ _)) hn (λv' ob' hr'=>QA (Zj I)<|QA (QH I Pg BC)<|ZP (bs':=(b,.cells [ax (some ⟨b,0,none⟩),v].toArray 326 (0,0))::(ob'++bs)) (by rw[<-er (l:=bs),<-er];exact(aS _ _ _)) ?_))
 obtain⟨h1,h2⟩:=hr'.one
 refine QO (vs:=[v']) I I h2 BC I .here (.skip .h1) ⟨h1,trivial⟩<|wG<|wJ I<|QA (X7 I ZQ)<|wF I<|wH I<|QY ?_
 have hb:L2 b (l++s) ((b,.cells [ax (some ⟨b,0,none⟩),v'].toArray 326 (0,0))::ob'):=.used (by rw[au,fT];exact hr')
 exact KQ _ I (wC I I) rfl (λw h=>St.BY (bs:=(_::ob')++bs) h λF hG=>⟨hG,hb⟩)
theorem GL(h:L2 b l ob)(hn:l.length+s.length<=140737488355328):
  XB Tryz.prog 289 [.pointer (some ⟨b,0,none⟩),tx s] ⟨w0,F0,ob++bs,G⟩ (λ(_:List (Nat×Obj))=>.tuple #[.int .i64 s.length,.nilIface])
   (λob'=>⟨w0,F0,ob'++bs,λF=>G F/\L2 b (l++s) ob'⟩):=by
 cases h with
 |fresh=>exact Ho (l:=[]) (ob:=[]) (.inl rfl) .nil hn
 |used hr=>exact Ho (.inr rfl) hr hn
theorem DR{p:Option Addr}{v:Value}(hp:p=none\/p=some ⟨b,0,none⟩)(hr:Qx 5 1 v l.length (ay l) ob)(hn:l.length+1<=140737488355328):
  XB Tryz.prog 313 [.pointer (some ⟨b,0,none⟩),.int .u8 c.toNat] ⟨w0,F0,(b,.cells [ax p,v].toArray 326 (0,0))::(ob++bs),G⟩ (λ(_:List (Nat×Obj))=>.nilIface)
   (λob'=>⟨w0,F0,ob'++bs,λF=>G F/\L2 b (l++[c]) ob'⟩):=by
 refine XB.intro Tryz.func313 rfl wc rfl rfl<|wI<|wH rfl<|wJ rfl<|XX rfl (bH _) (Nl hp) (λ_=>wG<|wJ rfl<|wE rfl<|QA (Zj rfl)<|QA (QH rfl Pg BC)<|QA (Qg rfl BC .here (.skip .h1))<|wE rfl<|VW rfl (Qw OQ) QDh z_5 rfl rfl (λbx=>?_))
 refine ZP (bs':=ob++((bx,.cells [ak .u8 c.toNat].toArray 5 (0,0))::(b,.cells [ax (some ⟨b,0,none⟩),v].toArray 326 (0,0))::bs)) (by
  have:=aS [(bx,eH [ak .u8 c.toNat].toArray 5 (0,0)),(b,eH [ax (some ⟨b,0,none⟩),v].toArray 326 (0,0))] ob bs
  exact this) ?_
 refine M7 (news:=[ak .u8 c.toNat]) (k:=1) (sz:=1) rfl rfl OQ QDh z_5 I QGf hr (Src.yU (b:=bx) (T:=5) (fr:=(0,0)) (c:=1) we rfl) O O (λu hu=>by rw[List.mem_singleton.1 hu];rfl) (λv' ob' hr'=>QA (Zj I)<|QA (QH I Pg BC) ?_)
 refine ZP (bs':=(b,.cells [ax (some ⟨b,0,none⟩),v].toArray 326 (0,0))::((bx,.cells [ak .u8 c.toNat].toArray 5 (0,0))::(ob'++bs))) (by
  have:=aS ob' [(b,eH [ax (some ⟨b,0,none⟩),v].toArray 326 (0,0)),(bx,eH [ak .u8 c.toNat].toArray 5 (0,0))] bs
  exact((List.Perm.append_left ob' (List.Perm.swap _ _ _))).trans this) ?_
 obtain⟨h1,h2⟩:=hr'.one
 refine QO (vs:=[v']) I I h2 BC I .here (.skip .h1) ⟨h1,trivial⟩<|wG<|wI<|wH I<|QY ?_
 have hb:L2 b (l++[c]) ((b,.cells [ax (some ⟨b,0,none⟩),v'].toArray 326 (0,0))::ob'):=.used (by rw[au,fT];exact hr')
 exact KQ _ I (wB I) rfl (λw h=>St.imp (bs':=(_::ob')++bs) h (lA _ (lB _ wK)) λF hG=>⟨hG,hb⟩)
theorem FN(h:L2 b l ob)(hn:l.length+1<=140737488355328):
  XB Tryz.prog 313 [.pointer (some ⟨b,0,none⟩),.int .u8 c.toNat] ⟨w0,F0,ob++bs,G⟩ (λ(_:List (Nat×Obj))=>.nilIface)
   (λob'=>⟨w0,F0,ob'++bs,λF=>G F/\L2 b (l++[c]) ob'⟩):=by
 cases h with
 |fresh=>exact DR (l:=[]) (ob:=[]) (.inl rfl) .nil hn
 |used hr=>exact DR (.inr rfl) hr hn
theorem L2.is(h:L2 b l ob){w:World}(hw:St ⟨w0,F0,ob++bs,G⟩ w):Lib.IsBuilder 326 5 w0.heap.size b (ay l) w:=by
 obtain⟨F,hw⟩:=hw
 cases h with
 |fresh =>
  have:=hw.bx (b,.cells [ax none,.slice none 0 0].toArray 326 (0,0)) we
  exact .inl ⟨this.2.1,_,this.1,fW w _ _ 1,by simp[fa]⟩
 |used hr =>
  rename_i v ob
  have h1:=hw.bx (b,.cells [ax (some ⟨b,0,none⟩),v].toArray 326 (0,0)) we
  refine .inr ⟨h1.2.1,v,h1.1,?_,?_⟩
  ·rw[fS]
   generalize hq:ay l=q at hr
   generalize hn:l.length=n at hr
   cases hr with
   |nil=>exact fW w _ _ 1
   |some g1 g2 g3 g4 =>
    rename_i r cap rest
    have h2:=hw.bx (r,.cells (q++rest).toArray 5 (0,0)) we
    refine⟨O,.inr ⟨r,cap,_,rfl,h2.2.1,h2.1,g3,g4,?_,?_⟩⟩
    ·show(q++rest).toArray.size=_
     simp;omega
    ·show(q++rest).take (n*1)=q
     rw[<-g1];exact List.take_left
  ·generalize hq:ay l=q at hr
   generalize hn:l.length=n at hr
   cases hr with
   |nil=>simp[fa]
   |some g1 g2 g3 g4 =>
    have hnd:=hw.nd
    simp only[eU,iH,List.nodup_cons]at hnd
    intro e
    simp only[fa,bJ]at e
    exact hnd.1 (by simp[e])
end
section
open Go.RowKit Go.Sort Go.Lib
theorem Od(w:World)(o:Obj)(dk:Array UInt8)(k off:Nat):∃os,(putRow (λ(b:UInt8)=>ak .u8 (b.toNat:Int)) (w.alloc o) w.heap.size off dk).drewN k=fl (w.drewN k) os:=by
 rw[alloc_eq_grow]
 obtain⟨os',_,e⟩:=putRow_grow_new (λ(b:UInt8)=>ak .u8 (b.toNat:Int)) w #[o] w.heap.size off dk (aF _)
 exact⟨os',by rw[e];rfl⟩
theorem I5(w:World)(T:TypeId)(nd:Nat)(hs:nd<=24):Holds (λ(b:UInt8)=>ak .u8 (b.toNat:Int)) (w.alloc (.cells zeros24 T)) w.heap.size 0 (iv nd (0:UInt8)):=λj hj=>by
 have hj':j<nd:=by simpa using hj
 refine⟨?_,World.frozen?_alloc_new _ _ _ _⟩
 rw[World.cell?_alloc_new,zeros24_at _ O,getElem!_pos _ j hj]
 simp
set_option maxRecDepth 100000 in
theorem TN(u:Nat)(hu64:u<18446744073709551616)(w:World)(htab:iA Tryz.prog w "internal/strconv.uint64pow10" .u64 iT):
  Calls Tryz.prog 325 #[.int .u64 u,.int .i64 10] w λe w'=>e = .returned (tx (ae u))/\∃k os,w'=fl (w.drewN k) os:=by
 have e283:∀args w,(callFunc 351 args).run Tryz.prog w = .ok (.enter 351 args) w:=ef Tryz.func351 y0 rfl
 have e284:∀args w,(callFunc 352 args).run Tryz.prog w = .ok (.enter 352 args) w:=ef Tryz.func352 y0 rfl
 have e285:∀args w,(callFunc 353 args).run Tryz.prog w = .ok (.enter 353 args) w:=ef Tryz.func353 y0 rfl
 by_cases hs:u<100
 ·go_enter Tryz.func325,Tryz.ntmps325
  go_wp2_with (go_at_fn 351;refine(Tryz.internal_strconv_small u hs _).mono ?_;rintro e w' ⟨rfl,rfl⟩)
  go_ret
  exact⟨rfl,0,#[],by simp[World.drewN_zero]⟩
 ·have hu1:1<=u:=O
  have hnd20:aG u<=20:=by have:=Lib.numDigits_eq u hu1 hu64;split at this<;>omega
  have hb3:aG u<=24:=O
  have hal:Tryz.prog.arrayLen 368=24:=by simp[fP,Tryz.underlying368]
  have hsl1:∀W,(Instr.sliceAt 368 (.pointer (some ⟨w.heap.size,0,none⟩)) none (some (.int .i64 (aG u:Int))) none).run Tryz.prog W = .ok (.slice (some ⟨w.heap.size,0,none⟩) (aG u) 24) W:=λW=>by
   rw[run_sliceAt_array_h W 368 ⟨w.heap.size,0,none⟩ (by simp[fP,Program.elem,Tryz.underlying368]) .i64 (aG u:Int) O (by rw[hal];omega)]
   go_simp
  have hH0:=I5 w 368 (aG u) O
  have hfmt:=Tryz.internal_strconv_formatBase10 w.heap.size 0 24 u (iv (aG u) 0) (w.alloc (.cells eG 368)) hH0 (by rw[bz];exact ie u) hu64 (by rw[bz];omega)
  rw[bz]at hfmt
  have HH0:=aa hH0
  clear hH0 hal
  go_enter Tryz.func325,Tryz.ntmps325
  go_wp2_with (first
   |(go_at_fn 352;refine(Tryz.internal_strconv_numDigits u hu1 hu64 _ (Lib.tabIs_alloc htab _)).mono ?_;rintro e w' ⟨rfl,rfl⟩))
  go_at_fn 353
  refine hfmt.mono ?_
  rintro e w' ⟨rfl,k,v',dk,rfl,hF⟩
  have hcv:(convert 324 9 (.slice (some ⟨w.heap.size,0,none⟩) (aG u) 24)).run Tryz.prog ((putRow (λ(b:UInt8)=>ak .u8 (b.toNat:Int)) (w.alloc (.cells eG 368)) w.heap.size 0 dk).drewN k) = .ok (.string ⟨(ae u).toArray⟩) ((putRow (λ(b:UInt8)=>ak .u8 (b.toNat:Int)) (w.alloc (.cells eG 368)) w.heap.size 0 dk).drewN k):=by
   have h:=run_convert_bytes_back (P:=Tryz.prog) ((putRow (λ(b:UInt8)=>ak .u8 (b.toNat:Int)) (w.alloc (.cells eG 368)) w.heap.size 0 dk).drewN k) 324 9 5 ⟨w.heap.size,0,none⟩ 24 (ae u) Tryz.underlying324 Tryz.underlying5 Tryz.underlying9 (λj hj=>by
    rw[Lib.row_is_numeral hF j hj,Lib.add_plain,World.cell?_drewN]
    exact cell?_putRow (λ(b:UInt8)=>ak .u8 (b.toNat:Int)) _ w.heap.size 0 _ dk HH0.out (by rw[hF.size,bz]) j (by rw[hF.size];rw[aP]at hj;exact hj))
   rw[aP]at h
   exact h
  go_wp2
  go_ret
  obtain⟨os,eo⟩:=Od w (.cells eG 368) dk k 0
  exact⟨rfl,k,os,eo⟩
theorem Ac(hF:Fits F w)(hG:JC F){u:Nat}(hu:u<18446744073709551616):Qe Tryz.prog 287 [.int .u64 u,.int .i64 10] w F (tx (ae u)):=by
 refine QS.intro (G:=λF=>JC F) Tryz.func287 rfl wc rfl rfl hF (λF' hF'=>hG.le hF')<|wI<|wH rfl<|wJ rfl<|wE rfl ?_
 refine QI I (λw F hF hG=>Qe.of (v:=tx (ae u)) (enters_of Tryz.func325 wc rfl) hF ((TN u hu w (hG.jF hF)).mono (by
  rintro e w' ⟨h1,k,os,rfl⟩
  exact⟨h1,((Ext.refl w).drewN k).trans (I8 _ _)⟩))) (λc=>?_)
 refine wH I<|QY ?_
 exact QV () I (wB I) rfl wh
end
open Go
def L1(c:UInt8):Bool:=decide (48<=c.toNat)&&decide (c.toNat<=57)
def X6(l:List UInt8):Bool:=l.all L1
theorem Kn:L1 c=true↔48<=c.toNat/\c.toNat<=57:=by simp[L1]
def JJ(l:List UInt8):Nat:=l.foldl (λa c=>a*10+(c.toNat - 48)) 0
theorem QEn(l:List UInt8):∀a:Nat,l.foldl (λa c=>a*10+(c.toNat - 48)) a=a*10^l.length+JJ l:=by
 induction l with
 |nil=>intro a;simp[JJ]
 |cons c l ih =>
  intro a
  simp only[List.foldl_cons,aD,JJ]
  rw[ih,ih (0*10+_)]
  rw[fA,aX,bG,bp,fj,fB 10,eJ]
theorem Y0(a b:List UInt8):JJ (a++b)=JJ a*10^b.length+JJ b:=by
 unfold JJ;rw[List.foldl_append,QEn];rfl
theorem jP:JJ []=0:=rfl
theorem WW(c:UInt8):JJ [c]=c.toNat - 48:=by simp[JJ]
theorem Rl(c:UInt8)(l:List UInt8):JJ (c::l)=(c.toNat - 48)*10^l.length+JJ l:=by
 rw[<-WW,<-Y0];rfl
theorem Vh(a b:List UInt8):X6 (a++b)=(X6 a&&X6 b):=by simp[X6]
theorem DF(c:UInt8)(l:List UInt8):X6 (c::l)=(L1 c&&X6 l):=by simp[X6]
theorem DE(h:X6 l=true)(n:Nat):X6 (l.take n)=true:=by
 rw[<-aO n l,Vh,aw]at h;exact h.1
theorem M0(h:X6 l=true)(n:Nat):X6 (l.drop n)=true:=by
 rw[<-aO n l,Vh,aw]at h;exact h.2
theorem Gb(h:X6 l=true):JJ l<10^l.length:=by
 induction l with
 |nil=>simp[JJ]
 |cons c l ih =>
  rw[DF,aw]at h
  have:=ih h.2
  have hc:=Kn.1 h.1
  rw[Rl,aD,bp]
  have:(c.toNat - 48)*10^l.length<=9*10^l.length:=fJ _ O
  omega
theorem Km{d:Nat}(h:d<10):(eS (48+d)).toNat=48+d:=by
 rw[UInt8.toNat_ofNat'];omega
theorem Jv(n:Nat):X6 (ae n)=true:=by
 induction n using ep with
 |_ n ih =>
  rw[ae]
  split
  ·rename_i h;simp[X6,L1,Km h];omega
  ·rw[Vh,ih (n / 10) O]
   have:n%10<10:=O
   simp[X6,L1,Km this];omega
theorem Zh(n:Nat):JJ (ae n)=n:=by
 induction n using ep with
 |_ n ih =>
  rw[ae]
  split
  ·rename_i h;rw[WW,Km h];omega
  ·rw[Y0,ih (n / 10) O,WW,Km O]
   simp;omega
theorem WB(n:Nat):ae n≠[]:=by
 rw[ae];split<;>simp
theorem Yr:ae 0=[48]:=by rw[ae];rfl
theorem vi(h:0<n):∃c l,ae n=c::l/\c≠48:=by
 induction n using ep with
 |_ n ih =>
  rw[ae]
  split
  ·rename_i h10
   refine⟨_,[],rfl,λe=>?_⟩
   have:=Km h10
   rw[e]at this;simp at this;omega
  ·obtain⟨c,l,e,hc⟩:=ih (n / 10) O O
   exact⟨c,l++[eS (48+n%10)],by rw[e];rfl,hc⟩
def Xx(l:List UInt8):Bool:=X6 l&&!l.isEmpty&&(l==[48]||!(l.head?==some 48))
theorem Wo{d:Nat}(hn:0<n)(hd:d<10):ae (n*10+d)=ae n++[eS (48+d)]:=by
 rw[ae,dif_neg O]
 congr 2
 ·congr 1;omega
 ·congr 2;omega
theorem LP(h:L1 c=true):eS (48+(c.toNat - 48))=c:=by
 have:=Kn.1 h
 apply bT
 rw[Km O];omega
theorem E8:∀ {l:List UInt8},X6 l=true->l≠[]->l.head?≠some 48->ae (JJ l)=l/\0<JJ l:=by
 intro l
 induction hn:l.length generalizing l with
 |zero=>intro _ h _;exact absurd (aI hn) h
 |succ n ih =>
  intro ha hne hh
  rcases List.eq_nil_or_concat l with h | ⟨a,c,rfl⟩
  ·exact absurd h hne
  ·simp only[List.concat_eq_append]at *
   rw[Vh,aw]at ha
   have hc:L1 c=true:=by simpa[X6]using ha.2
   have hc':=Kn.1 hc
   rw[Y0,WW]
   cases a with
   |nil =>
    have h48:c≠48:=by simpa using hh
    have:c.toNat≠48:=λe=>h48 (bT (by rw[e];rfl))
    simp only[jP,fA,aX,bZ]
    refine⟨?_,O⟩
    rw[ae,dif_pos O,LP hc]
   |cons x a =>
    obtain⟨h1,h2⟩:=ih (l:=x::a) (by simp at hn ⊢;omega) ha.1 we (by simpa using hh)
    refine⟨?_,wg⟩
    simp only[ew,iZ]
    rw[Wo h2 O,h1,LP hc]
theorem E9(h:Xx l=true):ae (JJ l)=l:=by
 simp only[Xx,aw,iB,beq_iff_eq,ij,ff]at h
 rcases h.2 with h1 | h1
 ·subst h1;rw[WW];exact Yr
 ·exact(E8 h.1.1 h.1.2 (by simpa using h1)).1
theorem gL(h:X6 l=true):∀a,fR a l=some (a*10^l.length+JJ l):=by
 induction l with
 |nil=>intro a;simp[fR,JJ]
 |cons c l ih =>
  intro a
  rw[DF,aw]at h
  have hc:=Kn.1 h.1
  simp only[fR,Lib.digitVal,if_pos hc]
  rw[ih h.2,Rl,aD,bp,bG,fj,fB 10,eJ]
theorem xL{l:List UInt8}(h:X6 l=true)(hne:l≠[]):iI l=some (JJ l:Int):=by
 cases l with
 |nil=>exact absurd rfl hne
 |cons c l =>
  have hc:=Kn.1 (by rw[DF,aw]at h;exact h.1)
  have h1:(c==45)=false:=by
   apply beq_eq_false_iff_ne.2
   rintro rfl;simp at hc
  have h2:(c==43)=false:=by
   apply beq_eq_false_iff_ne.2
   rintro rfl;simp at hc
  simp only[iI,h1,h2,bQ,if_false,Lib.decNat,List.isEmpty_cons]
  rw[gL h];simp
def Wu(k:Nat)(l:List UInt8):List UInt8:=eY [48] (k - l.length)++l
theorem Vb(k:Nat):eY [48] k=aM k 48:=by
 induction k with
 |zero=>rfl
 |succ k ih=>rw[eY,ih];rfl
theorem YI{u:Nat}(h:u<10^k)(hk:0<k):aG u<=k:=by
 induction k generalizing u with
 |zero=>omega
 |succ k ih =>
  by_cases h10:u<10
  ·rw[ir h10];omega
  ·rw[iE h10]
   rcases ic k with h0 | h0
   ·subst h0;simp at h;omega
   ·have:=ih (u:=u / 10) (by rw[bp]at h;omega) h0;omega
theorem yv{u:Nat}(h:0<u):10^(aG u - 1)<=u:=by
 induction u using ep with
 |_ u ih =>
  by_cases h10:u<10
  ·rw[ir h10];simp;omega
  ·rw[iE h10]
   have:=ih (u / 10) O O
   have h1:=Lib.nDigits_pos (u / 10)
   obtain⟨k,hk⟩:∃k,aG (u / 10)=k+1:=⟨_,(ib h1).symm⟩
   rw[hk]at this ⊢
   simp only[eL]at this ⊢
   rw[bp];omega
theorem AI{u:Nat}(hk:0<k):k<aG u↔10^k<=u:=by
 constructor
 ·intro h
  rcases aY u (10^k)with g | g
  ·have:=YI g hk;omega
  ·exact g
 ·intro h
  rcases aY k (aG u)with g | g
  ·exact g
  ·have h1:=ie u
   have h2:10^aG u<=10^k:=bF wa g
   omega
theorem IH(h:l.length<=k):(Wu k l).length=k:=by
 unfold Wu;rw[Vb];simp;omega
theorem kC(k:Nat)(l:List UInt8)(c:UInt8):Wu (k+1) (l++[c])=Wu k l++[c]:=by
 unfold Wu;simp
theorem Vt{q:Nat}(hq:0<q):∀(k r:Nat),0<k->r<10^k->ae (q*10^k+r)=ae q++Wu k (ae r)
 |0,_,h,_=>O
 |1,r,_,hr=>by
  simp only[iZ]at *
  rw[Wo hq hr,eQ hr]
  rfl
 |k+2,r,_,hr=>by
  have e:q*10^(k+2)+r=(q*10^(k+1)+r / 10)*10+r%10:=by
   rw[bp,<-fj];omega
  have hr1:r / 10<10^(k+1):=by rw[bp]at hr;omega
  have hpos:0<q*10^(k+1)+r / 10:=by
   have:=Nat.mul_pos hq (Nat.pow_pos (n:=k+1) (show 0<10 by decide));omega
  rw[e,Wo hpos O,Vt hq (k+1) (r / 10) O hr1,aT]
  congr 1
  by_cases h10:r<10
  ·rw[eQ (show r / 10<10 by omega),eQ h10]
   have h0:r / 10=0:=O
   rw[h0]
   unfold Wu
   rw[Vb,Vb]
   simp only[ew,eL]
   rw[show k+2 - 1=k+1 by omega,fI,Nat.mod_eq_of_lt h10]
   rfl
  ·rw[<-kC]
   congr 1
   rw[iU r,dif_neg h10]
def Zf(z:Int):List UInt8:=fQ z
def Je(r:Rat):List UInt8:=if r.den=1 then Zf r.num else Zf r.num++47::ae r.den
theorem Kh(h:z<0):Zf z=45::ae z.natAbs:=by unfold Zf fQ;rw[if_pos h]
theorem XV(h:0<=z):Zf z=ae z.natAbs:=by
 unfold Zf fQ;rw[if_neg O]
 congr 1;omega
def Yw(l:List UInt8):Int:=if ar l [45]then -(JJ (l.drop 1):Int)else(JJ l:Int)
theorem Wi(h:X6 l=true):ar l [45]=false:=by
 cases l with
 |nil=>rfl
 |cons c l =>
  have hc:=Kn.1 (by rw[DF,aw]at h;exact h.1)
  have:(45==c)=false:=by
   apply beq_eq_false_iff_ne.2
   rintro rfl;simp at hc
  simp[ar,bK,this]
theorem K8(z:Int):Yw (Zf z)=z:=by
 unfold Yw
 by_cases h:z<0
 ·rw[Kh h]
  simp[ar,bK,Zh];omega
 ·rw[XV O,Wi (Jv _)]
  simp[Zh];omega
theorem Xn{b:Int}(h:sz a<=m)(k:sz b<=n):sz (a*b)<=m+n:=ab (Wd a b) (Nat.add_le_add h k)
theorem Te{b:Int}(h:sz a<=m)(k:sz b<=n):sz (a+b)<=max m n+1:=by have:=OH a b;omega
theorem VJ{b:Int}(hb:b≠0):JL (aC a b)<=max (sz a) (sz b):=by
 have key:∀(x y:Int),0<y->JL (aC x y)<=max (sz x) (sz y):=by
  intro x y hy
  have h:=WA (x:=x) hy
  unfold JL
  rw[h.1,h.2]
  have h1:sz (x / (bX x y:Int))<=sz x:=Kw (bc _ _)
  have h2:sz (y / (bX x y:Int))<=sz y:=Kw (bc _ _)
  omega
 rcases Int.lt_or_gt_of_ne hb with h | h
 ·rw[<-hJ]
  have:=key (-a) (-b) O
  rw[Vq,Vq]at this;exact this
 ·exact key a b h
theorem K4(r:Rat):(r.den:Int)≠0:=by have:=den_pos r;omega
theorem Bl(r s:Rat):r+s=aC (r.num*s.den+s.num*r.den) ((r.den:Int)*s.den):=by
 rw[iL,<-iw,e8]
theorem BU(r s:Rat):r*s=aC (r.num*s.num) ((r.den:Int)*s.den):=by
 rw[Rat.mul_def',<-iw,e8]
theorem V3(r:Rat):JL (-r)=JL r:=by unfold JL;rw[Rat.neg_num,Rat.neg_den,Vq]
theorem KU(r s:Rat):JL (r+s)<=JL r+JL s+1:=by
 rw[Bl]
 refine ab (VJ (eB (K4 r) (K4 s))) ?_
 have h1:=Te (Xn (Js r) (Jo s)) (Xn (Js s) (Jo r))
 have h2:=Xn (Jo r) (Jo s)
 omega
theorem Bs(r s:Rat):JL (r - s)<=JL r+JL s+1:=by
 rw[fZ];have:=KU r (-s);rw[V3]at this;exact this
theorem Z8(r s:Rat):JL (r*s)<=JL r+JL s:=by
 rw[BU]
 refine ab (VJ (eB (K4 r) (K4 s))) ?_
 have h1:=Xn (Js r) (Js s)
 have h2:=Xn (Jo r) (Jo s)
 omega
theorem NC{r:Rat}(h:r.num≠0):JL r⁻¹<=JL r:=by
 rw[iX]
 have:=VJ (a:=(r.den:Int)) h
 unfold JL at this ⊢;omega
theorem GV(n:Int):JL (n:Rat)<=max (sz n) 1:=by
 unfold JL;rw[ei,ek]
 have:sz ((1:Nat):Int)=1:=wa
 omega
theorem VT(r:Rat)(k:Nat):JL (r^k)<=k*JL r+1:=by
 unfold JL
 rw[iW,iY,eZ]
 have h1:=Di r.num k
 have h2:=Di (r.den:Int) k
 have h3:=aL k (iC (sz r.num) (sz (r.den:Int)))
 have h4:=aL k (iy (sz r.num) (sz (r.den:Int)))
 omega
theorem RZ(r:Rat):sz r.floor<=JL r:=by
 rw[iJ]
 exact ab (Kw (bc _ _)) (Js r)
theorem Wx{x y:Fr}{r s:Rat}(hF:Fits F w)(h:JM F x r)(h':JM F y s)(hr:JL r<=100000000)(hs:JL s<=100000000):ZA Tryz.prog 89 [x.v,y.v] w F (r*s):=by
 refine QS.intro (G:=λF=>JM F x r/\JM F y s) Tryz.func89 rfl wc rfl rfl hF (λF' hF'=>⟨h.le hF',h'.le hF'⟩)<|wI<|Qo rfl (vs:=[_,_,_,_]) rfl (λb2=>Qo rfl (vs:=[_,_,_,_]) rfl (λb3=>Qb Ju (λb4=>wG<|QG<|JO (.cons _ wm) mixed y0<|QK (QH rfl Z1 Qd)<|QK (QJ (vs:=[_,_]) rfl Qd .u1 .h2 rfl)<|QK (QH rfl Z1 Qd)<|QK (QJ (vs:=[_,_]) rfl Qd .here .h2 rfl)<|QN rfl (λw F hF h9=>DY hF h9.1.1 h9.2.1 (ab (Js r) O) (ab (Js s) O)) (λg9=>QK (QH rfl Z0 Qd)<|QK (QJ (vs:=[_,_]) rfl Qd .u1 (.skip (.skip .h2)) rfl)<|QK (QH rfl Z0 Qd)<|QK (QJ (vs:=[_,_]) rfl Qd .here (.skip (.skip .h2)) rfl)<|QN rfl (λw F hF h9=>DY hF h9.1.1.2 h9.1.2.2 (ab (Jo r) O) (ab (Jo s) O)) (λg14=>QN rfl (λw F hF ⟨⟨⟨⟨hn,hd⟩,⟨kn,kd⟩⟩,h9⟩,h14⟩=>AO hF h9 h14 (eB (K4 r) (K4 s)) (ab (Xn (Js r) (Js s)) O) (ab (Xn (Jo r) (Jo s)) O)) (λx15=>JV (vs:=[_,_,_,_]) rfl rfl rfl QL rfl .here wm (λ_ h=>h.1.1.1) .h4 wR<|Q6<|QC<|QY ?_))))))
 exact QV (_) rfl (.JW (c:=[_,_,_,_]) I QL .here .nil) rfl (λF h9=>(by rw[BU];exact⟨h9.2.1,h9.2.2⟩))
theorem xR{r s:Rat}(h:(r.den:Int)=1)(k:(s.den:Int)=1):r+s=((r.num+s.num:Int):Rat):=by
 have h1:r.den=1:=O
 have k1:s.den=1:=O
 rw[iL,h1,k1]
 apply Rat.ext
 ·rw[Rat.num_mkRat,ei];simp
 ·rw[Rat.den_mkRat,ek];simp
theorem D2{x y:Fr}{r s:Rat}(hF:Fits F w)(h:JM F x r)(h':JM F y s)(hr:JL r<=100000000)(hs:JL s<=100000000):ZA Tryz.prog 131 [x.v,y.v] w F (r+s):=by
 refine QS.intro (G:=λF=>JM F x r/\JM F y s) Tryz.func131 rfl wc rfl rfl hF (λF' hF'=>⟨h.le hF',h'.le hF'⟩)<|wI<|Qo rfl (vs:=[_,_,_,_]) rfl (λb2=>Qo rfl (vs:=[_,_,_,_]) rfl (λb3=>Qb Ju (λb4=>wG<|QG ?_)))
 refine MJ 10 (.bool (decide ((r.den:Int)=1)&&decide ((s.den:Int)=1))) ?_ ?_
 ·
  refine QB<|QA (QJ (vs:=[_,_,_,_]) I QL .u2 .h4 rfl)<|QI I (λw F hF ⟨⟨hn,hd⟩,⟨kn,kd⟩⟩=>Mo hF ⟨by assumption,by assumption⟩) (λ_=>wE I ?_)
  refine Q3 (t:=7) rfl (λhb7=>?_) (λhb7=>?_)
  ·
   refine QM I I<|QA (QJ (vs:=[_,_,_,_]) I QL .u1 .h4 rfl)<|QM I I<|QI I (λw F hF ⟨⟨⟨hn,hd⟩,⟨kn,kd⟩⟩,_⟩=>Mo hF ⟨by assumption,by assumption⟩) (λ_=>QA (Qp I I I)<|QE ?_)
   exact Zb (exd 7 rfl rfl) (by show some (ah _)=some (ah _);rw[hb7];rfl) wK (λ_ h=>h.1.1)
  ·
   refine Qc I I I<|Qc I I I<|QA (Qj I I I)<|QE ?_
   exact Zb (exd 7 rfl rfl) (by show some (ah false)=some (ah _);rw[hb7];rfl) wK wj
 ·
  refine QR I (λhc=>?_) (λhc=>?_)
  ·
   refine wI<|QA (QH I Z1 Qd)<|QA (QJ (vs:=[_,_]) I Qd .u2 .h2 rfl)<|QA (QH I Z1 Qd)<|QA (QJ (vs:=[_,_]) I Qd .u1 .h2 rfl)<|QI I (λw F hF h9=>qi hF h9.1.1 h9.2.1 (ab (Js r) O) (ab (Js s) O)) (λg15=>QI I (λw F hF ⟨⟨⟨hn,hd⟩,⟨kn,kd⟩⟩,h15⟩=>EI hF (by assumption)) (λx16=>QO (vs:=[_,_,_,_]) I I I QL I .here .h4 wR<|wG<|QY ?_))
   exact QV (_) rfl (.JW (c:=[_,_,_,_]) I QL .here .nil) rfl (λF h9=>(by have hc2:(r.den:Int)=1/\(s.den:Int)=1:=(by simpa using hc);have e:(r+s:Rat)=((r.num+s.num:Int):Rat):=xR hc2.1 hc2.2;rw[e];exact⟨h9.2.1,h9.2.2⟩))
  ·
   refine QQ<|QC<|QG<|JO (.cons _ wm) mixed y0<|QK (QH I Z1 Qd)<|QK (QJ (vs:=[_,_]) I Qd .u1 .h2 rfl)<|QK (QH I Z0 Qd)<|QK (QJ (vs:=[_,_]) I Qd .here (.skip (.skip .h2)) I)<|QN I (λw F hF h9=>DY hF h9.1.1 h9.2.2 (ab (Js r) O) (ab (Jo s) O)) (λg21=>QK (QH I Z1 Qd)<|QK (QJ (vs:=[_,_]) I Qd .here .h2 rfl)<|QK (QH I Z0 Qd)<|QK (QJ (vs:=[_,_]) I Qd .u1 (.skip (.skip .h2)) I)<|QN I (λw F hF h9=>DY hF h9.1.2.1 h9.1.1.2 (ab (Js s) O) (ab (Jo r) O)) (λg26=>QN I (λw F hF h9=>qi hF h9.1.2 h9.2 (ab (Xn (Js r) (Jo s)) O) (ab (Xn (Js s) (Jo r)) O)) (λg27=>QK (QH I Z0 Qd)<|QK (QJ (vs:=[_,_]) I Qd .u1 (.skip (.skip .h2)) I)<|QK (QH I Z0 Qd)<|QK (QJ (vs:=[_,_]) I Qd .here (.skip (.skip .h2)) I)<|QN I (λw F hF h9=>DY hF h9.1.1.1.1.2 h9.1.1.1.2.2 (ab (Jo r) O) (ab (Jo s) O)) (λg32=>QN I (λw F hF h9=>AO hF h9.1.2 h9.2 (eB (K4 r) (K4 s)) (ab (Te (Xn (Js r) (Jo s)) (Xn (Js s) (Jo r))) O) (ab (Xn (Jo r) (Jo s)) O)) (λx33=>JV (vs:=[_,_,_,_]) I I I QL I .here wm (λ_ h=>h.1.1.1.1.1) .h4 wR<|Q6<|QC<|QY ?_)))))
   exact QV (_) rfl (.JW (c:=[_,_,_,_]) I QL .here .nil) rfl (λF h9=>(by rw[Bl];exact⟨h9.2.1,h9.2.2⟩))
theorem Aa{x y:Fr}{r s:Rat}(hF:Fits F w)(h:JM F x r)(h':JM F y s)(hr:JL r<=100000000)(hs:JL s<=100000000):ZA Tryz.prog 171 [x.v,y.v] w F (r - s):=by
 refine QS.intro (G:=λF=>JM F x r/\JM F y s) Tryz.func171 rfl wc rfl rfl hF (λF' hF'=>⟨h.le hF',h'.le hF'⟩)<|wI<|Qo rfl (vs:=[_,_,_,_]) rfl (λb2=>Qo rfl (vs:=[_,_,_,_]) rfl (λb3=>Qb Ju (λb4=>wG<|QG<|JO (.cons _ wm) mixed y0<|QK (QJ (vs:=[_,_,_,_]) rfl QL .u1 .h4 rfl)<|QK (QJ (vs:=[_,_,_,_]) rfl QL .here .h4 rfl)<|QN rfl (λw F hF h9=>Ad hF ⟨h9.2.1,h9.2.2⟩) (λx7=>QN rfl (λw F hF h9=>D2 hF ⟨h9.1.1.1,h9.1.1.2⟩ ⟨h9.2.1,h9.2.2⟩ hr (by rw[V3];exact hs)) (λx8=>JV (vs:=[_,_,_,_]) I I I QL I .here wm (λ_ h=>h.1.1) .h4 wR<|Q6<|QC<|QY ?_)))))
 exact QV (_) rfl (.JW (c:=[_,_,_,_]) I QL .here .nil) rfl (λF h9=>(by rw[fZ];exact⟨h9.2.1,h9.2.2⟩))
theorem O6{x:Fr}{r:Rat}(hF:Fits F w)(h:JM F x r)(h0:r.num≠0)(hr:JL r<=100000000):ZA Tryz.prog 185 [x.v] w F r⁻¹:=by
 refine QS.intro (G:=λF=>JM F x r) Tryz.func185 rfl wc rfl rfl hF (λF' hF'=>h.le hF')<|wI<|Qo rfl (vs:=[_,_,_,_]) rfl (λb1=>Qb Ju (λb2=>wG<|wI<|QA (QH rfl Z0 Qd)<|QA (QJ (vs:=[_,_]) rfl Qd .u1 (.skip (.skip .h2)) rfl)<|QA (QH rfl Z1 Qd)<|QA (QJ (vs:=[_,_]) rfl Qd .u1 .h2 rfl)<|QI rfl (λw F hF h9=>AO hF h9.2 h9.1 h0 (ab (Jo r) O) (ab (Js r) O)) (λx7=>QO (vs:=[_,_,_,_]) rfl rfl rfl QL rfl .here .h4 wR<|wG<|QY ?_)))
 exact QV (_) rfl (.JW (c:=[_,_,_,_]) I QL .here .nil) rfl (λF h9=>(by rw[iX];exact⟨h9.2.1,h9.2.2⟩))
theorem jv{x y:Fr}{r s:Rat}(hF:Fits F w)(h:JM F x r)(h':JM F y s)(h0:s.num≠0)(hr:JL r<=100000000)(hs:JL s<=100000000):ZA Tryz.prog 91 [x.v,y.v] w F (r / s):=by
 refine QS.intro (G:=λF=>JM F x r/\JM F y s) Tryz.func91 rfl wc rfl rfl hF (λF' hF'=>⟨h.le hF',h'.le hF'⟩)<|wI<|Qo rfl (vs:=[_,_,_,_]) rfl (λb2=>Qo rfl (vs:=[_,_,_,_]) rfl (λb3=>Qb Ju (λb4=>wG<|QG<|JO (.cons _ wm) mixed y0<|QK (QJ (vs:=[_,_,_,_]) rfl QL .u1 .h4 rfl)<|QK (QJ (vs:=[_,_,_,_]) rfl QL .here .h4 rfl)<|QN rfl (λw F hF h9=>O6 hF ⟨h9.2.1,h9.2.2⟩ h0 hs) (λx7=>QN rfl (λw F hF h9=>Wx hF ⟨h9.1.1.1,h9.1.1.2⟩ ⟨h9.2.1,h9.2.2⟩ hr (ab (NC h0) hs)) (λx8=>JV (vs:=[_,_,_,_]) rfl rfl rfl QL rfl .here wm (λ_ h=>h.1.1) .h4 wR<|Q6<|QC<|QY ?_)))))
 exact QV (_) rfl (.JW (c:=[_,_,_,_]) I QL .here .nil) rfl (λF h9=>(by rw[Rat.div_def];exact⟨h9.2.1,h9.2.2⟩))
def Ks(r s:Rat):Int:=if r<s then -1 else if r=s then 0 else 1
theorem um(r s:Rat):YP (r.num*s.den) (s.num*r.den)=Ks r s:=by
 unfold Ks
 rcases bW (r.num*s.den) (s.num*r.den)with h | h | h
 ·rw[Hh h,if_pos ((ia r s).2 h)]
 ·rw[h,TB,if_neg (by rw[ia];omega),if_pos (Rat.eq_iff_mul_eq_mul.2 h)]
 ·rw[MC h,if_neg (by rw[ia];omega),if_neg (by rw[Rat.eq_iff_mul_eq_mul];omega)]
theorem Hb{x y:Fr}{r s:Rat}(hF:Fits F w)(h:JM F x r)(h':JM F y s)(hr:JL r<=100000000)(hs:JL s<=100000000):Qe Tryz.prog 148 [x.v,y.v] w F (.int .i64 (Ks r s)):=by
 rw[<-um]
 refine QS.intro (G:=λF=>JM F x r/\JM F y s) Tryz.func148 rfl wc rfl rfl hF (λF' hF'=>⟨h.le hF',h'.le hF'⟩)<|wI<|Qo rfl (vs:=[_,_,_,_]) rfl (λb2=>Qo rfl (vs:=[_,_,_,_]) rfl (λb3=>wH rfl<|QG<|JO wK mixed y0<|QK (QH rfl Z1 Qd)<|QK (QJ (vs:=[_,_]) rfl Qd .u1 .h2 rfl)<|QK (QH rfl Z0 Qd)<|QK (QJ (vs:=[_,_]) rfl Qd .here (.skip (.skip .h2)) rfl)<|QN rfl (λw F hF h9=>DY hF h9.1.1 h9.2.2 (ab (Js r) O) (ab (Jo s) O)) (λg9=>QK (QH rfl Z1 Qd)<|QK (QJ (vs:=[_,_]) rfl Qd .here .h2 rfl)<|QK (QH rfl Z0 Qd)<|QK (QJ (vs:=[_,_]) rfl Qd .u1 (.skip (.skip .h2)) rfl)<|QN rfl (λw F hF h9=>DY hF h9.1.2.1 h9.1.1.2 (ab (Js s) O) (ab (Jo r) O)) (λg14=>QN rfl (λw F hF ⟨⟨⟨⟨hn,hd⟩,⟨kn,kd⟩⟩,h9⟩,h14⟩=>QEp hF h9 h14 (ab (Xn (Js r) (Jo s)) O) (ab (Xn (Js s) (Jo r)) O)) (λ_=>QK (QF rfl)<|Q6<|QC<|QY ?_)))))
 exact wL I I I wh
theorem LH{x:Fr}{r:Rat}(hF:Fits F w)(h:JM F x r)(hr:JL r<=100000000):ZX Tryz.prog 301 [x.v] w F r.floor:=by
 refine QS.intro (G:=λF=>JM F x r) Tryz.func301 rfl wc rfl rfl hF (λF' hF'=>h.le hF')<|wI<|Qo rfl (vs:=[_,_,_,_]) rfl (λb1=>Qb Y7 (λb2=>wG<|wI<|QA (QH rfl Z1 Qd)<|QA (QJ (vs:=[_,_]) rfl Qd .u1 .h2 rfl)<|QA (QH rfl Z0 Qd)<|QA (QJ (vs:=[_,_]) rfl Qd .u1 (.skip (.skip .h2)) rfl) ?_))
 refine QI I (λw F hF h9=>E7 hF h9.1 h9.2 (den_pos r) (ab (Js r) O) (ab (Jo r) O)) (λc10=>?_);rcases c10 with ⟨g10,g10_⟩;dsimp only
 refine wE I<|QA (QT I I)<|QA (QT I I)<|Qb Y7 (λb3=>Qb Y7 (λb4=>QO (vs:=[_,_]) I I I Qd I .u1 .h2 wP<|QO (vs:=[_,_]) I I I Qd I .here .h2 wP<|wG<|wI<|QA (QJ (vs:=[_,_]) I Qd .u1 .h2 rfl)<|QO (vs:=[_,_]) I I I Qd I .u2 .h2 wP<|wG<|QY ?_))
 exact QV (_) rfl (.JW (c:=[_,_]) I Qd .u2 .nil) rfl (λF h9=>(by rw[iJ];exact h9.2.1))
theorem uY{x:Fr}{r:Rat}(hF:Fits F w)(h:JM F x r)(hr:JL r<=100000000):ZX Tryz.prog 302 [x.v] w F (-(-r).floor):=by
 refine QS.intro (G:=λF=>JM F x r) Tryz.func302 rfl wc rfl rfl hF (λF' hF'=>h.le hF')<|wI<|Qo rfl (vs:=[_,_,_,_]) rfl (λb1=>Qb Y7 (λb2=>wG<|wI<|QA (QJ (vs:=[_,_,_,_]) rfl QL .u1 .h4 rfl)<|QI rfl (λw F hF h9=>Ad hF ⟨h9.1,h9.2⟩) (λx4=>QI rfl (λw F hF h9=>LH hF ⟨h9.2.1,h9.2.2⟩ (by rw[V3];exact hr)) (λg5=>QI I (λw F hF ⟨⟨⟨hn,hd⟩,⟨h4,h4_⟩⟩,h5⟩=>R6 hF (by assumption)) (λg6=>QO (vs:=[_,_]) I I I Qd I .here .h2 wP<|wG<|QY ?_)))))
 exact QV (_) rfl (.JW (c:=[_,_]) I Qd .here .nil) rfl wk
theorem O0:(aC 1 2).num=1/\((aC 1 2).den:Int)=2:=wb
theorem Mr{x:Fr}{r:Rat}{k:Int}(hF:Fits F w)(h:JM F x r)(hk:0<=k)(hK:k<=9223372036854775807)(hz:k.toNat*JL r<=500000000):ZA Tryz.prog 217 [x.v,.int .i64 k] w F (r^k.toNat):=by
 refine QS.intro (G:=λF=>JM F x r) Tryz.func217 rfl wc rfl rfl hF (λF' hF'=>h.le hF')<|wI<|Qo rfl (vs:=[_,_,_,_]) rfl (λb2=>Qb Ju (λb4=>wG<|QG<|JO (.cons _ wm) mixed y0<|QK (QH rfl Z1 Qd)<|QK (QJ (vs:=[_,_]) rfl Qd .here .h2 rfl)<|QK (QD rfl)<|QN rfl (λw F hF h9=>yw hF h9.1 hk hK (ab (aL _ (Js r)) hz)) (λg8=>QK (QH rfl Z0 Qd)<|QK (QJ (vs:=[_,_]) rfl Qd .here (.skip (.skip .h2)) rfl)<|QK (QD rfl)<|QN rfl (λw F hF h9=>yw hF h9.1.2 hk hK (ab (aL _ (Jo r)) hz)) (λg12=>QK (Qv rfl Me Ju (.cons (vs:=[_,_]) rfl rfl rfl .h2 (.cons (vs:=[_,_]) rfl rfl rfl (.skip (.skip .h2)) .nil)))<|JV (vs:=[_,_,_,_]) rfl rfl rfl QL rfl .here wm (λ_ h=>h.1.1) .h4 wR<|Q6<|QC<|QY ?_))))
 exact QV (⟨g8,g12⟩) I (.JW (c:=[_,_,_,_]) I QL .here .nil) rfl (λF h9=>⟨by rw[iW];exact h9.1.2,by rw[iY,eZ];exact h9.2⟩)
theorem Kc.kind{s:Int}{q:Option Addr}(h:Kc w s q n cap z):(q.isNone=true/\s=z/\-9223372036854775808<=z/\z<=9223372036854775807)\/(q.isNone=false/\¬(-9223372036854775808<=z/\z<=9223372036854775807/\z≠-9223372036854775808)):=by
 rcases h with ⟨rfl,_,_,h1,h2,h3⟩ | ⟨b,off,l,rfl,_,_,_,_,_,_,_,hs,hz,hd⟩
 ·exact .inl ⟨rfl,h1,h2,h3⟩
 ·refine .inr ⟨rfl,?_⟩
  rcases hs with rfl | rfl<;>omega
theorem dw(hF:Fits F w)(h:XG F g a):QS Tryz.prog 179 [g.v] w F (λ(c:Int×Bool)=>.tuple #[.int .i64 c.1,.bool c.2])
  (λc _=>(c.2=true/\c.1=a/\-9223372036854775808<=a/\a<=9223372036854775807)\/(c.2=false/\¬(-9223372036854775808<=a/\a<=9223372036854775807/\a≠-9223372036854775808))):=by
 have hk:=Kc.kind (h w hF.r)
 refine QS.intro (G:=λF=>XG F g a) Tryz.func179 rfl wc rfl rfl hF (λF' hF'=>h.le hF')<|wI<|Qo rfl (vs:=[_,_]) rfl (λb1=>wF rfl<|wH rfl<|QG<|JO wK mixed y0<|QK (QH rfl Ez JR)<|QK (Qg rfl JR .here .h1)<|QK (QH rfl DA Vp)<|QK (Qg rfl Vp .here (.skip .h1))<|QK (Gd rfl rfl KY)<|QK (QF rfl)<|QK (QF rfl)<|Q6<|QC<|QY ?_)
 exact JZ ((g.s,g.q.isNone)) I (wC I I) rfl (λF _=>hk)
theorem C1{N:Nat}{m:Sl}{w0:World}{F0:Gs}{bs:List (Nat×Obj)}{G:Gs->Prop}{ty:TypeId}{l:List Int}(hx:ev m x=some (.pointer (some ⟨b,off+i*1,none⟩)))(ht:YW P T=some (false,n))(hr:∀F,G F->Vm F ⟨some ⟨b,off,none⟩,k,cap⟩ l)(hi:i<l.length):
  Qt P N m (St ⟨w0,F0,bs,G⟩) (.load T x) ty (.int .u64 (l.getD i 0)):=λa w _ _ _ _ ha hw=>by
 obtain⟨F,hw⟩:=hw
 obtain⟨q,cap',e,_,_,hc⟩:=(hr F hw.hG).1 w hw.fits.r
 obtain⟨b',off',e1,_,e2⟩:=hc i hi
 simp only[Sr.v,bf]at e
 have e3:=e.1.trans e1
 simp only[bJ,fb]at e3
 obtain⟨rfl,rfl,_⟩:=e3
 have hc':w.cell? ⟨b,off+i*1,none⟩=some (.int .u64 (l.getD i 0)):=by rw[lk];exact e2
 have hrun:=YE (P:=P) ht hc'
 simp at hrun
 simp[execOp,ha.ev hx,eM,eD,hrun]
theorem Vm.at{r:Sr}{l:List Int}(h:Vm F r l){w:World}(hw:Fits F w)(hl:l≠[]):r.n=l.length/\∃b off,r.q=some ⟨b,off,none⟩:=by
 obtain⟨q,cap,e,_,_,hc⟩:=h.1 w hw.r
 have hlen:0<l.length:=by cases l with | nil=>exact absurd rfl hl | cons=>simp
 obtain⟨b,off,e1,_,_⟩:=hc 0 hlen
 simp only[Sr.v,bf]at e
 exact⟨e.2.1,b,off,e.1.trans e1⟩
theorem Vm.len{r:Sr}{l:List Int}(h:Vm F r l){w:World}(hw:Fits F w):r.n=l.length:=by
 obtain⟨q,cap,e,_,_,hc⟩:=h.1 w hw.r
 simp only[Sr.v,bf]at e
 exact e.2.1
theorem zu(h1:2^k<=z.natAbs)(h2:z.natAbs<2^(k+1)):sz z=k+1:=by
 have a:=(XL z (k+1)).2 h2
 have b:¬sz z<=k:=λh=>by have:=(XL z k).1 h;omega
 omega
theorem xG{l:List Int}(hd:DG W l)(hn:NZ l)(hl:l≠[]){a:Int}(ha:dv W l=Jr a):sz a=64*(l.length - 1)+bw (l.getD (l.length - 1) 0).toNat/\bw (l.getD (l.length - 1) 0).toNat<=64:=by
 rcases Rc l with h | ⟨m,x,rfl⟩
 ·exact absurd h hl
 ·have hx:=hd x we
  have hx0:x≠0:=by intro e;subst e;simp[NZ]at hn
  have hm:DG W m:=hd.left
  have e1:((m++[x]).getD ((m++[x]).length - 1) 0)=x:=we
  rw[e1]
  have e2:(m++[x]).length - 1=m.length:=we
  rw[e2]
  have hW:W=18446744073709551616:=rfl
  obtain⟨y,rfl⟩:=fy hx.1
  rw[aU]
  have hy1:y<2^64:=by have:=hx.2;rw[hW]at this;omega
  obtain⟨g1,g2,g3⟩:=Lib.bitLenAux_bounds 64 y hy1 O
  change 1<=bw y at g1
  change 2^(bw y - 1)<=y at g2
  change y<2^bw y at g3
  have g4:bw y<=64:=Lib.bitLen_le y 64 O hy1
  refine⟨?_,g4⟩
  rw[Xl]at ha
  have h0:=Q8 (by decide:(0:Int)<W) hm
  have h1:=KE (by decide:(0:Int)<W) hm
  obtain⟨d,hd'⟩:=fy h0
  have hWp:W^m.length=((2^(64*m.length):Nat):Int):=by
   rw[hW,lf];simp
  rw[hWp]at ha h1
  rw[hd']at ha h1
  have hna:a.natAbs=d+2^(64*m.length)*y:=by
   have:((a.natAbs:Nat):Int)=((d+2^(64*m.length)*y:Nat):Int):=by
    rw[<-VU,<-ha];simp
   exact Int.ofNat.inj this
  have hlt:d<2^(64*m.length):=O
  obtain⟨k,hk⟩:∃k,bw y=k+1:=⟨_,(ib g1).symm⟩
  rw[hk]at g2 g3 ⊢
  rw[eL]at g2
  have hp:2^(64*m.length+k)=2^(64*m.length)*2^k:=lg _ _ _
  have hp':2^(64*m.length+k+1)=2^(64*m.length)*2^(k+1):=by rw[eJ,lg]
  refine zu (k:=64*m.length+k) ?_ ?_
  ·rw[hna,hp]
   exact ab (aL _ g2) (Nat.le_add_left _ _)
  ·rw[hna,hp']
   have h2:2^(64*m.length)*(y+1)<=2^(64*m.length)*2^(k+1):=aL _ g3
   rw[lz]at h2
   omega
theorem QCI(hF:Fits F w)(h:XG F g a)(hza:sz a<=1000000000):Qe Tryz.prog 269 [g.v] w F (.int .i64 (sz a)):=by
 refine QS.intro (G:=λF=>XG F g a) Tryz.func269 rfl wc rfl rfl hF (λF' hF'=>h.le hF')<|wI<|Qo rfl (vs:=[_,_]) rfl (λb1=>wH rfl<|wI<|QA (QJ (vs:=[_,_]) rfl Qd .here .h2 rfl) ?_)
 refine QI I (λw F hF hG0=>PY hF (by assumption)) (λc7=>?_);rcases c7 with ⟨v7,l7⟩;dsimp only
 refine JQ _ (λw F hF ⟨hG0,⟨h7,h7p⟩⟩=>bA h7.2 h7p) (λp7=>JQ _ (λw F hF h9=>h9.2.1.len hF) (λhl7=>?_))
 have hlen7:=ZM p7.1.1 p7.1.2 p7.2 hza
 try dsimp only at hl7
 refine wE I<|QA (QT I I)<|QA (QT I I)<|wF I<|wH I<|QG<|wJ I<|QA (Qh I KY)<|QA (QZ I I I)<|QE<|QC ?_
 refine QR I (λhc=>?_) (λhc=>?_)
 ·
  refine wI<|wH I<|QY ?_
  exact QV () I (wB I) (by have h0:l7=[]:=aI (by simp at hc;omega);have e:=p7.2;rw[h0]at e;have:a=0:=(by have:=VU a;simp at e;omega);subst this;rfl) wh
 ·
  refine QQ<|QC<|QG<|QB ?_
  have hne:l7≠[]:=by rintro rfl;simp at hc;simp at hl7;omega
  have hpos:0<l7.length:=by cases l7 with | nil=>exact absurd rfl hne | cons=>simp
  have hsp:=xG p7.1.1 p7.1.2 hne p7.2
  refine JQ _ (λw F hF h9=>(h9.2.1.at hF hne).2) (λhq7=>?_)
  obtain⟨qb,qo,hq7⟩:=hq7
  obtain⟨vq,vn,vcap⟩:=v7
  try dsimp only at hq7 hl7
  subst hq7;subst hl7
  dsimp only
  refine wE I<|QA (Qh I KY)<|QA (Xw I I O)<|QA (PN I I O)<|wE I<|wE I<|QA (Qh I KY)<|QA (Xw I I O)<|QA (JG (i:=l7.length - 1) rfl wA KY RQ O)<|QA (C1 I RQ (λF h9=>h9.2.1) O)<|QI I (λw F hF h9=>pk hF (p7.1.1.getD wa _).1 (by have:=(p7.1.1.getD wa (l7.length - 1)).2;have hW:W=18446744073709551616:=rfl;omega)) (λ_=>QA (Qu I I O)<|wH I<|QY ?_)
  exact QV () I (wB I) (congrArg (ak .i64) (by have:=hsp.1;omega)) wh
theorem EP{l:List UInt8}(h:X6 l=true):sz (JJ l:Int)<=4*l.length:=by
 rw[XL,Int.natAbs_natCast,lf]
 exact az (Gb h) (eI wa _)
theorem QEQ(n:Nat):(if(n:Int)<18 then(n:Int)else 18)=((min 18 n:Nat):Int):=by split<;>omega
theorem OX:JJ (l.take (k+n))=JJ (l.take k)*10^((l.drop k).take n).length+JJ ((l.drop k).take n):=by
 rw[<-Y0,List.take_add]
theorem Ff(k:Nat):sz ((10:Int)^k)<=4*k+1:=by have:=Di 10 k;rw[show sz 10=4 by decide]at this;omega
structure QAt(n:Nat) where
 k:Nat
 g:Bg
 le:k<=n
theorem Rk(hF:Fits F w)(hs:X6 (ag s [45])=true)(hl:s.length<=10000000):ZX Tryz.prog 178 [tx s] w F (Yw s):=by
 have hll:(ag s [45]).length<=s.length:=by unfold ag;split<;>simp
 have hval:Yw s=if ar s [45]then -(JJ (ag s [45]):Int)else(JJ (ag s [45]):Int):=by
  unfold Yw ag;split<;>simp_all
 rw[hval]
 refine QS.intro (G:=λ_=>True) Tryz.func178 rfl wc rfl rfl hF wh<|wI<|Qb Y7 (λb2=>wG<|wJ rfl<|QI rfl (λw F hF _=>I6 hF ) (λ_=>wH rfl<|wJ rfl<|QI rfl (λw F hF h9=>EL hF ) (λ_=>wH rfl<|wI<|QA (Qv rfl QBW Y7 .nil)<|Qb Y7 (λb4=>QO (vs:=[_,_]) rfl rfl rfl Qd rfl .here .h2 wP ?_))))
 refine wG<|QG<|QU ?_
 generalize ag s [45]=l at *
 refine Zy (ι:=QAt l.length) (λi=>[(0,tx (l.drop i.k)),(2,.pointer (some ⟨b2,0,none⟩)),(4,.pointer (some ⟨b4,0,none⟩)),(3,.bool (ar s [45]))]) (λi=>[(b4,.cells #[.int .i64 i.g.s,.slice i.g.q i.g.n i.g.cap] 133 (0,0)),(b2,.cells #[.int .i64 0,.slice none 0 0] 133 (0,0))]) (λi F=>XG F i.g (JJ (l.take i.k))) (λi=>l.length - i.k)
  ⟨0,⟨0,none,0,0⟩,bV _⟩ wR wK (λF _=>XG.small F wa wa) (λi=>?_)
 refine QG<|wJ I<|QA (X7 I ZQ)<|QA (QZ I I I)<|QE<|QC ?_
 refine QR I (λhc=>?_) (λhc=>?_)
 ·
  refine QQ<|QC<|QU<|wJ I<|QA (X7 I ZQ)<|QA (QAC I I) ?_
  rw[QEQ]
  have hk0:i.k<l.length:=by simp at hc;omega
  have hpl:((l.drop i.k).take (min 18 (l.drop i.k).length)).length=min 18 (l.drop i.k).length:=we
  have hpa:X6 ((l.drop i.k).take (min 18 (l.drop i.k).length))=true:=DE (M0 hs _) _
  have hp18:=Gb hpa
  have hpz:(10:Nat)^((l.drop i.k).take (min 18 (l.drop i.k).length)).length<=10^18:=bF wa O
  have hm0:0<min 18 (l.drop i.k).length:=wg
  have hsk:sz (JJ (l.take i.k):Int)<=40000000:=ab (EP (DE hs _)) wg
  refine wH rfl<|wJ rfl<|wE rfl<|QA (Ee (min 18 (l.drop i.k).length) rfl rfl ZQ rfl O)<|QI rfl (λw F hF hO=>QCJ hF O (xL hpa (by intro e;rw[e]at hpl;simp at hpl;omega))) (λ_=>wE I<|QA (QT I I)<|QA (QT I I)<|wF I<|wH I<|QG<|Jt 8 wK mixed y0 y0 ?_)
  simp only[aQ,bm,aR,aN]
  refine QK (QJ (vs:=[_,_]) I Qd .here .h2 rfl)<|QN I (λw F hF h9=>IL hF O O) (λg27=>QK (QD I)<|QN I (λw F hF h9=>yw hF h9.2 O O (by rw[aU,show sz 10=4 by decide];omega)) (λg29=>QN I (λw F hF h9=>DY hF h9.1.1.1 h9.2 O (by rw[aU];exact ab (Ff _) O)) (λg30=>QK (QD I)<|QN I (λw F hF h9=>IL hF O O) (λg32=>QN I (λw F hF h9=>qi hF h9.1.2 h9.2 (ab (Xn hsk (Ff _)) (by rw[aU];omega)) (ab (EP hpa) O)) (λg33=>Ze<|QO (vs:=[_,_]) I I I Qd I .here .h2 wP<|wG<|QB<|wE I<|wE I<|QA (GW (min 18 (l.drop i.k).length) rfl rfl ZQ I O)<|wF I<|QE<|Qk ?_)))))
  refine Ql (⟨i.k+min 18 (l.drop i.k).length,g33,wg⟩:QAt l.length) wg ⟨(by show some (tx _)=some (tx _);simp),rfl,rfl,rfl,trivial⟩ wK (λF ⟨_,h33⟩=>by
   show XG F g33 (JJ (l.take (i.k+min 18 (l.drop i.k).length)):Int)
   rw[OX]
   rw[aU]at h33
   have e:((l.drop i.k).take (min 18 (l.drop i.k).length)).length=min 18 (l.drop i.k).length:=we
   rw[e,Int.natCast_add,e8,eZ];exact h33)
 ·
  refine Qz ?_
  repeat (first | refine QW ?_ | refine QP wc ?_)
  refine QX<|QC<|QG<|wJ I<|QE<|QC ?_
  have hdone:l.take i.k=l:=ao (by have:=i.le;simp at hc;omega)
  clear hc
  refine QR I (λhc=>?_) (λhc=>?_)
  ·
   refine wI<|QA (QJ (vs:=[_,_]) I Qd .here .h2 rfl)<|QI I (λw F hF hO=>R6 hF hO) (λg39=>QO (vs:=[_,_]) I I I Qd I .u1 .h2 wP<|wG<|QY ?_)
   exact QV (_) rfl (.JW (c:=[_,_]) I Qd .u1 .nil) rfl (λF ⟨hO,h39⟩=>(by rw[hdone]at h39;rw[if_pos hc];exact h39))
  ·
   refine QQ<|QC<|wI<|QA (QJ (vs:=[_,_]) I Qd .here .h2 rfl)<|QO (vs:=[_,_]) I I I Qd I .u1 .h2 wP<|wG<|QY ?_
   exact QV (_) rfl (.JW (c:=[_,_]) I Qd .u1 .nil) rfl (λF hO=>(by rw[hdone]at hO;rw[if_neg (by simp[hc])];exact hO))
section
variable[Dr][df:Df]{P:Program}{Q:Exit->Act->World->Prop}{N:Nat}{m:Sl}{E E0:Env}{ops:Array Oper}{l:List Oper}{w0:World}{F0:Gs}{bs:List (Nat×Obj)}{G:Gs->Prop}
theorem St.gJ(h:St ⟨w0,F0,bs,G⟩ w)(c:Array Value)(T:TypeId):St ⟨w0,F0,bs,λF=>G F/\F w.heap.size=some (c,T)⟩ (w.alloc (.cells c T)):=by
 obtain⟨F,h⟩:=h
 have hnone:=h.fits.none (aF w.heap.size)
 have hle:Gs.le F (λi=>if i=w.heap.size then some (c,T)else F i):=λi x hx=>by
  by_cases e:i=w.heap.size
  ·subst e;rw[hnone]at hx;cases hx
  ·show(if _ then _ else _)=_
   rw[if_neg e];exact hx
 have hnew:(w.alloc (.cells c T)).heap[w.heap.size]?=some (.cells c T):=by show(w.heap.push _)[_]?=_;simp
 refine⟨_,Gs.le_trans h.le hle,λb hb=>?_,⟨λb c' T' hb=>?_,λb c' fr hb=>?_⟩,h.ext.alloc _,λk hk=>?_,h.nd,λF' hF'=>⟨h.g F' (Gs.le_trans hle hF'),hF' _ _ (if_pos rfl)⟩⟩
 ·have hb2:b<w.heap.size:=az hb h.ext.size
  rw[if_neg O];exact h.old b hb
 ·by_cases e:b=w.heap.size
  ·subst e;rw[if_pos rfl]at hb;cases hb;exact⟨_,hnew⟩
  ·rw[if_neg e]at hb
   obtain⟨fr,e2⟩:=h.fits.row b c' T' hb
   exact⟨fr,by rw[eP _ _ _ (h.fits.lt hb)];exact e2⟩
 ·by_cases e:b=w.heap.size
  ·subst e;rw[hnew]at hb;cases hb;show(if _ then _ else _)=_;rw[if_pos rfl]
  ·show(if _ then _ else _)=_
   rw[if_neg e]
   have hlt:b<w.heap.size:=by
    rcases aY b w.heap.size with g | g
    ·exact g
    ·exfalso
     have:(w.heap.push (.cells c T))[b]?=some (.cells c' 297 fr):=hb
     rw[fm wg]at this;cases this
   rw[eP _ _ _ hlt]at hb
   exact h.fits.all b c' fr hb
 ·obtain⟨h1,h2,h3⟩:=h.bx k hk
  have hlt:k.1<w.heap.size:=by
   rcases aY k.1 w.heap.size with g | g
   ·exact g
   ·rw[fm g]at h1;cases h1
  exact⟨by rw[eP _ _ _ hlt];exact h1,h2,by rw[if_neg O];exact h3⟩
section
variable{d:Nat}{ty:TypeId}{pos:String}{aft:Array Edge}
theorem Qa{e:TypeId}{sz:Nat}{z:List Value}{g:Bool}{parts:Array (Nat×Operand)}{ps:List (Nat×Value)}(hp:GR m parts.toList=some ps)(ht:P.underlying t=some (.slice e))(hs:YW P e=some (g,sz))(hz:XC P e=some z)
  (hc:K2 sz 0 ps=some cs) (hl:cs.length=n*sz) (k:∀b,JS P ops Q l N ((d,.slice (some ⟨b,0,none⟩) n n)::m) ⟨w0,F0,bs,λF=>G F/\F b=some (cs.toArray,e)⟩) (h24:iO (n*sz) 16777216=true:=by rfl) (hn:Nat.beq (n*sz) 0=false:=by rfl)
  (hd:J5 N (some d)=true:=by rfl):JS P ops Q (⟨some d,.buildSlice t n parts,ty,pos,aft,none⟩::l) N m ⟨w0,F0,bs,G⟩:=λa w ha hw =>
 wpList_plain rfl λ_ hK=>upon_value (VK ha hp ht hs hz hc hl h24 hn) (hK _ _ (k _ _ _ (ha.put hd _) (hw.gJ _ _)))
theorem Yu{e:TypeId}{sz bytes:Nat}{z:List Value}{g:Bool}{X Y:Operand}{x y:Value}{news:List Value}{bs1:List (Nat×Obj)}(hx:ev m X=some x)(hy:ev m Y=some y)(ht:Hr P t=some e)(hs:YW P e=some (g,sz))(hz:XC P e=some z)(hzl:z.length=sz)(hby:ZU P e=some bytes)
  (hr:Qx e sz x n olds ob) (hs2:Src ⟨w0,F0,bs1++ob,G⟩ sz y k news) (h63:n+k<=9223372036854775807) (h47:(n+k)*bytes<=140737488355328) (h1:∀v∈news,v.oneCell'=true)
  (kk:∀v' ob',Qx e sz v' (n+k) (olds++news) ob'->JS P ops Q l N ((d,v')::m) ⟨w0,F0,bs1++ob',G⟩) (hu:Gg e=true:=by rfl) (hd:J5 N (some d)=true:=by rfl) :
  JS P ops Q (⟨some d,.call ⟨.builtin .append,#[X,Y],#[t,t]⟩,ty,pos,aft,none⟩::l) N m ⟨w0,F0,bs1++ob,G⟩ :=
 ZP eu (M7 hx hy ht hs hz hzl hby hr ⟨hs2.len,hs2.rd.imp id λ⟨a,c,e1,e2⟩=>⟨a,c,e1,λw hw=>e2 w (hw.perm eu)⟩⟩ h63 h47 h1
  (λv' ob' h=>ZP eu (kk v' ob' h)) hu hd)
end
theorem Own.skip{l:List (Nat×Obj)}{o:Obj}(h:Own l b o f):∀p:List (Nat×Obj),Own (p++l) b o (λo'=>p++f o')
 |[]=>h
 |_::p=>.there (h.skip p)
theorem jT{e ty:TypeId}{sz n':Nat}{v:Value}{u:Value}(hr:Qx e sz v n cs ob)(hm:∀k∈ob,k∈bs)(hb:v = .slice (some ⟨b,0,none⟩) n n')(hx:ev m x=some (.pointer (some ⟨b,0+i*1,none⟩)))(ht:YW P T=some (false,1))(hu:cs[i]?=some u):
  Qt P N m (St ⟨w0,F0,bs,G⟩) (.load T x) ty u:=λa w _ _ _ _ ha hw=>by
 obtain⟨F,hw⟩:=hw
 cases hr with
 |nil=>simp at hu
 |some g1 g2 g3 g4 =>
  rename_i b' cap rest
  simp only[bf,bJ,fb]at hb
  have hbb:=hb.1.1
  subst hbb
  have hi:i<cs.length:=by rcases aY i cs.length with h | h;exact h;rw[ey h]at hu;cases hu
  have hc:w.cell? ⟨b',0+i*1,none⟩=some u:=by
   rw[X4 (hw.bx (b',.cells (cs++rest).toArray e (0,0)) (hm _ we)).1,aX,lk,bB,if_pos hi];exact hu
  have hrun:=YE (P:=P) ht hc
  simp only[execOp,ha.ev hx,eM,eD,ee,eb,bj,hrun]
end
def hd(q:Nat):List UInt8:=if q=0 then[]else ae q
theorem uR(h:0<n):hd n=hd (n / 10^18)++(if n / 10^18=0 then ae (n%10^18)else Wu 18 (ae (n%10^18))):=by
 unfold hd
 rw[if_neg O]
 split
 ·rename_i h0
  rw[bZ];congr 1;omega
 ·rename_i h0
  rw[<-Vt O 18 _ wa (Nat.mod_lt _ wa)]
  congr 1
  rw[fB];exact(Nat.div_add_mod n (10^18)).symm
theorem jc{l:List Int}(hd:DG W l)(hn:NZ l)(h:dv W l<W):(l=[]\/l=[dv W l]):=by
 cases l with
 |nil=>exact .inl rfl
 |cons x r =>
  cases r with
  |nil=>right;simp
  |cons y r =>
   exfalso
   have:=Nk (by decide:(0:Int)<W) hd hn we
   have h2:=X1 (b:=W) wa (show 1<=(x::y::r).length - 1 by simp)
   rw[Int.pow_one]at h2;omega
structure xW(n:Nat) where
 l:List Int
 r:Sr
 ps:List (List UInt8)
 v:Value
 ob:List (Nat×Obj)
 dg:DG W l
 nz:NZ l
 le:(dv W l).toNat<=n
 hr:Qx 9 1 v ps.length (ps.map tx) ob
 ne:∀p∈ps,p≠[]
 inv:hd (dv W l).toNat++ps.reverse.flatten=hd n
theorem LF:∀ {ps:List (List UInt8)},(∀p∈ps,p≠[])->ps.length<=ps.flatten.length
 |[],_=>we
 |p::ps,h=>by
  have h1:=LF (ps:=ps) (λq hq=>h q (by simp[hq]))
  have h2:0<p.length:=by
   have:=h p we
   cases p with | nil=>exact absurd rfl this | cons=>simp
  simp[fK]at h1 ⊢;omega
theorem vB(h:n<2^k):(hd n).length<=k:=by
 unfold hd;split
 ·simp
 ·rename_i h0
  rw[aP]
  have hk:0<k:=by rcases ic k with e | e;subst e;simp at h;omega;exact e
  exact YI (az h (eI wa k)) hk
theorem U4(ps:List (List UInt8)):ps.reverse.flatten.length=ps.flatten.length:=by
 induction ps with
 |nil=>rfl
 |cons p ps ih=>simp[bM];simp[fK]at ih ⊢;omega
theorem xW.few(i:xW n)(h:n<2^k):i.ps.length<=k:=by
 have h1:=LF i.ne
 have h2:=congrArg eV i.inv
 rw[au,U4]at h2
 have h3:=vB h
 omega
theorem QBb(h:l≠[]):Wu 18 l≠[]:=by
 unfold Wu;simp[h]
def xW.next{n:Nat}(i:xW n)(hl:i.l≠[])(q:List Int)(rq:Sr)(v':Value)(ob':List (Nat×Obj))(s:List UInt8)(hdq:DG W q)(hnq:NZ q)(hq:(dv W q).toNat=(dv W i.l).toNat / 10^18)
  (hs:s=if(dv W q).toNat=0 then ae ((dv W i.l).toNat%10^18)else Wu 18 (ae ((dv W i.l).toNat%10^18)))
  (hr:Qx 9 1 v' (i.ps.length+1) (i.ps.map tx++[tx s]) ob'):xW n where
 l:=q
 r:=rq
 ps:=i.ps++[s]
 v:=v'
 ob:=ob'
 dg:=hdq
 nz:=hnq
 le:=by have:=i.le;have:=Nat.div_le_self (dv W i.l).toNat (10^18);omega
 hr:=by simpa using hr
 ne:=by
  intro p hp
  rcases List.mem_append.1 hp with h | h
  ·exact i.ne p h
  ·rw[List.mem_singleton.1 h,hs];split
   ·exact WB _
   ·exact QBb (WB _)
 inv:=by
  have h0:0<(dv W i.l).toNat:=by
   have h1:=Q8 (by decide:(0:Int)<W) i.dg
   have h2:=mt (Vs (by decide:(1:Int)<W) i.dg i.nz).1 hl
   omega
  rw[<-i.inv,uR h0,<-hq,hs]
  simp[bM]
theorem vT{q l:List Int}{b:Int}(hb:b=1000000000000000000)(h:dv W q=dv W l / b)(h0:0<=dv W l):(dv W q).toNat=(dv W l).toNat / 10^18:=by
 subst hb;rw[h];omega
theorem ue{r l:List Int}{b:Int}(hb:b=1000000000000000000)(h:dv W r=dv W l%b)(h0:0<=dv W l):(dv W r).toNat=(dv W l).toNat%10^18/\dv W r<1000000000000000000/\0<=dv W r:=by
 subst hb;rw[h];omega
structure gU(b:Nat)(pre:List UInt8)(ps:List (List UInt8)) where
 k:Nat
 cW:List (Nat×Obj)
 le:k<=ps.length
 bl:L2 b (pre++(ps.drop k).reverse.flatten) cW
theorem pT(h:a≠0):(if a<0 then[45]else[])++hd a.natAbs=Zf a:=by
 have h0:a.natAbs≠0:=O
 unfold hd;rw[if_neg h0]
 by_cases h1:a<0
 ·rw[if_pos h1,Kh h1];rfl
 ·rw[if_neg h1,XV O];rfl
theorem Vm.base{x:Int}(h:F b=some ([ak .u64 x].toArray,297))(h0:0<x)(h1:x<W):Vm F ⟨some ⟨b,0,none⟩,1,1⟩ [x]:=by
 refine⟨λw hw=>?_,?_,?_⟩
 ·obtain⟨fr,e⟩:=hw b _ _ h
  refine⟨_,1,rfl,we,wa,λi hi=>?_⟩
  have hi0:i=0:=by simp at hi;omega
  subst hi0
  exact⟨b,0,rfl,⟨_,_,e⟩,by simp[eC,e];rfl⟩
 ·intro y hy;rw[List.mem_singleton.1 hy];omega
 ·simp[NZ];omega
theorem EW(hF:Fits F w)(hG:JC F)(h:XG F g a)(hza:sz a<=100000000):Qe Tryz.prog 227 [g.v] w F (tx (Zf a)):=by
 have hk:=Kc.kind (h w hF.r)
 have hn2:a.natAbs<2^sz a:=DS a
 refine QS.intro (G:=λF=>JC F/\XG F g a) Tryz.func227 rfl wc rfl rfl hF (λF' hF'=>⟨hG.le hF',h.le hF'⟩)<|wI<|Qo rfl (vs:=[_,_]) rfl (λb1=>wH rfl<|QG<|wI<|QA (QH rfl DA Vp)<|QA (Qg rfl Vp .here (.skip .h1))<|QA (Gd rfl rfl KY)<|QE<|QC ?_)
 refine QR I (λhc=>?_) (λhc=>?_)
 ·
  refine wI<|QA (QH rfl Ez JR)<|QA (Qg rfl JR .here .h1)<|QI rfl (λw F hF ⟨hGl,hB⟩=>kz hF hGl (by rcases hk with hk | hk;omega;rw[hk.1]at hc;cases hc) (by rcases hk with hk | hk;omega;rw[hk.1]at hc;cases hc)) (λ_=>wH rfl<|QY ?_)
  exact QV () rfl (wB rfl) (by rcases hk with hk | hk;rw[hk.2.1];rfl;rw[hk.1]at hc;cases hc) wh
 ·
  refine QQ<|QC<|wI<|QA (QJ (vs:=[_,_]) I Qd .here .h2 rfl) ?_
  refine QI I (λw F hF ⟨hGl,hB⟩=>PY hF (by assumption)) (λc20=>?_);rcases c20 with ⟨v20,l20⟩;dsimp only
  refine JQ _ (λw F hF ⟨⟨hGl,hB⟩,⟨h20,h20p⟩⟩=>bA h20.2 h20p) (λp20=>?_)
  have ha0:a≠0:=by rcases hk with hk | hk;rw[hk.1]at hc;cases hc;omega
  have hn20:(dv W l20).toNat=a.natAbs:=by rw[p20.2,VU];rfl
  refine wE I<|QA (QT I I)<|QA (QT I I)<|wF I<|wH I<|wI<|Qa I (Qw KY) RQ QDb I I (λb23=>wH I<|wI<|wH I<|QG<|QU ?_)
  refine Zy (ι:=xW a.natAbs) (λi=>[(3,.bool (decide (a<0))),(4,.slice i.r.q i.r.n i.r.cap),(5,.slice (some ⟨b23,0,none⟩) 1 1),(6,i.v)]) (λi=>i.ob) (λi F=>JC F/\Vm F ⟨some ⟨b23,0,none⟩,1,1⟩ [1000000000000000000]/\Vm F i.r i.l) (λi=>(dv W i.l).toNat)
   ⟨l20,v20,[],.slice none 0 0,[],p20.1.1,p20.1.2,O,.nil,we,by rw[hn20];simp⟩ wR wu (λF h9=>⟨h9.1.1.1,Vm.base h9.2 wa wa,h9.1.2.1⟩) (λi=>?_)
  refine XQ _ (λw F hF h=>h.2.2.len hF) (λhil=>QG<|wJ I<|QA (Qh I KY)<|QA (QZ I I I)<|QE<|QC ?_)
  refine QR I (λhc=>?_) (λhc=>?_)
  ·
   have hne:i.l≠[]:=by intro e;rw[e]at hil;simp at hc;simp at hil;omega
   have h0i:=Q8 (by decide:(0:Int)<W) i.dg
   have hposi:0<(dv W i.l).toNat:=by
    have:=mt (Vs (by decide:(1:Int)<W) i.dg i.nz).1 hne;omega
   have hlen:i.l.length<=10000000000:=by
    have hle:=i.le
    have h3:=ZM (z:=dv W i.l) i.dg i.nz (by unfold Jr;split<;>omega) (ab (Kw (by omega:(dv W i.l).natAbs<=a.natAbs)) (ab hza wa))
    omega
   refine QQ<|QC<|QU<|wJ I<|wE I ?_
   refine QI I (λw F hF h9=>LN (r:=i.r) (r':=⟨some ⟨b23,0,none⟩,1,1⟩) (la:=i.l) (lb:=[1000000000000000000]) hF h9.2.2 h9.2.1 (List.cons_ne_nil _ _) hlen (fH I)) (λc30=>?_);rcases c30 with ⟨⟨v30,l30⟩,v30_,l30_⟩;dsimp only
   refine JQ _ (λw F hF ⟨⟨hGl,⟨hbase,hL⟩⟩,⟨⟨h30,h30_⟩,h30p⟩⟩=>bA h30.2 (bA h30_.2 h30p)) (λp30=>?_)
   have hb1:dv W [1000000000000000000]=1000000000000000000:=we
   have hq:=vT hb1 p30.2.2.1 h0i
   have hr:=ue hb1 p30.2.2.2 h0i
   have h1d:=jc p30.2.1.1 p30.2.1.2 (by have hW:W=18446744073709551616:=rfl;omega)
   refine JQ _ (λw F hF ⟨_,⟨⟨h30,h30_⟩,_⟩⟩=>bA (h30.len hF) (h30_.len hF)) (λpl=>wE rfl<|QA (QT rfl rfl)<|QA (QT rfl rfl)<|wF rfl<|wH rfl<|wI<|wF rfl<|QE<|QC ?_)
   refine Bn (ι:=Unit) (λ_=>[(3,.bool (decide (a<0))),(5,.slice (some ⟨b23,0,none⟩) 1 1),(6,i.v),(7,.slice v30.q v30.n v30.cap),(9,tx (ae ((dv W i.l).toNat%10^18)))]) (λ_=>i.ob) (λ_ F=>JC F/\Vm F ⟨some ⟨b23,0,none⟩,1,1⟩ [1000000000000000000]/\Vm F v30 l30) ?_ ?_
   ·
    refine wJ I<|QA (Qh I KY)<|QA (QZ I I I)<|QE<|QC ?_
    refine QR I (λhc=>?_) (λhc=>?_)
    ·
     have hl1:l30_=[dv W l30_]:=by
      rcases h1d with e | e
      ·exfalso;rw[e]at pl;simp at hc;simp at pl;omega
      ·exact e
     have hll:l30_.length=1:=by rw[hl1];rfl
     have hg0:l30_.getD 0 0=(((dv W i.l).toNat%10^18:Nat):Int):=by
      have:l30_.getD 0 0=dv W l30_:=by rw[hl1];simp
      rw[this];omega
     refine XQ _ (λw F hF ⟨_,⟨_,h⟩,_⟩=>(h.at hF (by intro e;rw[e]at hll;simp at hll)).2) (λhqb=>QB<|wE I ?_)
     obtain⟨qb,qo,hqb⟩:=hqb
     obtain⟨vq,vn,vcap⟩:=v30_
     dsimp only at hqb pl
     subst hqb
     refine QA (JG (i:=0) rfl rfl KY RQ (by dsimp only;omega))<|QA (C1 (l:=l30_) rfl RQ (λF h9=>h9.2.1.2) O) ?_
     rw[hg0]
     refine QI I (λw F hF h9=>Ac hF h9.1.1 O) (λ_=>wF I<|QE ?_)
     exact Zq () wS wK (λF h9=>⟨h9.1.1.1,h9.1.1.2.1,h9.1.2.1.1⟩)
    ·
     refine QQ ?_
     have e0:(dv W i.l).toNat%10^18=0:=by
      rcases h1d with e | e
      ·rw[e]at hr;simp at hr;omega
      ·have:=congrArg eV e;simp at this;simp at hc;omega
     exact Zq () ⟨rfl,rfl,rfl,rfl,(by show some (tx _)=some (tx _);rw[e0,Yr]),trivial⟩ wK (λF h9=>⟨h9.1.1,h9.1.2.1,h9.2.1.1⟩)
   ·intro xg9
    refine Bn (ι:=Unit) (λ_=>[(3,.bool (decide (a<0))),(5,.slice (some ⟨b23,0,none⟩) 1 1),(6,i.v),(7,.slice v30.q v30.n v30.cap),(9,tx ((if(dv W l30).toNat=0 then ae ((dv W i.l).toNat%10^18)else Wu 18 (ae ((dv W i.l).toNat%10^18)))))]) (λ_=>i.ob) (λ_ F=>JC F/\Vm F ⟨some ⟨b23,0,none⟩,1,1⟩ [1000000000000000000]/\Vm F v30 l30) ?_ ?_
    ·
     refine wJ I<|QA (Qh I KY)<|QA (QZ I I I)<|QE<|QC ?_
     refine QR I (λhc=>?_) (λhc=>?_)
     ·
      have hq0:(dv W l30).toNat≠0:=by
       have h1:=Q8 (by decide:(0:Int)<W) p30.1.1
       have h2:l30≠[]:=by intro e;rw[e]at pl;simp at hc;simp at pl;omega
       have:=mt (Vs (by decide:(1:Int)<W) p30.1.1 p30.1.2).1 h2
       omega
      have hd18:(ae ((dv W i.l).toNat%10^18)).length<=18:=by rw[aP];exact YI (Nat.mod_lt _ wa) wa
      refine QB<|wE I<|QA (X7 I ZQ)<|QA (Xw I I O) ?_
      rw[show(18:Int) - ((ae ((dv W i.l).toNat%10^18)).length:Int)=((18 - (ae ((dv W i.l).toNat%10^18)).length:Nat):Int) by omega]
      refine QI I (λw F hF _=>yX hF wg O) (λ_=>wE I<|QA (KF I I (by rw[Lib.repeatL_length];simp only[ew];omega))<|wF I<|QE ?_)
      exact Zq () ⟨rfl,rfl,rfl,rfl,(by show some (tx _)=some (tx _);rw[if_neg hq0];rfl),trivial⟩ wK wj
     ·
      refine QQ ?_
      have hq0:(dv W l30).toNat=0:=by
       have h2:l30=[]:=aI (by simp at hc;omega)
       rw[h2];rfl
      exact Zq () ⟨rfl,rfl,rfl,rfl,(by show some (tx _)=some (tx _);rw[if_pos hq0]),trivial⟩ wK wi
    ·intro xg11
     refine wJ I<|wE I<|VW I (Qw Wf) RP z_9 I I (λb51=>?_)
     have hfew:=i.few hn2
     refine Yu (bs1:=[_]) (ob:=i.ob) (k:=1) (sz:=1) (news:=[tx (if(dv W l30).toNat=0 then ae ((dv W i.l).toNat%10^18)else Wu 18 (ae ((dv W i.l).toNat%10^18)))]) I I Wf RP z_9 I QGe i.hr (Src.yU (b:=b51) (T:=9) (fr:=(0,0)) (c:=1) List.mem_cons_self I) O O (λu hu=>by rw[List.mem_singleton.1 hu];rfl) (λv' ob' hr'=>wH I<|QB<|wE I<|wF I<|QE<|Qk ?_)
     exact Ql (i.next hne l30 v30 v' ob' (if(dv W l30).toNat=0 then ae ((dv W i.l).toNat%10^18)else Wu 18 (ae ((dv W i.l).toNat%10^18))) p30.1.1 p30.1.2 hq rfl hr') (by show(dv W l30).toNat<(dv W i.l).toNat;rw[hq];exact Nat.div_lt_self hposi wa) wR (.cons _ wK) wi
  ·
   refine Qz ?_
   repeat (first | refine QW ?_ | refine QP wc ?_)
   refine QX<|QC ?_
   have hi0:i.l=[]:=aI (by simp at hc;omega)
   have hfl:i.ps.reverse.flatten=hd a.natAbs:=by have:=i.inv;rw[hi0]at this;simpa[hd]using this
   have hfew:=i.few hn2
   have hflen:i.ps.reverse.flatten.length<=100000000:=by rw[hfl];exact ab (vB hn2) hza
   refine wI<|Qb cV (λb10=>QE<|QC ?_)
   refine Bn (ι:=gU b10 (if a<0 then[45]else[]:List UInt8) i.ps) (λj=>[(6,i.v),(10,.pointer (some ⟨b10,0,none⟩))]) (λj=>j.cW++i.ob) (λj F=>j.k=i.ps.length/\JC F) ?_ ?_
   ·
    refine wJ I<|QE<|QC ?_
    refine QR I (λhc=>?_) (λhc=>?_)
    ·
     refine QB ?_
     have hneg:a<0:=wM hc
     refine XX (bs1:=[_]++i.ob) rfl (bH _) (GL (s:=[45]) (L2.fresh (b:=b10)) we) (λcW=>JQ _ (λw F hF h=>h.2) (λhbl=>QE ?_))
     exact Zq (⟨i.ps.length,cW,aF _,by rw[if_pos hneg];simpa using hbl⟩:gU b10 (if a<0 then[45]else[]:List UInt8) i.ps) wP wK (λF h=>⟨rfl,h.1.1⟩)
    ·
     refine QQ ?_
     exact Zq (⟨i.ps.length,[_],aF _,by rw[if_neg (wN hc)];simpa using(L2.fresh (b:=b10))⟩:gU b10 (if a<0 then[45]else[]:List UInt8) i.ps) wP wK (λF h=>⟨rfl,h.1⟩)
   ·intro xg16
    refine XQ _ (λw F hF h=>h.1) (λhk16=>?_)
    have hv6:∃q c6,i.v = .slice q i.ps.length c6:=by have:=i.hr;generalize i.v=v at this;generalize i.ps.map tx=q at this;generalize i.ps.length=n at this;generalize i.ob=o at this;cases this<;>exact⟨_,_,rfl⟩
    obtain⟨q6,c6,hv6⟩:=hv6
    rw[hv6]
    refine QG<|wJ I<|QA (Qh I Wf)<|QA (Xw I I O)<|wH I<|QU<|Zy (ι:=gU b10 (if a<0 then[45]else[]:List UInt8) i.ps) (λj=>[(6,.slice q6 i.ps.length c6),(10,.pointer (some ⟨b10,0,none⟩)),(11,.int .i64 ((j.k:Int) - 1))]) (λj=>j.cW++i.ob) (λ_ F=>JC F) (λj=>j.k) xg16 ⟨rfl,rfl,(by rw[hk16];rfl),trivial⟩ wK wk (λj=>?_)
    have hjl:=j.le
    refine QG<|wJ I<|QA (QZ I I I)<|QE<|QC ?_
    refine QR I (λhc=>?_) (λhc=>?_)
    ·
     have hj0:0<j.k:=by simp at hc;omega
     obtain⟨b6,hb6⟩:∃b6,q6=some ⟨b6,0,none⟩:=by
      have:=i.hr
      rw[hv6]at this
      generalize i.ps.map tx=q at this;generalize i.ob=o at this;generalize hnn:i.ps.length=n at this
      cases this with
      |nil=>omega
      |some=>exact⟨_,rfl⟩
     subst hb6
     have hlt:j.k - 1<i.ps.length:=O
     have hjj:(j.k:Int) - 1=((j.k - 1:Nat):Int):=O
     refine QQ<|QC<|QG<|QU<|QB<|wE I<|wE I<|QA (JG (i:=j.k - 1) rfl (congrArg (λz:Int=>some (ak .i64 z)) hjj) Wf RP hlt)<|QA (jT (i:=j.k - 1) (u:=tx (i.ps[j.k - 1])) (by have:=i.hr;rw[hv6]at this;exact this) (λk hk=>List.mem_append_right _ hk) rfl rfl RP (by simp[hlt])) ?_
     have hdrop:(i.ps.drop (j.k - 1)).reverse.flatten=(i.ps.drop j.k).reverse.flatten++i.ps[j.k - 1]:=by
      rw[aZ hlt,show j.k - 1+1=j.k by omega];simp[bM]
     have hbound:((i.ps.drop (j.k - 1)).reverse.flatten).length<=100000000:=by
      have e:i.ps.reverse.flatten=(i.ps.drop (j.k - 1)).reverse.flatten++(i.ps.take (j.k - 1)).reverse.flatten:=by
       rw[<-bM,<-List.reverse_append,aO]
      rw[e,au]at hflen;omega
     rw[hdrop,au]at hbound
     refine XX I (bH _) (GL j.bl (by rw[au];have hp:(if a<0 then[45]else[]:List UInt8).length<=1:=(by split<;>simp);omega)) (λcW=>JQ _ (λw F hF h=>h.2) (λhbl=>QE<|Qk<|QC<|QB<|wE I<|QA (Xw I I O)<|wF I<|QE ?_))
     exact Ql (⟨j.k - 1,cW,O,by rw[hdrop,<-aT];exact hbl⟩:gU b10 (if a<0 then[45]else[]:List UInt8) i.ps) (by show j.k - 1<j.k;omega) ⟨rfl,rfl,(by show some (ak .i64 ((j.k:Int) - 1 - 1))=some (ak .i64 (((j.k - 1:Nat):Int) - 1));rw[hjj]),trivial⟩ wK wj
    ·
     refine Qz ?_
     repeat (first | refine QW ?_ | refine QP wc ?_)
     refine QX<|QC<|QG<|QB ?_
     have hj0:j.k=0:=by simp at hc;omega
     have hbl:=j.bl
     rw[hj0,aN,hfl,pT ha0]at hbl
     refine Nz (v:=tx (Zf a)) hF rfl (enters_of Tryz.func290 wc rfl) (λw' hw'=>Tryz.Builder_String_any w.heap.size b10 (Zf a) w' (hbl.is hw') (by obtain⟨F',h'⟩:=hw';exact h'.ext.size))<|wH I<|QY ?_
     exact QV () I (wB I) rfl wh
def YO(c:UInt8)(s:List UInt8):List UInt8×List UInt8×Bool:=if s.contains c then(s.takeWhile (· != c),(s.dropWhile (· != c)).drop 1,true)else(s,[],false)
theorem AW(c:UInt8)(s:List UInt8):iK s c=if s.contains c then((s.takeWhile (· != c)).length:Int)else -1:=by
 induction s with
 |nil=>rfl
 |cons b s ih =>
  unfold iK
  by_cases h:b=c
  ·subst h;simp
  ·have h1:(b==c)=false:=beq_eq_false_iff_ne.2 h
   have h2:(b != c)=true:=by simp[bne,h1]
   have h3:(c==b)=false:=beq_eq_false_iff_ne.2 (λe=>h e.symm)
   rw[ih]
   simp only[h1,bQ,if_false,fV,h3,fi,bL,h2,if_true]
   by_cases h4:s.contains c=true
   ·simp only[h4,if_true]
    have:(((s.takeWhile (· != c)).length:Int)==-1)=false:=by
     apply beq_eq_false_iff_ne.2;omega
    simp only[this,bQ,if_false,aD];omega
   ·have h5:¬c∈s:=by simpa using h4
    simp[h5]
theorem WR(p:UInt8->Bool)(s:List UInt8):s.take (s.takeWhile p).length=s.takeWhile p/\s.drop (s.takeWhile p).length=s.dropWhile p:=by
 induction s with
 |nil=>simp
 |cons b s ih =>
  simp only[bL,fL]
  split<;>simp[ih]
theorem vm(c:UInt8)(s:List UInt8):fe s [c]=YO c s:=by
 have h:Lib.index s [c]=if s.contains c then((s.takeWhile (· != c)).length:Int)else -1:=by
  rw[<-AW];exact Lib.index_one s c
 unfold fe YO
 rw[h]
 by_cases h4:s.contains c=true
 ·simp only[h4,if_true]
  rw[if_pos O,aU,(WR _ s).1]
  have:=(WR (· != c) s).2
  rw[<-List.drop_drop,this];rfl
 ·simp only[h4,bQ,if_false]
  rw[if_neg O]
theorem Sc{a b:List UInt8}(h:a.contains c=false):YO c (a++c::b)=(a,b,true):=by
 have h1:∀x∈a,(x != c)=true:=λx hx=>by
  simp only[bne_iff_ne,ne_eq];rintro rfl
  have:a.contains x=true:=by simpa using hx
  rw[this]at h;cases h
 unfold YO
 rw[if_pos we]
 have h2:(a++c::b).takeWhile (· != c)=a:=by
  rw[eW h1];simp
 have h3:(a++c::b).dropWhile (· != c)=c::b:=by
  rw[List.dropWhile_append_of_pos h1];simp
 rw[h2,h3];rfl
theorem j7{a:List UInt8}(h:a.contains c=false):YO c a=(a,[],false):=by
 unfold YO;rw[h];simp
theorem qh(h:X6 l=true)(hc:L1 c=false):l.contains c=false:=by
 cases hx:l.contains c with
 |false=>rfl
 |true =>
  have:c∈l:=by simpa using hx
  rw[X6,im]at h
  rw[h c this]at hc;cases hc
theorem Ej(z:Int)(hc:L1 c=false)(h:c≠45):(Zf z).contains c=false:=by
 by_cases hz:z<0
 ·rw[Kh hz,fV,qh (Jv _) hc]
  simp[h]
 ·rw[XV O];exact qh (Jv _) hc
theorem vj(r:Rat):fe (Je r) [47]=if r.den=1 then(Zf r.num,[],false)else(Zf r.num,ae r.den,true):=by
 rw[vm]
 unfold Je
 split
 ·exact j7 (Ej _ wa wa)
 ·exact Sc (Ej _ wa wa)
theorem Bq(z:Int):ag (Zf z) [45]=ae z.natAbs:=by
 unfold ag
 by_cases h:z<0
 ·rw[Kh h];simp[ar,bK]
 ·rw[XV O,Wi (Jv _)];simp
theorem VY(h:X6 l=true):ag l [45]=l:=by
 unfold ag;rw[Wi h];simp
theorem YF(h:X6 l=true):Yw l=JJ l:=by
 unfold Yw;rw[Wi h];simp
def lim:Nat:=10^600
theorem ph(u:Nat):(600<(ae u).length)↔lim<=u:=by unfold lim;rw[aP];exact AI wa
theorem zB:2^1800<lim:=by
 decide +kernel
def S9(z:Int):Bool:=decide (lim<=z.natAbs)
def Jj(r:Rat):Bool:=S9 r.num||S9 r.den
theorem kb(hF:Fits F w)(hG:JC F)(h:XG F g a)(hza:sz a<=100000000):Qe Tryz.prog 187 [g.v] w F (.bool (S9 a)):=by
 refine QS.intro (G:=λF=>JC F/\XG F g a) Tryz.func187 rfl wc rfl rfl hF (λF' hF'=>⟨hG.le hF',h.le hF'⟩)<|wI<|Qo rfl (vs:=[_,_]) rfl (λb1=>wH rfl<|wI<|QA (QJ (vs:=[_,_]) rfl Qd .here .h2 rfl)<|QI rfl (λw F hF h9=>QCI hF h9.2 (ab hza wa)) (λ_=>QA (QZ rfl rfl rfl)<|wE rfl ?_))
 refine Q3 (t:=6) rfl (λhb6=>?_) (λhb6=>?_)
 ·
  refine QM I I<|QA (QJ (vs:=[_,_]) I Qd .here .h2 rfl)<|QM I I<|QI I (λw F hF h9=>EW hF h9.1.1 h9.1.2 hza) (λ_=>QM I I<|QI I (λw F hF h9=>EL hF ) (λ_=>QM I I<|QA (X7 I ZQ)<|QM I I<|QA (QZ I I I)<|QA (Qp I I I)<|wH I<|QY ?_))
  exact QV () I (wB I) (congrArg ah (by rw[Bq];exact decide_eq_decide.2 (Iff.trans (b:=600<(ae a.natAbs).length) (ph a.natAbs).symm (by constructor<;>intro h<;>omega)))) wh
 ·
  refine Qc I I I<|Qc I I I<|Qc I I I<|Qc I I I<|Qc I I I<|QA (Qj I I I)<|wH I<|QY ?_
  exact QV () I (wB I) (congrArg ah (by have h1:=wN hb6;have h2:sz a<=1800:=O;have h3:=(XL a 1800).1 h2;exact decide_eq_false (Nat.not_le.2 (Nat.lt_trans h3 zB)))) wh
theorem Da{x:Fr}{r:Rat}(hF:Fits F w)(hG:JC F)(h:JM F x r)(hz:JL r<=100000000):Qe Tryz.prog 93 [x.v] w F (.bool (Jj r)):=by
 refine QS.intro (G:=λF=>JC F/\JM F x r) Tryz.func93 rfl wc rfl rfl hF (λF' hF'=>⟨hG.le hF',h.le hF'⟩)<|wI<|Qo rfl (vs:=[_,_,_,_]) rfl (λb1=>wH rfl<|wI<|QA (QH rfl Z1 Qd)<|QA (QJ (vs:=[_,_]) rfl Qd .here .h2 rfl)<|QI rfl (λw F hF h9=>kb (g:=x.n) hF h9.1 h9.2.1 (ab (Js r) hz)) (λ_=>wE rfl ?_))
 refine Q3 (t:=6) rfl (λhb6=>?_) (λhb6=>?_)
 ·
  refine Qc I I I<|Qc I I I<|Qc I I I<|QA (Qp I I I)<|wH I<|QY ?_
  exact QV () I (wB I) (congrArg ah (by unfold Jj;rw[hb6,Bool.true_or])) wh
 ·
  refine QM I I<|QA (QH I Z0 Qd)<|QM I I<|QA (QJ (vs:=[_,_]) I Qd .here (.skip (.skip .h2)) I)<|QM I I<|QI I (λw F hF h9=>kb (g:=x.d) hF h9.1.1 h9.1.2.2 (ab (Jo r) hz)) (λ_=>QA (Qj I I I)<|wH I<|QY ?_)
  exact QV () I (wB I) (congrArg ah (by unfold Jj;rw[hb6,fi])) wh
theorem IP(h:sz z<=k):(Zf z).length<=k+2:=by
 have h2:=DS z
 have h1:(ae z.natAbs).length<=k+1:=by
  rw[aP]
  exact YI (az h2 (ab (bF wa (show sz z<=k+1 by omega)) (eI wa _))) O
 by_cases hz:z<0
 ·rw[Kh hz,aD];omega
 ·rw[XV O];omega
theorem C9(n:Nat):Zf (n:Int)=ae n:=by rw[XV O];rfl
theorem Pf{x:Fr}{r:Rat}(hF:Fits F w)(hG:JC F)(h:JM F x r)(hz:JL r<=100000000):Qe Tryz.prog 134 [x.v] w F (tx (Je r)):=by
 have hl1:=IP (ab (Js r) hz)
 have hl2:=IP (ab (Jo r) hz)
 refine QS.intro (G:=λF=>JC F/\JM F x r) Tryz.func134 rfl wc rfl rfl hF (λF' hF'=>⟨hG.le hF',h.le hF'⟩)<|wI<|Qo rfl (vs:=[_,_,_,_]) rfl (λb1=>wH rfl<|QG<|wI<|QA (QJ (vs:=[_,_,_,_]) rfl QL .here .h4 rfl)<|QI rfl (λw F hF h9=>Mo (x:=x) (r:=r) hF ⟨h9.2.1,h9.2.2⟩) (λ_=>QE<|QC ?_))
 refine QR I (λhc=>?_) (λhc=>?_)
 ·
  refine wI<|QA (QH I Z1 Qd)<|QA (QJ (vs:=[_,_]) I Qd .here .h2 rfl)<|QI I (λw F hF h9=>EW (g:=x.n) hF h9.1.1 h9.1.2.1 (ab (Js r) hz)) (λ_=>wH I<|QY ?_)
  exact QV () I (wB I) (congrArg tx (by unfold Je;rw[if_pos (by simp at hc;omega)])) wh
 ·
  refine QQ<|QC<|QG<|JO wK mixed y0<|QK (QH I Z1 Qd)<|QK (QJ (vs:=[_,_]) I Qd .here .h2 rfl)<|QN I (λw F hF h9=>EW (g:=x.n) hF h9.1.1 h9.1.2.1 (ab (Js r) hz)) (λ_=>QK (KF I I wg)<|QK (QH I Z0 Qd)<|QK (QJ (vs:=[_,_]) I Qd .here (.skip (.skip .h2)) I)<|QN I (λw F hF h9=>EW (g:=x.d) hF h9.1.1.1 h9.1.1.2.2 (ab (Jo r) hz)) (λ_=>QK (KF I I wg)<|QK (QF I)<|Q6<|QC<|QY ?_))
  exact QV () I (wB I) (congrArg tx (by unfold Je;rw[if_neg (by simp at hc;omega),C9];simp)) wh
theorem Kr{r:Rat}(hF:Fits F w)(hG:JC F)(hs:s=Je r)(hl:s.length<=10000000):ZA Tryz.prog 87 [tx s] w F r:=by
 have hcut:=vj r
 rw[<-hs]at hcut
 refine QS.intro (G:=λF=>JC F) Tryz.func87 rfl wc rfl rfl hF (λF' hF'=>hG.le hF')<|wI<|Qb Ju (λb2=>wG<|wJ rfl<|QI rfl (λw F hF hGl=>QAi hF hGl O) (λ_=>?_))
 rw[hcut]
 refine wE I<|QA (QT I I)<|QA (QT I I)<|QA (QT I I)<|wF I<|wF I<|wH I<|QG<|wJ I<|QA (YN I)<|QE<|QC ?_
 refine QR I (λhc=>?_) (λhc=>?_)
 ·
  refine wJ I<|QI I (λw F hF h9=>Rk hF (by have h1:r.den=1:=(by by_cases h:r.den=1;exact h;rw[if_neg h]at hc;cases hc);rw[if_pos h1,Bq];exact Jv _) (by have h1:r.den=1:=(by by_cases h:r.den=1;exact h;rw[if_neg h]at hc;cases hc);rw[if_pos h1];have e:s=Zf r.num:=(by rw[hs];unfold Je;rw[if_pos h1]);rw[<-e];exact hl)) (λg15=>QI I (λw F hF h9=>EI hF h9.2) (λx16=>QO (vs:=[_,_,_,_]) I I I QL I .here .h4 wR<|wG<|QY ?_))
  exact QV (_) rfl (.JW (c:=[_,_,_,_]) I QL .here .nil) rfl (λF ⟨⟨⟨hGl,_⟩,h15⟩,⟨h16,h16_⟩⟩=>(by have h1:r.den=1:=(by by_cases h:r.den=1;exact h;rw[if_neg h]at hc;cases hc);have e:((r.num:Int):Rat)=r:=(by apply Rat.ext;rfl;simp[h1]);rw[if_pos h1]at h16 h16_;rw[K8]at h16 h16_;rw[e]at h16 h16_;exact⟨h16,h16_⟩))
 ·
  refine QQ<|QC<|wJ rfl<|QI rfl (λw F hF ⟨hGl,_⟩=>Rk hF (by have h1:¬r.den=1:=(by intro h;rw[if_pos h]at hc;cases hc);rw[if_neg h1,Bq];exact Jv _) (by have h1:¬r.den=1:=(by intro h;rw[if_pos h]at hc;cases hc);rw[if_neg h1];have e:s=Zf r.num++47::ae r.den:=(by rw[hs];unfold Je;rw[if_neg h1]);rw[e,au]at hl;show(Zf r.num).length<=_;omega)) (λg18=>wE rfl<|QI rfl (λw F hF ⟨⟨hGl,_⟩,h18⟩=>Rk hF (by have h1:¬r.den=1:=(by intro h;rw[if_pos h]at hc;cases hc);rw[if_neg h1];show X6 (ag (ae r.den) [45])=true;rw[VY (Jv _)];exact Jv _) (by have h1:¬r.den=1:=(by intro h;rw[if_pos h]at hc;cases hc);rw[if_neg h1];have e:s=Zf r.num++47::ae r.den:=(by rw[hs];unfold Je;rw[if_neg h1]);rw[e,au,aD]at hl;show(ae r.den).length<=_;omega)) (λg20=>QA (Qv I Me Ju (.cons (vs:=[_,_]) I I I .h2 (.cons (vs:=[_,_]) I I I (.skip (.skip .h2)) .nil)))<|QO (vs:=[_,_,_,_]) I I I QL I .here .h4 wR<|wG<|QY ?_))
  exact QV (⟨g18,g20⟩:Fr) rfl (.JW (c:=[_,_,_,_]) rfl QL .here .nil) rfl (λF ⟨⟨⟨hGl,_⟩,h18⟩,h20⟩=>(by have h1:¬r.den=1:=(by intro h;rw[if_pos h]at hc;cases hc);rw[if_neg h1]at h18 h20;rw[K8]at h18;have e:Yw (ae r.den)=(r.den:Int):=(by rw[YF (Jv _),Zh]);exact⟨h18,e ▸ h20⟩))
def Qy(F:Gs)(q:Option Addr)(n sz:Nat)(cs:List Value):Prop :=
 cs.length=n*sz/\(0<n->∃b off arr T,q=some ⟨b,off,none⟩/\F b=some (arr,T)/\∀j u,cs[j]?=some u->arr[off+j]?=some u)
theorem Qy.le{q:Option Addr}{sz:Nat}(h:Qy F q n sz cs)(k:Gs.le F F'):Qy F' q n sz cs :=
 ⟨h.1,λhn=>by obtain⟨b,off,arr,T,e1,e2,e3⟩:=h.2 hn;exact⟨b,off,arr,T,e1,k _ _ e2,e3⟩⟩
theorem Qy.of{sz:Nat}(h:F b=some (cs.toArray,T))(hl:cs.length=n*sz):Qy F (some ⟨b,0,none⟩) n sz cs :=
 ⟨hl,λ_=>⟨b,0,_,T,rfl,h,λj u hu=>by rw[aX];simpa using hu⟩⟩
theorem Qy.nil(F:Gs)(q:Option Addr)(sz:Nat):Qy F q 0 sz []:=⟨we,λh=>absurd h (Nat.lt_irrefl 0)⟩
theorem Qy.ptr{q:Option Addr}{sz:Nat}(h:Qy F q n sz cs)(hn:0<n):∃b off,q=some ⟨b,off,none⟩:=by
 obtain⟨b,off,_,_,e,_⟩:=h.2 hn;exact⟨b,off,e⟩
section
variable[Dr][df:Df]{P:Program}{Q:Exit->Act->World->Prop}{N:Nat}{m:Sl}{E E0:Env}{ops:Array Oper}{l:List Oper}{w0:World}{F0:Gs}{bs:List (Nat×Obj)}{G:Gs->Prop}
theorem GG(hw:St ⟨w0,F0,bs,G⟩ w){b off n sz j:Nat}{cs:List Value}{u:Value}(hr:∀F,G F->Qy F (some ⟨b,off,none⟩) n sz cs)(hn:0<n)(hu:cs[j]?=some u):w.cell? ⟨b,off+j,none⟩=some u:=by
 obtain⟨F,hw⟩:=hw
 obtain⟨b',off',arr,T,e,hF,ha⟩:=(hr F hw.hG).2 hn
 simp only[bJ,fb]at e
 obtain⟨rfl,rfl,_⟩:=e
 obtain⟨fr,e⟩:=hw.fits.row _ _ _ hF
 simp[eC,e,ha j u hu]
theorem Yg{ty:TypeId}{sz:Nat}{u:Value}(hx:ev m x=some (.pointer (some ⟨b,off+j,none⟩)))(ht:YW P T=some (false,k))(hr:∀F,G F->Qy F (some ⟨b,off,none⟩) n sz cs)(hn:0<n)(hu:cs[j]?=some u):
  Qt P N m (St ⟨w0,F0,bs,G⟩) (.load T x) ty u:=λa w _ _ _ _ ha hw=>by
 have hrun:=YE (P:=P) ht (GG hw hr hn hu)
 simp only[execOp,ha.ev hx,eM,eD,ee,eb,bj,hrun]
theorem jU{ty:TypeId}{sz:Nat}{vs:List Value}(hx:ev m x=some (.pointer (some ⟨b,off+j,none⟩)))(ht:YW P T=some (true,k))(hr:∀F,G F->Qy F (some ⟨b,off,none⟩) n sz cs)(hn:0<n)(hl:vs.length=k)(hu:∀i v,vs[i]?=some v->cs[j+i]?=some v):
  Qt P N m (St ⟨w0,F0,bs,G⟩) (.load T x) ty (.agg vs.toArray):=λa w _ _ _ _ ha hw=>by
 have hrun:=Ky (P:=P) ht hl (w:=w) (b:=b) (off:=off+j) (λi v hv=>by rw[eJ];exact GG hw hr hn (hu i v hv))
 simp only[execOp,ha.ev hx,eM,eD,ee,eb,bj,hrun]
theorem Qm{d:Nat}{ty:TypeId}{pos:String}{bs0:List (Nat×Obj)}{e:TypeId}{sz:Nat}{z:List Value}{g:Bool}{parts:Array (Nat×Operand)}{ps:List (Nat×Value)}(hp:GR m parts.toList=some ps)(ht:P.underlying t=some (.slice e))(hs:YW P e=some (g,sz))(hz:XC P e=some z)
  (hc:K2 sz 0 ps=some cs) (hl:cs.length=n*sz) (k:∀b,JD P ops Q ⟨w0,F0,bs0,G0⟩ l N ((d,.slice (some ⟨b,0,none⟩) n n)::m) ⟨w0,F0,bs,λF=>G F/\F b=some (cs.toArray,e)⟩) (hE:∀w,St ⟨w0,F0,bs,G⟩ w->St ⟨w0,F0,bs0,G0⟩ w) (h24:iO (n*sz) 16777216=true:=by rfl) (hn:Nat.beq (n*sz) 0=false:=by rfl)
  (hd:J5 N (some d)=true:=by rfl):JD P ops Q ⟨w0,F0,bs0,G0⟩ (⟨some d,.buildSlice t n parts,ty,pos,aft,none⟩::l) N m ⟨w0,F0,bs,G⟩:=λ_ a w ha hw=>by
 have hS:=hw.gJ cs.toArray e
 have sub:∀w' b,St ⟨w0,F0,bs,λF=>G F/\F b=some (cs.toArray,e)⟩ w'->St ⟨w0,F0,bs0,G0⟩ w':=λw' b h=>hE w' (h.BY λ_ h=>h.1)
 refine .inr ⟨rfl,?_⟩
 rw[if_pos (by simp[fc])]
 exact upon_value (VK ha hp ht hs hz hc hl h24 hn) ⟨sub _ _ hS,k _ (λw' h=>sub w' _ h) _ _ (ha.put hd _) hS⟩
end
section
variable[Dr][df:Df]{P:Program}{Q:Exit->Act->World->Prop}{N:Nat}{m:Sl}{E E0:Env}{ops:Array Oper}{l:List Oper}{ty:TypeId}{pos:String}{aft:Array Edge}{o:Op}{g t:Nat}{want:Bool}
theorem TC{a:Act}(ha:JP N m a){g t:Nat}(hg:(ops[g]?).bind (·.dst)=some t)(hb:look m t=some undef):yielded ops a.tmps g=none:=by
 unfold yielded
 rw[hg]
 have:=ha.get t _ hb
 simp[this,undef]
theorem J2{d:Nat}(hg:(ops[g]?).bind (·.dst)=some t)(hb:look m t=some undef)(hf:JS P ops Q l N ((d,undef)::m) E)(hd:J5 N (some d)=true:=by rfl):JS P ops Q (⟨some d,o,ty,pos,aft,some (g,want)⟩::l) N m E:=by
 intro a w ha hw
 unfold wpList
 have hy:=TC ha hg hb
 rw[if_neg (by simp[fc,hy])]
 exact hf _ w (ha.put hd undef) hw
end
def Qn:List Int->Int
 |[]=>0
 |x::l=>if x=0 then Qn l else x
theorem W8{l:List Int}(hi:i<l.length)(h:l[i]=0):Qn (l.drop i)=Qn (l.drop (i+1)):=by
 rw[aZ hi,Qn,if_pos h]
theorem D0{l:List Int}(hi:i<l.length)(h:l[i]≠0):Qn (l.drop i)=l[i]:=by
 rw[aZ hi,Qn,if_neg h]
def JY(x:Int):Value:=.int .i64 x
structure Sy(n:Nat)(p:Nat->Prop) where
 i:Nat
 le:i<=n
 h:p i
theorem RN{b:Bool}{e:Int}(hF:Fits F w):Qe Tryz.prog 204 [.bool b,.int .i64 e] w F (.int .i64 (if b=true then e else 0)):=by
 refine QS.intro (G:=λ_=>True) Tryz.func204 rfl wc rfl rfl hF wh<|wI<|wH rfl<|QG<|wJ rfl<|QE<|QC ?_
 refine QR I (λhc=>?_) (λhc=>?_)
 ·
  refine wJ I<|wH I<|QY ?_
  exact QV () I (wB I) (by rw[if_pos hc]) wh
 ·
  refine QQ<|QC<|wI<|wH I<|QY ?_
  exact QV () I (wB I) (by rw[if_neg (by rw[hc];decide)]) wh
theorem qQ{q:Option Addr}{c:Nat}{l:List Int}(hF:Fits F w)(hR:Qy F q n 1 (l.map JY))(hn:n<=1000000000):Qe Tryz.prog 293 [.slice q n c] w F (.int .i64 (Qn l)):=by
 have hln:l.length=n:=by have:=hR.1;simpa using this
 refine QS.intro (G:=λF=>Qy F q n 1 (l.map JY)) Tryz.func293 rfl wc rfl rfl hF (λF' hF'=>hR.le hF')<|wI<|wH rfl<|QG<|wJ rfl<|QA (Qh rfl ZG)<|wE rfl<|wG<|QU<|Zy (ι:=Sy n (λi=>Qn (l.drop i)=Qn l)) (λi=>[(5,.slice q n c),(6,.int .i64 n),(7,.int .i64 i.i)]) (λ_=>[]) (λ_ F=>Qy F q n 1 (l.map JY)) (λi=>n - i.i) ⟨0,bV _,rfl⟩ wQ wK wi (λi=>?_)
 have hle:=i.le
 refine wI<|QA (QZ I I I)<|wG<|QG ?_
 refine QR I (λhc=>?_) (λhc=>?_)
 ·
  have hi:i.i<n:=by simp at hc;omega
  have hil:i.i<l.length:=O
  refine XQ _ (λw F hF h=>h.ptr O) (λhq=>?_)
  obtain⟨qb,qo,rfl⟩:=hq
  refine QQ<|QC<|QG<|QU<|wI<|QA (JG I I ZG Yf hi)<|QA (Yg I Yf wi O (u:=.int .i64 l[i.i]) (by simp[hil,JY]))<|wH I<|wJ I<|QA (QZ I I I)<|QE<|QC ?_
  refine QR I (λhc=>?_) (λhc=>?_)
  ·
   refine wJ I<|wH I<|QY ?_
   repeat (first | refine JA ?_ | refine Q5 ?_)
   exact QV () I (wB I) (congrArg (ak .i64) (i.h.symm.trans (D0 hil (by simpa using hc)))) wh
  ·
   refine QQ<|Qk<|QC<|QB<|QA (Qu I I O)<|wE I<|QE ?_
   exact Ql (⟨i.i+1,O,by rw[<-W8 hil (by simpa using hc)];exact i.h⟩:Sy n (λi=>Qn (l.drop i)=Qn l)) (by show n - (i.i+1)<n - i.i;omega) wQ wK wi
 ·
  refine Qz ?_
  repeat (first | refine QW ?_ | refine QP wc ?_)
  refine QX<|QC<|wI<|wH I<|QY ?_
  exact QV () I (wB I) (by rw[<-i.h,fu (by simp at hc;omega)];rfl) wh
theorem zi(hi:i<s.length)(h:X6 (s.take i)=true)(hd:L1 s[i]=true):X6 (s.take (i+1))=true:=by
 rw[eN hi,Vh,h];simp[X6,hd]
theorem AG(hi:i<s.length)(hd:L1 s[i]=false):X6 s=false:=by
 cases h:X6 s with
 |false=>rfl
 |true=>rw[X6,im]at h;rw[h _ (ik hi)]at hd;cases hd
def Db(s:List UInt8):Bool:=X6 s&&!s.isEmpty
theorem vX(hF:Fits F w)(hl:s.length<=1000000000):Qe Tryz.prog 255 [tx s] w F (.bool (Db s)):=by
 refine QS.intro (G:=λ_=>True) Tryz.func255 rfl wc rfl rfl hF wh<|wI<|wH rfl<|QG<|wJ rfl<|QA (X7 rfl ZQ)<|wE rfl<|wG<|QU<|Zy (ι:=Sy s.length (λi=>X6 (s.take i)=true)) (λi=>[(0,tx s),(5,.int .i64 s.length),(6,.int .i64 i.i)]) (λ_=>[]) (λ_ _=>True) (λi=>s.length - i.i) ⟨0,bV _,rfl⟩ wQ wK wi (λi=>?_)
 have hle:=i.le
 refine wI<|QA (QZ I I I)<|wG<|QG ?_
 refine QR I (λhc=>?_) (λhc=>?_)
 ·
  have hi:i.i<s.length:=by simp at hc;omega
  refine QQ<|QC<|QG<|QU<|wJ I<|wH I<|wJ I<|wE I<|QA (Gc I I ZQ (hi))<|QA (QZ I I I)<|wE I ?_
  refine Q3 (t:=13) rfl (λhb13=>?_) (λhb13=>?_)
  ·
   refine Qc I I I<|Qc I I I<|Qc I I I<|Qc I I I<|QA (Qp I I I)<|QE<|QC ?_
   refine QR I (λhc=>?_) (λhc=>?_)
   ·
    refine wI<|wH I<|QY ?_
    repeat (first | refine JA ?_ | refine Q5 ?_)
    exact QV () I (wB I) (congrArg ah (by unfold Db;rw[AG hi (by have h1:=wM hb13;cases hd:L1 s[i.i]with | false=>rfl | true=>(have:=Kn.1 hd;omega))];rfl)) wh
   ·
    refine QQ<|Qk<|QC<|QB<|QA (Qu I I O)<|wE I<|QE ?_
    cases hc
  ·
   refine QM I I<|wE I<|QM I I<|wE I<|QM I I<|QA (Gc I I ZQ (hi))<|QM I I<|QA (QZ I I I)<|QA (Qj I I I)<|QE<|QC ?_
   refine QR I (λhc=>?_) (λhc=>?_)
   ·
    refine wI<|wH I<|QY ?_
    repeat (first | refine JA ?_ | refine Q5 ?_)
    exact QV () I (wB I) (congrArg ah (by unfold Db;rw[AG hi (by have h1:=wM hc;cases hd:L1 s[i.i]with | false=>rfl | true=>(have:=Kn.1 hd;omega))];rfl)) wh
   ·
    refine QQ<|Qk<|QC<|QB<|QA (Qu I I O)<|wE I<|QE ?_
    exact Ql (⟨i.i+1,O,zi hi i.h (Kn.2 (by have h1:=wN hb13;have h2:=wN hc;constructor<;>omega))⟩:Sy s.length (λi=>X6 (s.take i)=true)) (by show s.length - (i.i+1)<s.length - i.i;omega) wQ wK wi
 ·
  refine Qz ?_
  repeat (first | refine QW ?_ | refine QP wc ?_)
  refine QX<|QC<|wJ I<|QA (yf I I)<|wH I<|QY ?_
  exact QV () I (wB I) (congrArg ah (by have h1:=i.h;rw[ao (by simp at hc;omega)]at h1;unfold Db;rw[h1];cases s<;>rfl)) wh
theorem head_ne(h:0<s.length):((s[0].toNat:Int) != 48)=!(s.head?==some 48):=by
 cases s with
 |nil=>simp at h
 |cons c s =>
  simp only[fq,List.head?_cons]
  by_cases e:c=48
  ·subst e;rfl
  ·have e1:c.toNat≠48:=λh=>e (bT (by rw[h];rfl))
   have e2:((c.toNat:Int) != 48)=true:=by simp only[bne_iff_ne,ne_eq];omega
   have e3:(some c==some 48)=false:=by simp[e]
   rw[e2,e3];rfl
theorem LO(h:Db s=true):0<s.length:=by
 cases s with
 |nil=>cases h
 |cons=>simp
theorem SR(hF:Fits F w)(hl:s.length<=1000000000):Qe Tryz.prog 176 [tx s] w F (.bool (Xx s)):=by
 refine QS.intro (G:=λ_=>True) Tryz.func176 rfl wc rfl rfl hF wh<|wI<|wH rfl<|wJ rfl<|QI rfl (λw F hF _=>vX hF hl) (λ_=>wE rfl ?_)
 refine Q3 (t:=5) rfl (λhb5=>?_) (λhb5=>?_)
 ·
  refine QM I I<|wE I<|QM I I<|QA (Vr I I)<|QM I I<|wE I ?_
  refine Q3 (t:=8) rfl (λhb8=>?_) (λhb8=>?_)
  ·
   refine Qc I I I<|Qc I I I<|Qc I I I<|QM I I<|QA (Qp I I I)<|QA (Qp I I I)<|wH I<|QY ?_
   exact QV () I (wB I) (congrArg ah (by have h:=hb5;unfold Db at h;unfold Xx;rw[h,hb8];rfl)) wh
  ·
   refine QM I I<|wE I<|QM I I<|QA (Gc (i:=0) rfl rfl ZQ (LO hb5))<|QM I I<|QA (QZ I I I)<|QM I I<|QA (Qj I I I)<|QA (Qp I I I)<|wH I<|QY ?_
   exact QV () I (wB I) (congrArg ah (by have h:=hb5;unfold Db at h;unfold Xx;rw[h,hb8,head_ne (LO hb5)];rfl)) wh
 ·
  refine Qc I I I<|Qc I I I<|Qc I I I<|J2 I I<|J2 I I<|J2 I I<|Qc I I I<|QA (Qj I I I)<|wH I<|QY ?_
  exact QV () I (wB I) (congrArg ah (by have h:=hb5;unfold Db at h;unfold Xx;rw[h];rfl)) wh
def CZ(size d:List UInt8)(neg fr:Bool):Bool:=!Xx size||(neg&&size==[48])||(fr&&(!Xx d||d==[48]||d==[49]))
def DP(n d:List UInt8)(fr:Bool):Int :=
 if CZ (ag n [45]) d (ar n [45]) fr=true then 1
 else if(decide (600<(ag n [45]).length)||decide (600<d.length))=true then 4
 else if(fr&&!(iN (JJ (ag n [45])) (JJ d)==1))=true then 1 else 0
def Jw(s:List UInt8):Int:=DP (YO 47 s).1 (YO 47 s).2.1 (YO 47 s).2.2
theorem vo(c:UInt8)(s:List UInt8):(YO c s).1.length<=s.length/\(YO c s).2.1.length<=s.length:=by
 have h:=WR (· != c) s
 have h1:=congrArg eV h.1
 have h2:=congrArg eV h.2
 simp at h1 h2
 unfold YO
 split
 ·refine⟨?_,?_⟩
  ·show(s.takeWhile (· != c)).length<=_
   exact(List.takeWhile_sublist _).length_le
  ·show((s.dropWhile (· != c)).drop 1).length<=_
   rw[aW]
   have:=(List.dropWhile_sublist (l:=s) (· != c)).length_le
   omega
 ·exact⟨aF _,we⟩
theorem Wa(h:Xx s=true):X6 s=true:=by
 simp only[Xx,aw]at h;exact h.1.1
theorem Ta(s p:List UInt8):(ag s p).length<=s.length:=by unfold ag;split<;>simp
theorem Dg(hF:Fits F w)(hG:JC F)(hl:s.length<=1000000):Qe Tryz.prog 86 [tx s] w F (.int .i64 (Jw s)):=by
 have hcl:=vo 47 s
 unfold Jw
 refine QS.intro (G:=λF=>JC F) Tryz.func86 rfl wc rfl rfl hF (λF' hF'=>hG.le hF')<|wI<|wH rfl<|wJ rfl<|QI rfl (λw F hF hGl=>QAi hF hGl O) (λ_=>?_)
 rw[vm]
 generalize YO 47 s=cp at hcl ⊢
 obtain⟨n,d,fr⟩:=cp
 dsimp only at hcl ⊢
 have htl:=Ta n [45]
 refine wE I<|QA (QT I I)<|QA (QT I I)<|QA (QT I I)<|wF I<|wF I<|wH I<|wJ I<|QI I (λw F hF h9=>LQ hF ) (λ_=>wE I<|QA (QT I I)<|QA (QT I I)<|wF I<|wH I<|QG ?_)
 refine MJ 46 (.bool (CZ (ag n [45]) d (ar n [45]) fr)) ?_ ?_
 ·
  refine QB<|wE I<|QI I (λw F hF h9=>SR hF O) (λ_=>QA (YN I)<|wE I ?_)
  refine Q3 (t:=24) rfl (λhb24=>?_) (λhb24=>?_)
  ·
   refine Qc I I I<|Qc I I I<|J2 I I<|J2 I I<|Qc I I I<|QA (Qp I I I)<|wE I<|Qc I I I<|Qc I I I<|J2 I I<|J2 I I<|J2 I I<|J2 I I<|J2 I I<|J2 I I<|J2 I I<|J2 I I<|J2 I I<|J2 I I<|J2 I I<|Qc I I I<|QA (Qp I I I)<|QE ?_
   exact Zb (exd 27 rfl rfl) (congrArg (λb=>some (ah b)) (by rw[aq];simp_all [CZ])) wK wj
  ·
   refine QM I I<|wE I<|QM I I<|wE I ?_
   refine Q3 (t:=26) rfl (λhb26=>?_) (λhb26=>?_)
   ·
    refine QM I I<|wE I<|QM I I<|QA (Vr I I)<|QM I I<|QA (Qp I I I)<|QA (Qj I I I)<|wE I ?_
    refine Q3 (t:=31) rfl (λhb31=>?_) (λhb31=>?_)
    ·
     refine Qc I I I<|Qc I I I<|J2 I I<|J2 I I<|J2 I I<|J2 I I<|J2 I I<|J2 I I<|J2 I I<|J2 I I<|J2 I I<|J2 I I<|J2 I I<|Qc I I I<|QA (Qp I I I)<|QE ?_
     exact Zb (exd 29 rfl rfl) (congrArg (λb=>some (ah b)) (by rw[aq];simp_all [CZ])) wK wj
    ·
     refine QM I I<|wE I<|QM I I<|wE I ?_
     refine Q3 (t:=33) rfl (λhb33=>?_) (λhb33=>?_)
     ·
      refine QM I I<|wE I<|QM I I<|QI I (λw F hF h9=>SR hF O) (λ_=>QM I I<|QA (YN I)<|QM I I<|wE I ?_)
      refine Q3 (t:=37) rfl (λhb37=>?_) (λhb37=>?_)
      ·
       refine Qc I I I<|Qc I I I<|QM I I<|QA (Qp I I I)<|QM I I<|wE I<|Qc I I I<|Qc I I I<|QM I I<|QA (Qp I I I)<|QM I I<|QA (Qp I I I)<|QA (Qj I I I)<|QE ?_
       exact Zb (exd 31 rfl rfl) (congrArg (λb=>some (ah b)) (by rw[aq];simp_all [CZ])) wK (λ_ h=>h.1.1)
      ·
       refine QM I I<|wE I<|QM I I<|QA (Vr I I)<|QM I I<|QA (Qj I I I)<|QM I I<|wE I ?_
       refine Q3 (t:=41) rfl (λhb41=>?_) (λhb41=>?_)
       ·
        refine Qc I I I<|Qc I I I<|QM I I<|QA (Qp I I I)<|QM I I<|QA (Qp I I I)<|QA (Qj I I I)<|QE ?_
        exact Zb (exd 32 rfl rfl) (congrArg (λb=>some (ah b)) (by rw[aq];simp_all [CZ])) wK (λ_ h=>h.1.1)
       ·
        refine QM I I<|wE I<|QM I I<|QA (Vr I I)<|QM I I<|QA (Qj I I I)<|QM I I<|QA (Qp I I I)<|QA (Qj I I I)<|QE ?_
        exact Zb (exd 32 rfl rfl) (congrArg (λb=>some (ah b)) (by rw[aq];simp_all [CZ])) wK (λ_ h=>h.1.1)
     ·
      refine Qc I I I<|Qc I I I<|Qc I I I<|Qc I I I<|J2 I I<|J2 I I<|Qc I I I<|Qc I I I<|J2 I I<|J2 I I<|Qc I I I<|QM I I<|QA (Qj I I I)<|QA (Qj I I I)<|QE ?_
      exact Zb (exd 30 rfl rfl) (congrArg (λb=>some (ah b)) (by rw[aq];simp_all [CZ])) wK wj
   ·
    refine Qc I I I<|Qc I I I<|QM I I<|QA (Qj I I I)<|QA (Qj I I I)<|wE I<|QM I I<|wE I<|QM I I<|wE I ?_
    refine Q3 (t:=33) rfl (λhb33=>?_) (λhb33=>?_)
    ·
     refine QM I I<|wE I<|QM I I<|QI I (λw F hF h9=>SR hF O) (λ_=>QM I I<|QA (YN I)<|QM I I<|wE I ?_)
     refine Q3 (t:=37) rfl (λhb37=>?_) (λhb37=>?_)
     ·
      refine Qc I I I<|Qc I I I<|QM I I<|QA (Qp I I I)<|QM I I<|wE I<|Qc I I I<|Qc I I I<|QM I I<|QA (Qp I I I)<|QM I I<|QA (Qp I I I)<|QA (Qj I I I)<|QE ?_
      exact Zb (exd 30 rfl rfl) (congrArg (λb=>some (ah b)) (by rw[aq];simp_all [CZ])) wK (λ_ h=>h.1.1)
     ·
      refine QM I I<|wE I<|QM I I<|QA (Vr I I)<|QM I I<|QA (Qj I I I)<|QM I I<|wE I ?_
      refine Q3 (t:=41) rfl (λhb41=>?_) (λhb41=>?_)
      ·
       refine Qc I I I<|Qc I I I<|QM I I<|QA (Qp I I I)<|QM I I<|QA (Qp I I I)<|QA (Qj I I I)<|QE ?_
       exact Zb (exd 31 rfl rfl) (congrArg (λb=>some (ah b)) (by rw[aq];simp_all [CZ])) wK (λ_ h=>h.1.1)
      ·
       refine QM I I<|wE I<|QM I I<|QA (Vr I I)<|QM I I<|QA (Qj I I I)<|QM I I<|QA (Qp I I I)<|QA (Qj I I I)<|QE ?_
       exact Zb (exd 31 rfl rfl) (congrArg (λb=>some (ah b)) (by rw[aq];simp_all [CZ])) wK (λ_ h=>h.1.1)
    ·
     refine Qc I I I<|Qc I I I<|Qc I I I<|Qc I I I<|J2 I I<|J2 I I<|Qc I I I<|Qc I I I<|J2 I I<|J2 I I<|Qc I I I<|QM I I<|QA (Qj I I I)<|QA (Qj I I I)<|QE ?_
     exact Zb (exd 29 rfl rfl) (congrArg (λb=>some (ah b)) (by rw[aq];simp_all [CZ])) wK wj
 ·
  refine QR I (λhc46=>?_) (λhc46=>?_)
  ·
   refine wI<|wH I<|QY ?_
   exact QV () I (wB I) (congrArg (ak .i64) (by unfold DP;rw[if_pos hc46])) wh
  ·
   refine QQ<|QC<|QG ?_
   refine MJ 54 (.bool (decide (600<(ag n [45]).length)||decide (600<d.length))) ?_ ?_
   ·
    refine QB<|wE I<|QA (X7 I ZQ)<|QA (QZ I I I)<|wE I ?_
    refine Q3 (t:=50) rfl (λhb50=>?_) (λhb50=>?_)
    ·
     refine Qc I I I<|Qc I I I<|Qc I I I<|QA (Qp I I I)<|QE ?_
     exact Zb (exd 9 rfl rfl) (congrArg (λb=>some (ah b)) (by simp at *;first | omega | (rw[aq];simp;omega))) wK wi
    ·
     refine QM I I<|wE I<|QM I I<|QA (X7 I ZQ)<|QM I I<|QA (QZ I I I)<|QA (Qj I I I)<|QE ?_
     exact Zb (exd 9 rfl rfl) (congrArg (λb=>some (ah b)) (by simp at *;first | omega | (rw[aq];simp;omega))) wK wi
   ·
    refine QR I (λhc54=>?_) (λhc54=>?_)
    ·
     refine wI<|wH I<|QY ?_
     exact QV () I (wB I) (congrArg (ak .i64) (by unfold DP;rw[if_neg (by rw[hc46];decide),if_pos hc54])) wh
    ·
     refine QQ<|QC<|QG<|wJ I<|QE<|QC ?_
     refine QR I (λhc55=>?_) (λhc55=>?_)
     ·
      have hl54:(ag n [45]).length<=600/\d.length<=600:=by simp at hc54;omega
      have hwh:Xx (ag n [45])=true/\Xx d=true:=by
       subst hc55
       simp only[CZ,bD,fh,eK]at hc46
       exact⟨hc46.1.1,hc46.2.1.1⟩
      have hsa:=Wa hwh.1
      have hda:=Wa hwh.2
      have hz1:=EP hsa
      have hz2:=EP hda
      refine wJ I<|QI I (λw F hF h9=>Rk hF (by rw[VY hsa];exact hsa) O) (λg58=>wE I<|QI I (λw F hF h9=>Rk hF (by rw[VY hda];exact hda) O) (λg60=>QI I (λw F hF h9=>QAa hF h9.1.2 h9.2 (by rw[YF hsa];omega) (by rw[YF hda];omega)) (λg61=>QI I (λw F hF ⟨⟨⟨⟨⟨hGl,_⟩,_⟩,h58⟩,h60⟩,h61⟩=>dw hF (by assumption)) (λc62=>JQ _ (λw F hF h=>h.2) (λhsm=>?_)))))
      rw[YF hsa,YF hda,Int.gcd_natCast_natCast]at hsm
      refine wE I<|QA (QT I I)<|QA (QT I I)<|wF I<|wF I<|QE<|QC ?_
      refine MJ 70 (.bool (!(iN (JJ (ag n [45])) (JJ d)==1))) ?_ ?_
      ·
       refine QB<|wE I<|QA (YN I)<|wE I ?_
       refine Q3 (t:=67) rfl (λhb67=>?_) (λhb67=>?_)
       ·
        refine Qc I I I<|Qc I I I<|QA (Qp I I I)<|QE ?_
        exact Zb (exd 7 rfl rfl) (congrArg (λb=>some (ah b)) (by rcases hsm with ⟨e1,e2,e3⟩ | ⟨e1,e2⟩<;>rw[aq]<;>simp_all<;>omega)) wK wi
       ·
        refine QM I I<|wE I<|QM I I<|QA (QZ I I I)<|QA (Qj I I I)<|QE ?_
        exact Zb (exd 7 rfl rfl) (congrArg (λb=>some (ah b)) (by rcases hsm with ⟨e1,e2,e3⟩ | ⟨e1,e2⟩<;>rw[aq]<;>simp_all<;>omega)) wK wi
      ·
       refine QR I (λhc70=>?_) (λhc70=>?_)
       ·
        refine wI<|wH I<|QY ?_
        exact QV () I (wB I) (congrArg (ak .i64) (by unfold DP;rw[if_neg (by rw[hc46];decide),if_neg (by rw[hc54];decide),if_pos (by rw[hc55,hc70];rfl)])) wh
       ·
        refine QQ<|QC<|wI<|wH I<|QY ?_
        exact QV () I (wB I) (congrArg (ak .i64) (by unfold DP;rw[if_neg (by rw[hc46];decide),if_neg (by rw[hc54];decide),if_neg (by rw[hc55,hc70];decide)])) wh
     ·
      refine QQ<|QC<|wI<|wH I<|QY ?_
      exact QV () I (wB I) (congrArg (ak .i64) (by unfold DP;rw[if_neg (by rw[hc46];decide),if_neg (by rw[hc54];decide),if_neg (by rw[hc55];simp)])) wh
def Qs(s:List UInt8):Rat:=if(YO 47 s).2.2=true then mkRat (Yw (YO 47 s).1) (JJ (YO 47 s).2.1)else((Yw (YO 47 s).1:Int):Rat)
theorem NF(h:c∈s):∃r,s.dropWhile (· != c)=c::r:=by
 induction s with
 |nil=>cases h
 |cons b s ih =>
  simp only[fL]
  by_cases e:b=c
  ·subst e;exact⟨s,we⟩
  ·have h1:(b != c)=true:=by simp[e]
   rw[if_pos h1]
   exact ih (by rcases List.mem_cons.1 h with h | h;exact absurd h.symm e;exact h)
theorem j8(c:UInt8)(s:List UInt8):((YO c s).2.2=true->s=(YO c s).1++c::(YO c s).2.1)/\((YO c s).2.2=false->s=(YO c s).1/\(YO c s).2.1=[]):=by
 unfold YO
 by_cases h:s.contains c=true
 ·rw[if_pos h]
  refine⟨λ_=>?_,λe=>(by cases e)⟩
  obtain⟨r,hr⟩:=NF (c:=c) (s:=s) (by simpa using h)
  have hh:s.dropWhile (· != c)=c::(s.dropWhile (· != c)).drop 1:=by rw[hr];rfl
  show s=s.takeWhile (· != c)++c::(s.dropWhile (· != c)).drop 1
  rw[<-hh,List.takeWhile_append_dropWhile]
 ·rw[if_neg h]
  exact⟨λe=>(by cases e),λ_=>⟨rfl,rfl⟩⟩
theorem TX(h:Xx l=true)(h0:l≠[48]):0<JJ l:=by
 simp only[Xx,aw,iB,beq_iff_eq,ij,ff]at h
 rcases h.2 with h1 | h1
 ·exact absurd h1 h0
 ·exact(E8 h.1.1 h.1.2 (by simpa using h1)).2
theorem qz(h:Xx l=true)(h0:l≠[48])(h1:l≠[49]):2<=JJ l:=by
 have hp:=TX h h0
 have hd:=E9 h
 rcases aY (JJ l) 2 with g | g
 ·have:JJ l=1:=O
  rw[this]at hd
  exact absurd (hd.symm.trans (by rw[ae];rfl)) h1
 ·exact g
theorem pS{n:List UInt8}(h:Xx (ag n [45])=true)(h0:(ar n [45]&&ag n [45]==[48])=false):Zf (Yw n)=n/\(Yw n).natAbs=JJ (ag n [45]):=by
 unfold Yw
 by_cases hp:ar n [45]=true
 ·have hn:n=45::n.drop 1:=by
   cases n with
   |nil=>cases hp
   |cons c r =>
    have h45:(45==c)=true:=by simpa[ar,bK]using hp
    have:45=c:=by simpa using h45
    rw[<-this];rfl
  have ht:ag n [45]=n.drop 1:=by unfold ag;rw[if_pos hp];rfl
  rw[ht]at h h0 ⊢
  rw[hp,fh]at h0
  have hpos:=TX h (by simpa using h0)
  rw[if_pos hp]
  refine⟨?_,O⟩
  rw[Kh O,show(-(JJ (n.drop 1):Int)).natAbs=JJ (n.drop 1) by omega,E9 h,<-hn]
 ·have ht:ag n [45]=n:=by unfold ag;rw[if_neg hp]
  rw[ht]at h ⊢
  rw[if_neg hp]
  refine⟨?_,O⟩
  rw[XV O,show((JJ n:Nat):Int).natAbs=JJ n by omega,E9 h]
theorem F5(h:X6 l=true)(hl:l.length<=600):JJ l<lim:=by
 have h1:=Gb h
 have h2:10^l.length<=lim:=by have key:∀k,l.length<=k->10^l.length<=10^k:=λk h=>bF wa h;unfold lim;exact key 600 hl
 omega
theorem XT(h:Jw s=0):s=Je (Qs s)/\Jj (Qs s)=false:=by
 unfold Jw at h
 have hj:=j8 47 s
 unfold Qs
 generalize YO 47 s=c at h hj ⊢
 obtain⟨n,d,fr⟩:=c
 dsimp only at h hj ⊢
 unfold DP at h
 split at h
 ·cases h
 rename_i h1
 split at h
 ·cases h
 rename_i h2
 split at h
 ·cases h
 rename_i h3
 have h1':=eq_false_of_ne_true h1
 simp only[CZ,bD,eK]at h1'
 obtain⟨⟨hw,hz⟩,hf⟩:=h1'
 have hsa:=Wa hw
 have hl:(ag n [45]).length<=600/\d.length<=600:=by simp at h2;omega
 obtain⟨hn1,hn2⟩:=pS hw hz
 have hlim:=F5 hsa hl.1
 cases fr with
 |false =>
  rw[if_neg wa]
  obtain⟨hs,_⟩:=hj.2 rfl
  refine⟨?_,?_⟩
  ·unfold Je
   rw[ek,if_pos rfl,ei,hn1];exact hs
  ·unfold Jj S9
   rw[ei,ek,hn2]
   rw[decide_eq_false O,fi]
   refine decide_eq_false ?_
   have:((1:Nat):Int).natAbs<lim:=wb
   omega
 |true =>
  rw[if_pos rfl]
  simp only[fh,bD,eK]at hf
  obtain⟨⟨hwd,hd0⟩,hd1⟩:=hf
  have hd2:=qz hwd (by simpa using hd0) (by simpa using hd1)
  have hda:=Wa hwd
  have hg:iN (JJ (ag n [45])) (JJ d)=1:=by simpa using h3
  have hco:Nat.Coprime (Yw n).natAbs (JJ d):=by rw[hn2];exact hg
  have hmk:=Rat.mk_eq_mkRat (Yw n) (JJ d) O hco
  rw[<-hmk]
  refine⟨?_,?_⟩
  ·unfold Je
   show s=if JJ d=1 then _ else Zf (Yw n)++47::ae (JJ d)
   rw[if_neg O,hn1,E9 hwd];exact hj.1 I
  ·unfold Jj S9
   show(decide (lim<=(Yw n).natAbs)||decide (lim<=((JJ d:Nat):Int).natAbs))=false
   have:=F5 hda hl.2
   rw[hn2,decide_eq_false O,decide_eq_false O];rfl
theorem Gy{r:Rat}(h:Jj r=false):JL r<=2400:=by
 unfold Jj S9 at h
 rw[bD]at h
 have h1:=wN h.1
 have h2:=wN h.2
 have e:lim<=2^2400:=by
  decide +kernel
 unfold JL
 have a:=(XL r.num 2400).2 (az (ix h1) e)
 have b:=(XL (r.den:Int) 2400).2 (az (ix h2) e)
 omega
theorem Yy(h:Jw s=0):JL (Qs s)<=2400:=Gy (XT h).2
theorem Kb.all{l vs:List Value}(h:vs.length=l.length):Kb l 0 vs vs:=by
 induction vs generalizing l with
 |nil=>cases l with | nil=>exact .nil | cons=>simp at h
 |cons v vs ih =>
  cases l with
  |nil=>simp at h
  |cons x l=>exact .here (ih (by simpa using h))
theorem N1.all:∀l:List Value,N1 l 0 l
 |[]=>.nil
 |_::l=>.here (N1.all l)
theorem jz{q:Option Addr}{c f:Nat}{vs:Nat->Value}{es:List Int}{c1 c2:List Value}(hF:Fits F w)(hg:∀F F',Gs.le F F'->G0 F->G0 F')(h0:G0 F)(hR:Qy F q n 1 cs)(hn:es.length=n)(hb:n<=1000000000)
  (hv:∀i,i<n->cs[i*1]?=some (vs i)) (hc:∀i (hi:i<es.length) w F,Fits F w->G0 F->Qe Tryz.prog f (c1++[vs i]++c2) w F (.int .i64 es[i])) :
  Qe Tryz.prog 274 [.slice q n c,.func (.func f) c1.toArray c2.toArray] w F (.int .i64 (Qn es)):=by
 refine QS.intro (G:=λF=>G0 F/\Qy F q n 1 cs) Tryz.func274 rfl wc rfl rfl hF (λF' hF'=>⟨hg F F' hF' h0,hR.le hF'⟩)<|wI<|wH rfl<|QG<|wJ rfl<|QA (Qh rfl Yj)<|wE rfl<|wG<|QU<|Zy (ι:=Sy n (λi=>Qn (es.drop i)=Qn es)) (λi=>[(1,.func (.func f) c1.toArray c2.toArray),(8,.slice q n c),(9,.int .i64 n),(10,.int .i64 i.i)]) (λ_=>[]) (λ_ F=>G0 F/\Qy F q n 1 cs) (λi=>n - i.i) ⟨0,bV _,rfl⟩ wR wK wi (λi=>?_)
 have hle:=i.le
 refine wI<|QA (QZ I I I)<|wG<|QG ?_
 refine QR I (λhc1=>?_) (λhc1=>?_)
 ·
  have hi:i.i<n:=by simp at hc1;omega
  have hil:i.i<es.length:=O
  refine XQ _ (λw F hF h=>h.2.ptr O) (λhq=>?_)
  obtain⟨qb,qo,rfl⟩:=hq
  refine QQ<|QC<|QG<|QU<|wI<|QA (JG I I Yj XA hi)<|QA (Yg I XA wk O (hv i.i hi))<|wH I<|wJ I<|wE I<|Gu I I (λw F hF h=>hc i.i hil w F hF h.1) (λ_=>wH I<|wJ I<|QA (QZ I I I)<|QE<|QC ?_)
  refine QR I (λhc1=>?_) (λhc1=>?_)
  ·
   refine wJ I<|wH I<|QY ?_
   repeat (first | refine JA ?_ | refine Q5 ?_)
   exact QV () I (wB I) (congrArg (ak .i64) (i.h.symm.trans (D0 hil (by simpa using hc1)))) wh
  ·
   refine QQ<|Qk<|QC<|QB<|QA (Qu I I O)<|wE I<|QE ?_
   exact Ql (⟨i.i+1,O,by rw[<-W8 hil (by simpa using hc1)];exact i.h⟩:Sy n (λi=>Qn (es.drop i)=Qn es)) (by show n - (i.i+1)<n - i.i;omega) wR wK wj
 ·
  refine Qz ?_
  repeat (first | refine QW ?_ | refine QP wc ?_)
  refine QX<|QC<|wI<|wH I<|QY ?_
  exact QV () I (wB I) (by rw[<-i.h,fu (by simp at hc1;omega)];rfl) wh
theorem gG{q:Option Addr}{c:Nat}{l:List (List UInt8)}(hF:Fits F w)(hG:JC F)(hR:Qy F q n 1 (l.map tx))(hl:n<=1000000/\∀s∈l,s.length<=1000000):Qe Tryz.prog 203 [.slice q n c] w F (.int .i64 (Qn (l.map Jw))):=by
 have hln:l.length=n:=by have:=hR.1;simpa using this
 refine QS.intro (G:=λF=>JC F/\Qy F q n 1 (l.map tx)) Tryz.func203 rfl wc rfl rfl hF (λF' hF'=>⟨hG.le hF',hR.le hF'⟩)<|wI<|wH rfl<|wI<|wE rfl ?_
 refine QI I (λw F hF ⟨hGl,hR⟩=>jz (c1:=[]) (c2:=[]) (vs:=λi=>tx (l.getD i [])) (es:=l.map Jw) (G0:=JC) hF (λ_ _ h k=>k.le h) hGl hR (by simpa using hln) O (λi hi=>by
  have:i<l.length:=O
  simp[this]) (λi hi w F hF hG=>by
  have hi':i<l.length:=by simpa using hi
  have e:l.getD i []=l[i]:=by simp[hi']
  have:=Dg hF hG (hl.2 l[i] (ik hi'))
  rw[List.getElem_map]
  show Qe _ _ [tx (l.getD i [])] _ _ _
  rw[e];exact this)) (λc4=>?_)
 refine wH I<|QY ?_
 exact QV () I (wB I) rfl wh
def QEh(r:Rat):List UInt8×Int:=if Jj r=true then([],4)else(Je r,0)
def QEx(b:Int):Int:=if b<0\/b>64 then 3 else 0
theorem SP{b:Int}(h:Qn [a,b]=0):a=0/\b=0:=by
 simp only[Qn]at h
 by_cases h1:a=0
 ·rw[if_pos h1]at h
  by_cases h2:b=0
  ·exact⟨h1,h2⟩
  ·rw[if_neg h2]at h;exact absurd h h2
 ·rw[if_neg h1]at h;exact absurd h h1
theorem QFn{b:Int}(h:QEx b=0):0<=b/\b<=64:=by unfold QEx at h;split at h<;>omega
def two(b:Int):Int:=2^b.toNat
theorem zt{b:Int}(h1:b<=64):sz (two b)<=129:=by
 have:=Di 2 b.toNat;have e:sz 2=2:=wa;rw[e]at this;unfold two;omega
theorem Un(b:Int):two b≠0:=Int.ne_of_gt (Int.pow_pos wa)
theorem zk{n b:Int}(h:sz n<=k)(h1:b<=64):JL (aC n (two b))<=max k 129:=by
 have:=VJ (a:=n) (Un b)
 have:=zt h1
 omega
def ZH(lo hi:List UInt8):Int:=if Qn [Jw lo,Jw hi]=0 then(if Ks (Qs lo) (Qs hi)>0 then 11 else 0)else Qn [Jw lo,Jw hi]
theorem VO{lo hi:List UInt8}(h:ZH lo hi=0):Jw lo=0/\Jw hi=0/\¬Ks (Qs lo) (Qs hi)>0:=by
 unfold ZH at h
 split at h
 ·rename_i h0
  have:=SP h0
  refine⟨this.1,this.2,?_⟩
  split at h
  ·cases h
  ·assumption
 ·rename_i h0;exact absurd h h0
theorem GF{lo hi:List UInt8}(hF:Fits F w)(hG:JC F)(hl:lo.length<=1000000/\hi.length<=1000000):Qe Tryz.prog 108 [.agg #[tx lo,tx hi]] w F (.int .i64 (ZH lo hi)):=by
 refine QS.intro (G:=λF=>JC F) Tryz.func108 rfl wc rfl rfl hF (λF' hF'=>hG.le hF')<|wI<|Qo rfl (vs:=[_,_]) rfl (λb1=>wH rfl<|QG<|wI<|QA (QH rfl O8 XA)<|QA (Qg rfl XA .here .h1)<|QA (QH rfl O7 XA)<|QA (Qg rfl XA .here (.skip .h1))<|Qa rfl (Qw Yj) XA Lz rfl rfl (λb8=>QI rfl (λw F hF ⟨hGl,hs8⟩=>gG (l:=[lo,hi]) hF hGl (Qy.of (cs:=List.map tx [lo,hi]) hs8 rfl) ⟨wa,λs hs=>by simp at hs;rcases hs with rfl | rfl;exact hl.1;exact hl.2⟩) (λ_=>wH I<|wJ I<|QA (QZ I I I)<|QE<|QC ?_)))
 refine QR I (λhc=>?_) (λhc=>?_)
 ·
  refine wJ I<|wH I<|QY ?_
  exact QV () I (wB I) (by unfold ZH;rw[if_neg (by simpa using hc)];rfl) wh
 ·
  have h0:Qn [Jw lo,Jw hi]=0:=by simpa using hc
  have h1:=SP h0
  have hz1:=Yy h1.1
  have hz2:=Yy h1.2
  refine QQ<|QC<|QG<|JO wK mixed y0<|QK (QH I O8 XA)<|QK (Qg I XA .here .h1)<|QN I (λw F hF h9=>Kr hF h9.1.1 (XT h1.1).1 O) (λx15=>QK (QH I O7 XA)<|QK (Qg I XA .here (.skip .h1))<|QN I (λw F hF h9=>Kr hF h9.1.1.1 (XT h1.2).1 O) (λx18=>QN I (λw F hF h9=>Hb (r:=Qs lo) (s:=Qs hi) hF ⟨h9.1.2.1,h9.1.2.2⟩ ⟨h9.2.1,h9.2.2⟩ O O) (λ_=>QK (QZ I I I)<|QN I (λw F hF h9=>RN hF ) (λ_=>QK (QF I)<|Q6<|QC<|QY ?_))))
  exact QV () I (wB I) (congrArg (ak .i64) (by unfold ZH;rw[if_pos h0];simp)) wh
structure Sp where
 lo:Fr
 hi:Fr
@[reducible] def Sp.v (x:Sp):Value:=.agg #[.int .i64 x.lo.n.s,.slice x.lo.n.q x.lo.n.n x.lo.n.cap,.int .i64 x.lo.d.s,.slice x.lo.d.q x.lo.d.n x.lo.d.cap,.int .i64 x.hi.n.s,.slice x.hi.n.q x.hi.n.n x.hi.n.cap,.int .i64 x.hi.d.s,.slice x.hi.d.q x.hi.d.n x.hi.d.cap]
def Jk(F:Gs)(x:Sp)(r:Rat×Rat):Prop:=JM F x.lo r.1/\JM F x.hi r.2
theorem Jk.le{x:Sp}{r:Rat×Rat}(h:Jk F x r)(k:Gs.le F F'):Jk F' x r:=⟨h.1.le k,h.2.le k⟩
abbrev Xp(P:Program)(f:FuncId)(args:List Value)(w:World)(F:Gs)(r:Rat×Rat):Prop:=QS P f args w F Sp.v (λx F=>Jk F x r)
def QHT(r:Rat×Rat):(List UInt8×List UInt8)×Int:=if(Jj r.1||Jj r.2)=true then(([],[]),4)else((Je r.1,Je r.2),0)
def YH(r:Rat×Rat)(b:Int):Rat×Rat:=(aC (r.1*((two b:Int):Rat)).floor (two b),aC (-(-(r.2*((two b:Int):Rat))).floor) (two b))
def Xc(s:Rat×Rat)(x:Rat):Rat×Rat:=(if Ks x s.1<0 then x else s.1,if Ks x s.2>0 then x else s.2)
def KW(r:Rat)(l:List Rat):Rat×Rat:=l.foldl Xc (r,r)
def Ku(x:Fr):List Value:=[.int .i64 x.n.s,.slice x.n.q x.n.n x.n.cap,.int .i64 x.d.s,.slice x.d.q x.d.n x.d.cap]
theorem qP{f:α->List Value}(hf:∀x,(f x).length=k):∀(l:List α) (i j:Nat) (h:i<l.length),j<k->(l.flatMap f)[i*k+j]?=(f l[i])[j]?
 |[],_,_,h,_=>by simp at h
 |x::l,0,j,_,hj=>by
  rw[eO,fA,aX,bB,if_pos (by rw[hf];exact hj)];rfl
 |x::l,i+1,j,h,hj=>by
  rw[eO,bB,if_neg (by rw[hf,bG];omega),hf]
  have:=qP hf l i j (by simpa using h) hj
  rw[show(i+1)*k+j - k=i*k+j by rw[bG];omega,this];rfl
theorem Mt{f:α->List Value}(hf:∀x,(f x).length=k)(l:List α):(l.flatMap f).length=l.length*k:=by
 induction l with
 |nil=>simp
 |cons x l ih=>rw[eO,au,hf,ih,aD,bG];omega
theorem zN{s:Rat×Rat}{x:Rat}(h:JL s.1<=k/\JL s.2<=k)(hx:JL x<=k):JL (Xc s x).1<=k/\JL (Xc s x).2<=k:=by
 unfold Xc
 refine⟨?_,?_⟩
 ·show JL (if _ then _ else _)<=k
  split
  ·exact hx
  ·exact h.1
 ·show JL (if _ then _ else _)<=k
  split
  ·exact hx
  ·exact h.2
theorem xM:∀(l:List Rat) (s:Rat×Rat),(JL s.1<=k/\JL s.2<=k)->(∀x∈l,JL x<=k)->JL (l.foldl Xc s).1<=k/\JL (l.foldl Xc s).2<=k
 |[],_,h,_=>h
 |x::l,s,h,hx=>xM l (Xc s x) (zN h (hx x we)) (λy hy=>hx y (by simp[hy]))
structure QIp(n:Nat)(l:List Rat)(r:Rat×Rat) where
 i:Nat
 x:Sp
 s:Rat×Rat
 le:i<=n
 h:s=(l.take i).foldl Xc r
def Jc(a b:Rat×Rat):Rat×Rat:=KW (a.1*b.1) [a.1*b.2,a.2*b.1,a.2*b.2]
def QBY(text:List UInt8):List UInt8×List UInt8×Bool:=if(YO 46 text).2.2=true then((YO 46 text).1,(YO 46 text).2.1,false)else YO 47 text
def QGN(n d:List UInt8)(point slash:Bool):Bool:=!Db n||((point||slash)&&!Db d)
def QD9(n d:List UInt8)(point slash:Bool):Int:=if slash=true then JJ n else if point=true then JJ (n++d)else JJ n
def QEB(d:List UInt8)(point slash:Bool):Int:=if slash=true then JJ d else if point=true then 10^d.length else 1
def QBZ(neg:Bool)(n d:List UInt8)(point slash:Bool):List UInt8×Int :=
 if QGN n d point slash=true then([],14)else if QEB d point slash=0 then([],6)else QEh (aC (if neg=true then -QD9 n d point slash else QD9 n d point slash) (QEB d point slash))
def QGO(s:List UInt8):List UInt8×Int :=
 if 4096<s.length then([],16)else QBZ (ar s [45]) (QBY (ag s [45])).1 (QBY (ag s [45])).2.1 (YO 46 (ag s [45])).2.2 (QBY (ag s [45])).2.2
section
variable[Dr][df:Df]{P:Program}{Q:Exit->Act->World->Prop}{N:Nat}{m:Sl}{ops:Array Oper}{l:List Oper}{w0:World}{F0:Gs}{bs:List (Nat×Obj)}{G:Gs->Prop}{d:Nat}{ty:TypeId}{pos:String}{aft:Array Edge}
theorem Ln(hx:ev m x=some (tx s))(hT:Bu P T=true)(k:∀b,JS P ops Q l N ((d,.pointer (some ⟨b,0,none⟩))::m) ⟨w0,F0,(b,.stringIter ⟨s.toArray⟩ 0)::bs,G⟩)(hd:J5 N (some d)=true:=by rfl):
  JS P ops Q (⟨some d,.range T x,ty,pos,aft,none⟩::l) N m ⟨w0,F0,bs,G⟩:=λa w ha hw=>by
 unfold Bu at hT
 split at hT
 ·rename_i hu
  have hrun:(execOp a.eval ⟨some d,.range T x,ty,pos,aft,none⟩).run P w = .ok (.value (.pointer (some ⟨w.heap.size,0,none⟩))) (w.alloc (.stringIter ⟨s.toArray⟩ 0)):=by
   simp[execOp,ha.ev hx,Instr.range,run_underlying hu,run_newObj,tx]
  exact wpList_plain rfl λK hK=>upon_value hrun (hK _ _ (k _ _ _ (ha.put hd _) (hw.alloc _ (λc fr e=>by cases e))))
 ·cases hT
theorem CS{p:Nat}(hx:ev m x=some (.pointer (some ⟨b,0,none⟩)))(ho:Own bs b (.stringIter ⟨s.toArray⟩ p) f)(hp:p<s.length){c width:Nat}(hdec:bC ⟨s.toArray⟩ p=(c,width))
  (k:JS P ops Q l N ((d,.tuple #[.bool true,.int .i64 p,.int .i32 c])::m) ⟨w0,F0,f (.stringIter ⟨s.toArray⟩ (p+width)),G⟩) (hd:J5 N (some d)=true:=by rfl) :
  JS P ops Q (⟨some d,.next x true,ty,pos,aft,none⟩::l) N m ⟨w0,F0,bs,G⟩:=λa w ha hw=>by
 have hb:=hw.own ho
 obtain⟨pre,post,e1,e2⟩:=ho.split
 subst e1
 rw[e2]at k
 have hsz:p<(⟨s.toArray⟩:ByteArray).size:=by rw[KR];exact hp
 have hrun:(execOp a.eval ⟨some d,.next x true,ty,pos,aft,none⟩).run P w = .ok (.value (.tuple #[.bool true,.int .i64 p,.int .i32 c])) { w with heap:=w.heap.setIfInBounds b (.stringIter ⟨s.toArray⟩ (p+width)) }:=by
  simp[execOp,ha.ev hx,iV,getObj,setObj,Sem.run,hb,hsz,hdec,goInt]
 exact wpList_plain rfl λK hK=>upon_value hrun (hK _ _ (k _ _ (ha.put hd _) (hw.write pre ⟨rfl,rfl,rfl,rfl,rfl⟩ (λc fr e=>by cases e))))
theorem CU{p:Nat}(hx:ev m x=some (.pointer (some ⟨b,0,none⟩)))(ho:Own bs b (.stringIter ⟨s.toArray⟩ p) f)(hp:s.length<=p)
  (k:JS P ops Q l N ((d,.tuple #[.bool false])::m) ⟨w0,F0,bs,G⟩) (hd:J5 N (some d)=true:=by rfl) :
  JS P ops Q (⟨some d,.next x true,ty,pos,aft,none⟩::l) N m ⟨w0,F0,bs,G⟩:=λa w ha hw=>by
 have hb:=hw.own ho
 have hsz:¬p<(⟨s.toArray⟩:ByteArray).size:=by rw[KR];omega
 have hrun:(execOp a.eval ⟨some d,.next x true,ty,pos,aft,none⟩).run P w = .ok (.value (.tuple #[.bool false])) w:=by
  simp[execOp,ha.ev hx,iV,getObj,Sem.run,hb,hsz]
 exact wpList_plain rfl λK hK=>upon_value hrun (hK _ _ (k _ _ (ha.put hd _) hw))
end
theorem decode_high{p:Nat}(hp:p<s.length)(h:¬s[p].toNat<128):128<=(bC ⟨s.toArray⟩ p).1:=by
 have h0:((⟨s.toArray⟩:ByteArray).get! (p+0)).toNat=s[p].toNat:=by
  simp[fU,hp]
 unfold bC
 simp only[h0]
 rw[if_neg h]
 split
 ·split
  ·rename_i g;exact g
  ·decide
 ·split
  ·split
   ·rename_i g;simp only[aw,decide_eq_true_eq]at g;exact ab wa g.1
   ·decide
  ·split
   ·split
    ·rename_i g;simp only[aw,decide_eq_true_eq]at g;exact ab wa g.1
    ·decide
   ·decide
theorem j6{p:Nat}(hp:p<s.length):∃c width,bC ⟨s.toArray⟩ p=(c,width)/\((s[p].toNat<128/\c=s[p].toNat/\width=1)\/(128<=s[p].toNat/\128<=c)):=by
 have h0:((⟨s.toArray⟩:ByteArray).get! (p+0)).toNat=s[p].toNat:=by
  simp[fU,hp]
 by_cases h:s[p].toNat<128
 ·exact⟨_,_,by unfold bC;simp only[h0];rw[if_pos h],.inl ⟨h,rfl,rfl⟩⟩
 ·exact⟨(bC ⟨s.toArray⟩ p).1,(bC ⟨s.toArray⟩ p).2,rfl,.inr ⟨O,decode_high hp h⟩⟩
def HQ(c:Nat):Bool:=(decide (97<=c)&&decide (c<=122))||(decide (65<=c)&&decide (c<=90))
def QGg(i c:Nat):Bool:=!HQ c&&(i==0||(!(c==95)&&(decide (c<48)||decide (57<c))))
def QAL:Nat->List UInt8->Bool
 |_,[]=>true
 |i,c::r=>!QGg i c.toNat&&QAL (i+1) r
def QHP(s:List UInt8):Bool:=QAL 0 s&&decide (0<s.length)&&decide (s.length<=24)
def ahead(p:UInt8->Bool)(s:List UInt8):Nat:=(s.takeWhile (λc=>!p c)).length
theorem Uc{p:UInt8->Bool}(hi:i<s.length)(h:(s.take i).all (λc=>!p c)=true)(hp:p s[i]=true):ahead p s=i:=by
 unfold ahead
 have e:s=s.take i++s[i]::s.drop (i+1):=by rw[<-aZ hi,aO]
 have hl:(s.take i).length=i:=wg
 rw[e,eW (by simpa using h),bL]
 simp[hp];omega
theorem Ud{p:UInt8->Bool}(h:s.all (λc=>!p c)=true):ahead p s=s.length:=by
 unfold ahead
 induction s with
 |nil=>rfl
 |cons c s ih =>
  simp only[List.all_cons,aw]at h
  rw[bL,if_pos h.1,aD,ih h.2,aD]
theorem NH{p:UInt8->Bool}(hi:i<s.length)(h:(s.take i).all p=true)(hp:p s[i]=true):(s.take (i+1)).all p=true:=by
 rw[eN hi,List.all_append,h];simp[hp]
def ZC(c:UInt8):Bool:=c==47
theorem RO{d:UInt8}(hz:z=(d.toNat:Int)):((c.toNat:Int)==z)=(c==d):=by
 rw[aq]
 simp only[beq_iff_eq]
 constructor
 ·intro h
  apply bT
  omega
 ·rintro rfl
  exact hz.symm
theorem Tn(hF:Fits F w)(hl:s.length<=9223372036854775807):Qe Tryz.prog 95 [tx s] w F (.int .i64 (ahead ZC s)):=by
 refine QS.intro (G:=λ_=>True) Tryz.func95 rfl wc rfl rfl hF wh<|wI<|wH rfl<|QG<|wI<|wH rfl<|QU<|Zy (ι:=Sy s.length (λi=>(s.take i).all (λc=>!ZC c)=true)) (λi=>[(0,tx s),(3,.int .i64 i.i)]) (λ_=>[]) (λ_ _=>True) (λi=>s.length - i.i) ⟨0,bV _,rfl⟩ wP wK wh (λi=>?_)
 have hle:=i.le
 refine QG<|wJ I<|wE I<|QA (X7 I ZQ)<|QA (QZ I I I)<|QE<|QC ?_
 refine QR I (λhc=>?_) (λhc=>?_)
 ·
  have hi:i.i<s.length:=by simp at hc;omega
  clear hc
  refine QQ<|QC<|QG<|QU<|wJ I<|wE I<|QA (Gc I I ZQ (hi))<|QA (QZ I I I)<|QE<|QC ?_
  refine QR I (λhc=>?_) (λhc=>?_)
  ·
   refine wJ I<|wH I<|QY ?_
   repeat (first | refine JA ?_ | refine Q5 ?_)
   exact QV () I (wB I) (congrArg (λn:Nat=>ak .i64 (n:Int)) (Uc hi i.h (by unfold ZC;have:=hc;rw[RO (d:=47) (z:=47) rfl]at this;simpa using this))) wh
  ·
   refine QQ<|Qk<|QC<|QB<|wE I<|QA (Qu I I O)<|wF I<|QE ?_
   exact Ql (⟨i.i+1,O,NH hi i.h (by unfold ZC;have:=hc;rw[RO (d:=47) (z:=47) rfl]at this;simpa using this)⟩:Sy s.length (λi=>(s.take i).all (λc=>!ZC c)=true)) (by show s.length - (i.i+1)<s.length - i.i;omega) wP wK wh
 ·
  refine Qz ?_
  repeat (first | refine QW ?_ | refine QP wc ?_)
  refine QX<|QC<|wJ I<|QA (X7 I ZQ)<|wH I<|QY ?_
  exact QV () I (wB I) (congrArg (λn:Nat=>ak .i64 (n:Int)) (Ud (by have e:=i.h;rw[ao (by simp at hc;omega)]at e;exact e))) wh
def FI(s:List UInt8):Int:=if s=[48]then 0 else if ar s [45]=true then -1 else 1
def QIL(s:List UInt8):List UInt8:=if FI s<0 then s.drop 1 else s
def numOf(s:List UInt8):List UInt8:=s.take (ahead ZC s)
def QHW(s:List UInt8):List UInt8:=if ahead ZC s=s.length then[49]else s.drop (ahead ZC s+1)
theorem BP(h:0<s.length):ar s [45]=(s[0]==45):=by
 cases s with
 |nil=>simp at h
 |cons c r =>
  have e:ar (c::r) [45]=(45==c):=by simp[ar,bK]
  rw[e,aq]
  simp only[fq,beq_iff_eq]
  exact⟨λh=>h.symm,λh=>h.symm⟩
end Go.Proofs.YtjcphjpkimmmjaaGreatDoor
