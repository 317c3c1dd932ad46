/- Steps of the proof of the theorem in the last file. -/
import Derived.Test.YtpmehagnedbkhaaGreatDoorP0
import Derived.BigRegion
import Derived.StillTailTactics
import Derived.Deep.DeepCutAuto
import Derived.Deep.CutBlock
import Derived.Lib.AppendStr
import Derived.Lib.Builder
import Derived.Shelf.Strings.Builder1
import Derived.Test.YtpmehagnedbkhaaGreatDoorChecked
import Derived.Lib.Walk
import Derived.Lib.ItoaMem
import Derived.WalkKit
import Derived.BigCall
import Derived.BigGuard
import Derived.Lib.ItoaNum
import Derived.Lib.Atoi
import Derived.Lib.Repeat
import Derived.Lib.IndexMore
import Derived.Lib.IndexBytes
set_option linter.all false
set_option maxHeartbeats 4000000
open Go.Proofs.Tryz
open Go.Lib renaming hid → aa,decDigits → af,trimPrefix → ah,run_eql_slice_nil → au,byteCells → ay,hasPrefix → aC,nDigits → aO,decDigits_length → aT,bitLen → bH,zeros24 → eO,decDigits_one → e8,repeatL → fh,cut → fq,strCells → fS,itoa → ig,decFrom → ij,byteCells_length → il,byteCells_append → im,lt_pow_nDigits → iD,TabIs → iO,strCells_eq → iS,atoi → iX,indexByte → iZ,pow10Tab → lG
open Nat renaming le_trans → ae,lt_of_lt_of_le → aB,le_refl → aF,mul_le_mul_left → aM,lt_or_ge → aS,zero_add → aW,pow_le_pow_right → bM,add_mul → bN,pow_succ → bT,zero_le → eK,pow_le_pow_left → eR,add_assoc → eT,mul_assoc → fC,add_sub_cancel_left → fH,zero_mul → fN,mul_comm → fO,le_of_ble_eq_true → fT,mul_one → fV,mul_le_mul_right → fW,eq_zero_or_pos → iB,add_sub_cancel → iC,lt_of_not_le → iM,le_max_right → iN,strongRecOn → iQ,le_max_left → iR,sub_zero → lz,gcd → lA,ble → lB,pow_one → lM,pow_mul → lN,pow_add → lO,mul_add → lP
open Int renaming mul_le_mul_of_nonneg_left → ag,mul_le_mul_of_nonneg_right → aj,mul_comm → ak,le_of_lt → aD,mul_ediv_add_emod → aE,mul_nonneg → aH,emod_lt_of_pos → aI,emod_nonneg → aL,toNat_natCast → bh,add_mul → bj,pow_succ → bz,natAbs_ediv_le_natAbs → bA,ediv_lt_of_lt_mul → bG,neg_mul → bP,ediv_nonneg → bS,add_zero → bU,tmod_lt_of_pos → bX,lt_trichotomy → ee,gcd → ef,mul_zero → er,mul_ne_zero → eG,sub_mul → eN,one_mul → fg,natCast_pow → fi,natCast_mul → fj,le_antisymm → fk,mul_ediv_cancel_left → fD,eq_ofNat_of_zero_le → fK,ediv_eq_zero_of_lt → fQ,add_comm → fR,pow_add → hJ,natAbs_of_nonneg → ia,emod_eq_of_lt → iI,pow_zero → lC,neg_tmod → lD,gcd_comm → lE,emod_one → lF,mul_one → lS,mul_neg → lT,mul_add → lU,le_refl → lW
open Go.Value renaming bool → ai,int → ao,pointer → ax,ownBlock → fl
open List renaming take_of_length_le → aq,length_append → ar,eq_nil_of_length_eq_zero → aJ,length_cons → aN,replicate → aP,drop_zero → aQ,getElem?_append → aR,take_succ_cons → aU,drop_succ_cons → aV,take_append_drop → aX,getElem?_eq_none → aY,perm_append_comm_assoc → aZ,append_assoc → bc,length_drop → bm,drop_eq_getElem_cons → bw,take_zero → bF,flatten_append → bR,getElem?_append_left → bZ,append_cons → ei,nil_append → ek,isPrefixOf → ep,singleton_append → eD,perm_append_comm → eE,length_singleton → eF,getD → eM,take_succ_eq_append_getElem → eW,flatMap_cons → eX,length_take → fa,getElem_mem → fb,cons_append → fc,length → fe,append_nil → ff,isEmpty_eq_false_iff → fu,getLast?_eq_getElem? → fy,getElem?_eq_getElem → fz,drop_of_length_le → fI,drop_eq_nil_of_le → fJ,set_append_right → fP,replicate_succ' → fU,takeWhile_cons → fX,length_flatten → fY,dropWhile_cons → fZ,contains_cons → ir,drop → iG,all_eq_true → iH,map_cons → iW
open Bool renaming eq_iff_iff → av,and_eq_true → aA,or_eq_false_iff → bL,false_eq_true → bW,not_eq_false' → eU,true_and → fA,false_or → fB,not_eq_true' → iF,or_eq_true → iP
open Rat renaming divInt → aG,num_intCast → eB,den_intCast → eC,sub_eq_add_neg → iy,neg_divInt_neg → iz,lt_iff → iA,divInt_ofNat → iL,num_divInt → iU,den_divInt → iV,floor_def → iY,add_def' → lk,num_pow → lJ,inv_def → lK,den_pow → lL
open Go.Builtin renaming zeroCells → aK,append_ → iw
open Go.Value.slice renaming injEq → bB
open Go.IntWalk renaming i64_in → bC
open Go.Result renaming andThen_ok → bD
open Array renaming size_replicate → bI,ext' → bV,getElem?_eq_none → fG,getElem?_append → fL,replicate → iK
open And renaming intro → bJ
open Go.Utf8 renaming decode → bK
open List.Perm renaming refl → bO
open Option.some renaming injEq → bQ
open ByteArray renaming toList → bY,size → e9,get! → iq,ext → ix
open Go.Sem renaming run_pure → eu,run_bind → ew
open Go.Proofs renaming enters_of → ey
open Go.World renaming cell? → eH,ownsRow_nil → iu
open Go.Instr renaming sureAddr → eI,loadAt → eV,sliceAt → iT,slice → lf,next → lI
open Go.Obj renaming cells → eP
open UInt8.toNat renaming inj → eQ
open Option renaming none → eY
open Go.RowKit.Below renaming heap_alloc → eZ,heap_setCell → ib
open Go.Addr.mk renaming injEq → fm
open Go.Region renaming wanted → fp
open Go.Sort renaming grow → fF
open UInt8 renaming ofNat → fM
open Go.Program renaming arrayLen → ic
open Go.Ending renaming returned → iE
open Go.Extern.AbiNoEscape renaming same → iJ
open Go.Lib.decDigits renaming eq_1 → lH
open List.Sublist renaming cons_cons → lQ,cons → lR
namespace Go.Proofs.YtpmehagnedbkhaaGreatDoor
variable{ds o post u:List Int}{B N b cap i j k m n off:Nat}{c:UInt8}{w w':World}{a z:Int}{α γ ι:Type}{x y:Operand}{l s:List UInt8}{T t yT:TypeId}{F F':Gs}{P:Program}{f:Obj->List (Nat×Obj)}{args cs olds rest:List Value}{hi:Option Operand}{vh:Option Value}{bs' ob:List (Nat×Obj)}{G0:Gs->Prop}{fn:Func}{fr:Nat×Nat}{aft:Array Edge}{E':Env}
open Go.RowKit Ig
def Ya(u v:List Int)(n:Nat)(q r over:Int):Prop :=
 (0<=q/\q<W)/\(0<=r/\r<W)/\(0<=over/\over<=1)/\q*Qm v (n+1)+r+W*over=Qm u (n+2)*W+Qm u (n+1)/\dv W u<(q+1)*dv W v
abbrev W4(u v:List Int)(n:Nat):Prop:=H4 W u v n
theorem H4.jE{v:List Int}(h:W4 u v n)(hge:Qm v (n+1)<=Qm u (n+2)):
  Ya u v n (W-1) (XR (Qm u (n+1)) (Qm v (n+1)) 0) (Xy (Qm u (n+1)) (Qm v (n+1)) 0):=by
 have e:Qm u (n+2)=Qm v (n+1):=fk (H4.top Nv h) hge;obtain⟨a,b,c⟩:=G9 (Jf h.hu (n+1)) (Jf h.hv (n+1)) (by decide:(0:Int)<=0/\(0:Int)<=1);refine⟨wu,b,c,?_,?_⟩
 ·rw[e];grind
 have:=h.lt;rw[show W-1+1=W from by omega];exact this
theorem H4.jF{v:List Int}(h:W4 u v n)(hlt:Qm u (n+2)<Qm v (n+1)):
  Ya u v n (OX (Qm u (n+2)) (Qm u (n+1)) (Qm v (n+1))) (jN (Qm u (n+2)) (Qm u (n+1)) (Qm v (n+1))) 0:=by
 obtain⟨a1,a2,a3⟩:=Ky Nv h.hu h.lu;obtain⟨b1,b2,b3⟩:=Wq Nv h.hv h.lv;have d0:=Jf h.hu (n+2);have d1:=Jf h.hu n;have d2:=Jf h.hu (n+1);have d3:=Jf h.hv n;have d4:=Jf h.hv (n+1);have hp:=pow_pos Ju n;have hz:=h.nz;have hW:=Ju;unfold OX jN;unfold Ya;rw[a1,b1];generalize W^n=D at *
 generalize dv W (v.take n)=v' at *
 generalize dv W (u.take n)=u' at *
 generalize Qm u (n+2)=u0 at *
 generalize Qm u (n+1)=u1 at *
 generalize Qm u n=u2 at *
 generalize Qm v (n+1)=v1 at *
 generalize Qm v n=v2 at *
 have m0:0<=u0*W:=aH d0.1 O;have m1:(u0+1)*W<=v1*W:=aj O O;have q1:=aE (u0*W+u1) v1;have q2:=aL (u0*W+u1) (by omega:v1≠0);have q3:=aI (u0*W+u1) hz;have q4:0<=(u0*W+u1)/v1:=bS O O;have q5:(u0*W+u1)/v1<W:=by
  refine bG hz ?_;rw[bj]at m1;rw[ak W v1];omega
 generalize (u0*W+u1)/v1=q at *
 generalize (u0*W+u1)%v1=r at *
 refine⟨⟨q4,q5⟩,⟨q2,O⟩,O,by rw[ak q v1];omega,?_⟩;have k1:(u0*W+u1+1)<=(q+1)*v1:=by rw[bj,ak q v1];omega
 have k2:(u0*W+u1+1)*(W*D)<=(q+1)*v1*(W*D):=aj k1 (aH O O);have k3:0<=(q+1)*(v2*D):=aH O (aH d3.1 O);have k4:0<=(q+1)*v':=aH O b2;have k5:(u2+1)*D<=W*D:=aj O O
 grind
theorem Ya.less{v:List Int}{q r:Int}(h:W4 u v n)(g:Ya u v n q r 0)(hb:r*W+Qm u n<q*Qm v n):
  Ya u v n (q-1) (XR r (Qm v (n+1)) 0) (Xy r (Qm v (n+1)) 0):=by
 obtain⟨g1,g2,g3,g4,g5⟩:=g;obtain⟨a1,a2,a3⟩:=Ky Nv h.hu h.lu;obtain⟨b1,b2,b3⟩:=Wq Nv h.hv h.lv;obtain⟨a,b,c⟩:=G9 g2 (Jf h.hv (n+1)) (by decide:(0:Int)<=0/\(0:Int)<=1);have hp:=pow_pos Ju n;have d1:=Jf h.hu n;have d3:=Jf h.hv n;have q1:1<=q:=by
  refine Int.not_lt.1 λhc=>?_;have:q=0:=O;subst this;have:0<=r*W:=aH g2.1 wu;omega
 refine⟨O,b,c,?_,?_⟩
 ·have:(q-1)*Qm v (n+1)=q*Qm v (n+1)-Qm v (n+1):=by grind
  omega
 rw[show q-1+1=q from by omega,a1,b1];refine F5 b2 a3 hp O ?_;generalize Qm u (n+2)=u0 at *
 generalize Qm u (n+1)=u1 at *
 generalize Qm u n=u2 at *
 generalize Qm v (n+1)=v1 at *
 generalize Qm v n=v2 at *
 have e:q*(v1*W+v2)=(q*v1+r)*W-r*W+q*v2:=by grind
 have e2:q*v1+r=u0*W+u1:=O;rw[e,e2];omega
theorem Ya.fin{v:List Int}{q r over:Int}(h:W4 u v n)(g:Ya u v n q r over)(hb:over=0->q*Qm v n<=r*W+Qm u n):
  (q-1)*dv W v<=dv W u/\dv W u<(q+1)*dv W v:=by
 obtain⟨g1,g2,g3,g4,g5⟩:=g;refine⟨?_,g5⟩;obtain⟨a1,a2,a3⟩:=Ky Nv h.hu h.lu;obtain⟨b1,b2,b3⟩:=Wq Nv h.hv h.lv;have hp:=pow_pos Ju n;have d1:=Jf h.hu n;have d3:=Jf h.hv n;have d4:=Jf h.hv (n+1);have hz:=h.nz;rw[a1,b1];have hR:q*Qm v n<=(r+W*over)*W+Qm u n:=by
  have:over=0\/over=1:=O;rcases this with rfl | rfl
  ·simpa using hb rfl
  have k1:q*Qm v n<=W*W:=Int.mul_le_mul O O d3.1 wu;have k2:0<=r*W:=aH g2.1 wu;have e:(r+W*1)*W=r*W+W*W:=by grind
  rw[e];omega
 refine Cd hp b3 a2 g1.1 ?_ ?_ b2
 ·generalize Qm u (n+2)=u0 at *
  generalize Qm u (n+1)=u1 at *
  generalize Qm u n=u2 at *
  generalize Qm v (n+1)=v1 at *
  generalize Qm v n=v2 at *
  rw[<-g4]
  grind
 have k1:1*W<=Qm v (n+1)*W:=aj O wu;omega
def E5(u v:List Int)(q:Int)(k:Nat)(ds:List Int)(b c:Int):Prop :=
 ds.length=k/\DG W ds/\(0<=b/\b<=1)/\(0<=c/\c<W)/\dv W ds-W^k*(b+c)=dv W (u.take k)-q*dv W (v.take k)
def E5.start(u v:List Int)(q:Int):E5 u v q 0 [] 0 0:=⟨rfl,DG.nil _,wu,wu,wz⟩
theorem E5.step{v:List Int}{q b c:Int}(h:E5 u v q k ds b c)(hu:DG W u)(hv:DG W v)(hq:0<=q/\q<W):
  E5 u v q (k+1) (ds++[Zj (Qm u k) (XR (XB q (Qm v k)) c 0) b]) (Vr (Qm u k) (XR (XB q (Qm v k)) c 0) b)
   (X8 q (Qm v k)+Xy (XB q (Qm v k)) c 0):=by
 obtain⟨h1,h2,h3,h4,h5⟩:=h;obtain⟨_,m1,m2,m3,m4,_,_⟩:=PA hq (Jf hv k) h4 (by decide:(0:Int)<=0/\(0:Int)<W);obtain⟨a1,_,_⟩:=G9 m1 h4 (by decide:(0:Int)<=0/\(0:Int)<=1);obtain⟨s1,s2,s3⟩:=EI (Jf hu k) m2 h3;have e1:XB q (Qm v k)+W*X8 q (Qm v k)=q*Qm v k:=by unfold XB X8;rw[fR];exact aE _ _
 refine⟨by simp[h1],h2.append (DG.cons s2.1 s2.2 (DG.nil _)),s3,m3,?_⟩;rw[ZA,h1,XL,XL,bz];generalize XB q (Qm v k)=lo at *
 generalize X8 q (Qm v k)=hi at *
 generalize Xy lo c 0=ch at *
 generalize XR lo c 0=cl at *
 generalize Vr (Qm u k) cl b=sh at *
 generalize Zj (Qm u k) cl b=sl at *
 generalize Qm u k=a at *
 generalize Qm v k=x at *
 have e2:W^k*(sl-W*sh)=W^k*(a-cl-b):=by rw[s1]
 have e3:W^k*(cl+W*ch)=W^k*(lo+c+0):=by rw[a1]
 have e4:W^k*(lo+W*hi)=W^k*(q*x):=by rw[e1]
 grind
theorem yr{v:List Int}{q b c:Int}(h:W4 u v n)(m:E5 u v q (n+2) ds b c)(hq:(q-1)*dv W v<=dv W u/\dv W u<(q+1)*dv W v)
  (hb:Vr (Qm u (n+2)) c b=0) :
  DG W (ds++[Zj (Qm u (n+2)) c b])/\q=dv W u/dv W v/\dv W (ds++[Zj (Qm u (n+2)) c b])=dv W u%dv W v:=by
 obtain⟨h1,h2,h3,h4,h5⟩:=m;obtain⟨s1,s2,s3⟩:=EI (Jf h.hu (n+2)) h4 h3;rw[aq (by have:=h.lv;omega:v.length<=n+2)]at h5;have e:=XL u (n+2);rw[aq (by have:=h.lu;omega:u.length<=n+2+1)]at e;have hD:DG W (ds++[Zj (Qm u (n+2)) c b]):=h2.append (DG.cons s2.1 s2.2 (DG.nil _));have h0:=JJ Ju hD;have hvp:0<dv W v:=by
  have:=h.lt;have:=JJ Ju h.hu;refine Int.not_le.1 λhc=>?_;have:W*dv W v<=W*0:=ag hc wu;omega
 have hv:dv W (ds++[Zj (Qm u (n+2)) c b])=dv W u-q*dv W v:=by
  rw[ZA,h1,e];rw[hb]at s1;generalize Zj (Qm u (n+2)) c b=sl at *
  have:W^(n+2)*(sl-W*0)=W^(n+2)*(Qm u (n+2)-c-b):=by rw[s1]
  grind
 rw[hv]at h0 ⊢;refine⟨hD,(YF hvp O hq.2).symm,(YU O hq.2).symm⟩
def pR{v es:List Int}{q b c k:Int}(h:W4 u v n)(m:E5 u v q (n+2) ds b c)(hq:(q-1)*dv W v<=dv W u/\dv W u<(q+1)*dv W v)
  (hb:Vr (Qm u (n+2)) c b=1) (ha:Mu ds v (n+2) es k) :
  q-1=dv W u/dv W v/\dv W es=dv W u%dv W v/\Zj (Qm u (n+2)) c b+k=W:=by
 obtain⟨h1,h2,h3,h4,h5⟩:=m;obtain⟨a1,a2,a3,a4⟩:=ha;obtain⟨s1,s2,s3⟩:=EI (Jf h.hu (n+2)) h4 h3;rw[aq (by have:=h.lv;omega:v.length<=n+2)]at h5 a4;rw[aq (by omega:ds.length<=n+2)]at a4;have e:=XL u (n+2);rw[aq (by have:=h.lu;omega:u.length<=n+2+1)]at e;have hvp:0<dv W v:=by
  have:=h.lt;have:=JJ Ju h.hu;refine Int.not_le.1 λhc=>?_;have:W*dv W v<=W*0:=ag hc wu;omega
 have d1:=Kn Ju a2;have d0:=JJ Ju a2;have dd0:=JJ Ju h2;have dd1:=Kn Ju h2;have v1:=Kn Ju h.hv;rw[h.lv]at v1;rw[a1]at d1;rw[h1]at dd1;rw[hb]at s1;have hp:=pow_pos Ju (n+2);generalize Zj (Qm u (n+2)) c b=sl at *
 have key:dv W ds+W^(n+2)*(sl-W)=dv W u-q*dv W v:=by
  have s2:W^(n+2)*(sl-W)=W^(n+2)*Qm u (n+2)-W^(n+2)*(b+c):=by
   rw[<-Int.mul_sub];congr 1;omega
  rw[e,s2];omega
 have hneg:dv W u<q*dv W v:=by
  have:W^(n+2)*(sl-W)<=W^(n+2)*(-1):=ag O O;omega
 have e1:(q-1)*dv W v=q*dv W v-dv W v:=by rw[eN,fg]
 have e2:(q-1+1)*dv W v=q*dv W v:=by rw[show q-1+1=q from by omega]
 have hR:dv W u-(q-1)*dv W v=dv W es+W^(n+2)*(sl+k-W):=by
  have e3:W^(n+2)*(sl+k-W)=W^(n+2)*(sl-W)+W^(n+2)*k:=by rw[<-lU];congr 1;omega
  omega
 have hk:sl+k=W:=by
  have r0:0<=dv W u-(q-1)*dv W v:=O;have r1:dv W u-(q-1)*dv W v<W^(n+2):=O;rw[hR]at r0 r1;rcases ee (sl+k) W with g | g | g
  ·have:W^(n+2)*(sl+k-W)<=W^(n+2)*(-1):=ag O O;omega
  ·exact g
  have:W^(n+2)*1<=W^(n+2)*(sl+k-W):=ag O O;omega
 refine⟨(YF hvp O (by rw[e2];exact hneg)).symm,?_,hk⟩;rw[YU (q:=q-1) O (by rw[e2];exact hneg),hR,hk];simp
structure Dd(B:Nat)(w w':World):Prop where
 os:w'.os=w.os
 tape:w'.tape=w.tape
 output:w'.output=w.output
 size:w.heap.size<=w'.heap.size
 block:∀k,k<w.heap.size->k≠B->w'.heap[k]?=w.heap[k]?
def Dd.refl(B:Nat)(w:World):Dd B w w:=⟨rfl,rfl,rfl,aF _,λ_ _ _=>rfl⟩
theorem Dd.QBn(B:Nat)(h:Ext w w'):Dd B w w':=⟨h.os,h.tape,h.output,h.size,λk hk _=>h.block k hk⟩
theorem Dd.trans{a b c:World}(h:Dd B a b)(k:Dd B b c):Dd B a c :=
 ⟨k.os.trans h.os,k.tape.trans h.tape,k.output.trans h.output,ae h.size k.size,λi hi hn=>(k.block i (aB hi h.size) hn).trans (h.block i hi hn)⟩
def Dd.ext{a b c:World}(h:Dd B a b)(k:Ext b c):Dd B a c:=h.trans (Dd.QBn B k)
def Dd.drew{a b:World}(h:Dd B a b):Dd B a b.drew:=⟨h.os,h.tape,h.output,h.size,h.block⟩
def Dd.setCell{a b:World}(h:Dd B a b)(off:Nat)(v:Value):Dd B a (b.setCell ⟨B,off,none⟩ v) :=
 h.trans ⟨rfl,rfl,rfl,by simp[World.setCell],λk _ hn=>ib _ _ _ _ hn⟩
theorem Dd.QBJ{a b c:World}(h:Dd B b c)(k:Ext a b)(hB:a.heap.size<=B):Ext a c :=
 ⟨h.os.trans k.os,h.tape.trans k.tape,h.output.trans k.output,ae k.size h.size,λi hi=>(h.block i (aB hi k.size) O).trans (k.block i hi)⟩
def Dd.cell(h:Dd B w w'){p:Addr}{v:Value}(hp:p.block≠B)(hv:w.cell? p=some v):w'.cell? p=some v:=by
 rw[World.cell?_of_block (w:=w) (h.block p.block (World.block_lt_of_cell? w p hv) hp)];exact hv
theorem Dd.cells[Inhabited α]{B:Nat}{w w':World}(h:Dd B w w'){q:Option Addr}{enc:MF α}{l:List α}(hq:∀a,q=some a->a.block≠B)(hc:Cells w q enc l):Cells w' q enc l:=by
 intro i hi;obtain⟨b,off,h1,h2,h3⟩:=hc i hi;exact⟨b,off,h1,(by obtain⟨c,fr,e⟩:=id h2;exact⟨c,fr,by rw[h.block b h2.lt (show b≠B from hq ⟨b,off,none⟩ h1)];exact e⟩),h.cell (p:=⟨b,off+i,none⟩) (show b≠B from hq ⟨b,off,none⟩ h1) h3⟩
def Dd.H7{E:Nat}(h:Dd B w w'){enc:MF α}{l:List α}(hb:b≠B)(k:Y5 w b E enc l):Y5 w' b E enc l:=by
 unfold Y5;rw[h.block b k.lt hb];exact k
def OD{pre r:List Int}{x:Int}(hj:pre.length=j)(hk:ds.length=k):(pre++((ds++x::r)++post)).getD (j+k) default=x:=by
 subst hj hk;simp[eM]
def OC{pre r:List Int}{x:Int}(hj:pre.length=j)(hk:ds.length=k):j+k<(pre++((ds++x::r)++post)).length:=by
 subst hj hk;simp
def PB{pre r:List Int}{x:Int}(hj:pre.length=j)(hk:ds.length=k)(y:Int):(pre++((ds++x::r)++post)).set (j+k) y=pre++((ds++y::r)++post):=by
 subst hj;rw[fP _ _ O,fH,bc,fc,Gp _ _ _ _ _ hk,bc,fc]
theorem OJ{l:List Int}(h:DG W l)(hn:NZ l)(h1:W^n<=dv W l)(h2:dv W l<W^(n+1)):l.length=n+1:=by
 have a:=Kn Ju h;have hl:l≠[]:=by rintro rfl;have:=pow_pos Ju n;simp at h1;omega
 have b:=R3 Ju h hn hl;have hlen:0<l.length:=List.length_pos_iff.2 hl;rcases Nat.lt_trichotomy l.length (n+1)with g | g | g
 ·have:=X0 (b:=W) wu (m:=l.length) (n:=n) O;omega
 ·exact g
 have:=X0 (b:=W) wu (m:=n+1) (n:=l.length-1) O;omega
def cM(la:List Int)(y:Int)(k:Nat)(qs:List Int)(r:Int):Prop :=
 qs.length+k=la.length/\DG W qs/\(0<=r/\r<y)/\dv W (la.drop k)=y*dv W qs+r
theorem cM.step{la qs:List Int}{y r:Int}(h:cM la y (k+1) qs r)(ha:DG W la)(hy:0<y/\y<W):
  cM la y k (OX r (Qm la k) y::qs) (jN r (Qm la k) y):=by
 obtain⟨h1,h2,h3,h4⟩:=h;have hd:=Jf ha k;have m0:0<=r*W:=aH h3.1 wu;have m1:(r+1)*W<=y*W:=aj O wu;have q1:=aE (r*W+Qm la k) y;have q2:=aL (r*W+Qm la k) (by omega:y≠0);have q3:=aI (r*W+Qm la k) hy.1;have q4:0<=(r*W+Qm la k)/y:=bS O O;have q5:(r*W+Qm la k)/y<W:=by
  refine bG hy.1 ?_;rw[bj]at m1;rw[ak W y];omega
 refine⟨w6,DG.cons q4 q5 h2,⟨q2,q3⟩,?_⟩;rw[Xo O,Vc,Vc,h4];unfold OX jN;generalize (r*W+Qm la k)/y=q at *
 generalize (r*W+Qm la k)%y=t at *
 grind
def Wf(U V:Int)(n k m:Nat)(o qs:List Int):Prop :=
 o.length=m+1/\DG W o/\qs.length+k=m-(n+2)+1/\DG W qs/\U=V*(W^k*dv W qs)+dv W o/\dv W o<W^k*V
def Wf.start{s:Nat}{A B:Int}(ho:o.length=m+1)(hd:DG W o)(hv:dv W o=A*p2 s)(hs:s<64)(hA:A<W^m)
  (hB:W^(n+1)*9223372036854775808<=B*p2 s) (hm:n+2<=m):Wf (A*p2 s) (B*p2 s) n (m-(n+2)+1) m o []:=by
 refine⟨ho,hd,wz,DG.nil _,by simp[hv],?_⟩;rw[hv];have hp:=QAK hs;have hp0:=YY s;have k1:A*p2 s<W^m*p2 s:=Int.mul_lt_mul_of_pos_right hA hp0;have k2:W^m*p2 s<=W^m*9223372036854775808:=ag (wk HH) (aD (pow_pos Ju m));have k3:W^(m-(n+2)+1)*(W^(n+1)*9223372036854775808)<=W^(m-(n+2)+1)*(B*p2 s):=ag hB (aD (pow_pos Ju _));have e:W^(m-(n+2)+1)*(W^(n+1)*9223372036854775808)=W^m*9223372036854775808:=by
  rw[<-Int.mul_assoc,<-hJ,show m-(n+2)+1+(n+1)=m from by omega]
 omega
theorem Wf.QA6{U V:Int}{qs v:List Int}(h:Wf U V n (j+1) m o qs)(hv:DG W v)(lv:v.length=n+2)(nz:0<Qm v (n+1))(hV:dv W v=V)(_hm:n+2<=m):
  ∃pre u post,o=pre++(u++post)/\pre.length=j/\W4 u v n/\dv W post=0/\post.length=m-(j+n+2)/\j+n+2<=m:=by
 obtain⟨h1,h2,h3,h4,h5,h6⟩:=h;have hj:j+n+2<=m:=O;have e1:o=o.take j++((o.drop j).take (n+3)++(o.drop j).drop (n+3)):=by rw[aX,aX]
 have l1:(o.take j).length=j:=by rw[fa];omega
 have l2:((o.drop j).take (n+3)).length=n+3:=by rw[fa,bm];omega
 have l3:((o.drop j).drop (n+3)).length=m-(j+n+2):=by rw[bm,bm];omega
 have d1:DG W (o.take j):=h2.take j;have d2:DG W ((o.drop j).take (n+3)):=(h2.drop j).take _;have d3:DG W ((o.drop j).drop (n+3)):=(h2.drop j).drop _;have e2:dv W o=dv W (o.take j)+W^j*(dv W ((o.drop j).take (n+3))+W^(n+3)*dv W ((o.drop j).drop (n+3))):=by
  rw[Vu W o j O,Vu W (o.drop j) (n+3) (by rw[bm];omega)]
 generalize o.take j=pre at *
 generalize (o.drop j).take (n+3)=u at *
 generalize (o.drop j).drop (n+3)=post at *
 have n1:=JJ Ju d1;have n2:=JJ Ju d2;have n3:=JJ Ju d3;have hp:=pow_pos Ju j;have vlt:=Kn Ju hv;rw[lv,hV]at vlt;have e3:W^(j+1)*V=W^j*(W*V):=by rw[bz];grind
 have hU:dv W u+W^(n+3)*dv W post<W*V:=by
  refine Int.not_le.1 λhc=>?_;have:=ag hc (aD hp);omega
 have hpost:dv W post=0:=by
  refine fk (Int.not_lt.1 λhc=>?_) n3;have k1:W^(n+3)*1<=W^(n+3)*dv W post:=ag O (aD (pow_pos Ju _));have k2:W*V<=W*W^(n+2):=ag O wu;have k3:W^(n+3)=W*W^(n+2):=by rw[bz];grind
  omega
 refine⟨pre,u,post,e1,l1,⟨d2,hv,l2,lv,nz,?_⟩,hpost,l3,hj⟩;rw[hpost]at hU;rw[hV];simpa using hU
theorem Wf.step{U V:Int}{pre u qs v u':List Int}(h:Wf U V n (j+1) m (pre++(u++post)) qs)(lj:pre.length=j)(lu:u.length=n+3)
  (hd':DG W u') (lu':u'.length=n+3) (hV:dv W v=V) (hVp:0<V) (hpost:dv W post=0) (hq:dv W u/dv W v<W) (hu0:0<=dv W u) (hval:dv W u'=dv W u%dv W v) :
  Wf U V n j m (pre++(u'++post)) (dv W u/dv W v::qs):=by
 obtain⟨h1,h2,h3,h4,h5,h6⟩:=h;rw[hV]at *
 have q0:0<=dv W u/V:=bS hu0 O;have q1:=aE (dv W u) V;have r0:=aL (dv W u) (by omega:V≠0);have r1:=aI (dv W u) hVp;have dpre:DG W pre:=h2.left;have dpost:DG W post:=h2.right.right;have p1:=Kn Ju dpre;rw[lj]at p1;have hp:=pow_pos Ju j;rw[YE,YE,lj,hpost]at h5 h6;refine⟨by simp at h1 ⊢;omega,dpre.append (hd'.append dpost),w6,DG.cons q0 hq h4,?_,?_⟩
 ·rw[YE,YE,lj,hpost,Vc,hval,h5,bz];generalize dv W u/V=q at *
  generalize dv W u%V=r at *
  have e:W^j*(V*q+r)=W^j*dv W u:=by rw[q1]
  grind
 rw[YE,YE,lj,hpost,hval];have k1:W^j*(dv W u%V+1)<=W^j*V:=ag O O;rw[lU]at k1;simp only[er,bU];omega
def Vo(o:List Int)(s k:Nat)(ds:List Int):Prop :=
 ds.length=k/\DG W ds/\dv W ds*p2 s+Qm o 0%p2 s=dv W (o.take k)+W^k*(Qm o k%p2 s)
def Vo.start(o:List Int)(s:Nat):Vo o s 0 []:=⟨rfl,DG.nil _,wz⟩
def CA{x:Int}{s:Nat}(hs:s<64)(hx:0<=x/\x<W):0<=x/p2 s/\x/p2 s<p2 (64-s):=by
 refine⟨bS hx.1 (aD (YY s)),bG (YY s) ?_⟩;rw[Gw hs];exact hx.2
theorem Vo.step{s:Nat}(h:Vo o s k ds)(ho:DG W o)(hs:s<64)(hs0:0<s):
  Vo o s (k+1) (ds++[Qm o k/p2 s+Qm o (k+1)*p2 (64-s)%W]):=by
 obtain⟨h1,h2,h3⟩:=h;have hx:=Jf ho k;have b:=CA hs hx;obtain⟨_,c⟩:=Ua (x:=Qm o (k+1)) (s:=64-s) O b.1 b.2;have hy:0<=Qm o (k+1)*p2 (64-s)%W:=aL _ wu;refine⟨by simp[h1],h2.append (DG.cons O c (DG.nil _)),?_⟩;rw[ZA,h1,XL,bz];have e1:Qm o (k+1)*p2 (64-s)%W=p2 (64-s)*(Qm o (k+1)%p2 s):=by
  have:=CB (x:=Qm o (k+1)) (s:=64-s) O;rw[show 64-(64-s)=s from by omega]at this;exact this
 rw[e1];have e2:=aE (Qm o k) (p2 s);have e3:=Gw hs;generalize Qm o k/p2 s=a at *
 generalize Qm o k%p2 s=b' at *
 generalize Qm o (k+1)%p2 s=c' at *
 have e4:W^k*(p2 s*a+b')=W^k*Qm o k:=by rw[e2]
 have e5:W^k*(p2 (64-s)*p2 s)*c'=W^k*W*c':=by rw[e3]
 grind
def Vo.cj(h:Vo o 0 k ds)(ho:DG W o):Vo o 0 (k+1) (ds++[Qm o k/p2 0]):=by
 obtain⟨h1,h2,h3⟩:=h;have hx:=Jf ho k;simp only[UZ,lF,Int.ediv_one,lS,er,bU]at *
 exact⟨by simp[h1],h2.append (DG.cons hx.1 hx.2 (DG.nil _)),by simp only[UZ,lF,lS,er,bU];rw[ZA,h1,h3,XL]⟩
theorem uf{qs:List Int}{s:Nat}{A B:Int}(h:Wf (A*p2 s) (B*p2 s) n 0 m o qs)(hs:s<64)(hB:0<B)(hBn:B*p2 s<W^(n+2))(hm:n+2<=m)
  (hr:Vo o s (n+2) ds):dv W qs=A/B/\dv W ds=A%B:=by
 obtain⟨h1,h2,h3,h4,h5,h6⟩:=h;obtain⟨r1,r2,r3⟩:=hr;simp only[lC,fg]at h5 h6;have hp:=YY s;have n0:=JJ Ju h2;have e2:=Vu W o (n+2) O;have t0:=JJ Ju (h2.take (n+2));have t1:=JJ Ju (h2.drop (n+2));have z:dv W (o.drop (n+2))=0:=by
  refine fk (Int.not_lt.1 λhc=>?_) t1;have k1:W^(n+2)*1<=W^(n+2)*dv W (o.drop (n+2)):=ag O (aD (pow_pos Ju _));omega
 have zd:Qm o (n+2)=0:=by
  have e3:=Xo (l:=o) (k:=n+2) O;rw[e3,Vc]at z;have d0:=Jf h2 (n+2);have d1:=JJ Ju (h2.drop (n+2+1));have d2:0<=W*dv W (o.drop (n+2+1)):=aH wu d1;omega
 rw[zd,Int.zero_emod,er,bU]at r3;rw[z,er,bU]at e2;have hmod:Qm o 0%p2 s=0:=by
  have f1:dv W o=Qm o 0+W*dv W (o.drop 1):=by
   have:=Xo (l:=o) (k:=0) O;rw[aQ]at this;rw[congrArg (dv W) this,Vc]
  have f2:dv W o=p2 s*(A-B*dv W qs):=by grind
  have f3:Qm o 0=p2 s*(A-B*dv W qs-p2 (64-s)*dv W (o.drop 1)):=by
   have:=Gw hs;have e:Qm o 0=p2 s*(A-B*dv W qs)-W*dv W (o.drop 1):=O;rw[e,<-this];grind
  rw[f3];exact Int.mul_emod_right _ _
 rw[hmod,bU,<-e2]at r3;have key:A=B*dv W qs+dv W ds:=by
  have:p2 s*A=p2 s*(B*dv W qs+dv W ds):=by rw[ak,h5,<-r3];grind
  exact Int.eq_of_mul_eq_mul_left O this
 have hlt:dv W ds<B:=by
  refine Int.not_le.1 λhc=>?_;have:=aj hc (aD hp);omega
 have hds:=JJ Ju r2;have g1:dv W qs*B<=A:=by rw[ak];omega
 have g2:A<(dv W qs+1)*B:=by rw[bj,ak (dv W qs)];omega
 exact⟨(YF hB g1 g2).symm,by rw[YU g1 g2,ak (dv W qs)];omega⟩
def AR(A B:Int)(r:Value)(w':World):Prop :=
 ∃p p' lq lr,r = .tuple #[p,p']/\SL w' p Jl lq/\SL w' p' Jl lr/\(DG W lq/\NZ lq)/\(DG W lr/\NZ lr)/\dv W lq=A/B/\dv W lr=A%B
def Bb{x y:Int}(h:y<=x):0<=YG x y:=by unfold YG;split<;>(try split)<;>omega
theorem IS(v v':Value)(la lb:List Int)(w:World)(ha:DG W la)(hb:DG W lb)(na:NZ la)(nb:NZ lb)(hs:SL w v Jl la)(hs':SL w v' Jl lb)(hlt:dv W la<dv W lb):
  Calls prog 321 #[v,v'] w λe w'=>Zm w (AR (dv W la) (dv W lb)) e w':=by
 have H3:=aa (G6 hlt);have H0:=aa (JJ Ju ha);have HL:=aa hlt;clear hlt;go_enter func321,ntmps321
 go_wp2_with (go_at_call 234;refine(Zu _ _ _ _ _ ha hb na nb hs hs').mono ?_;rw[H3.out];rintro e w' ⟨rfl,hx⟩)
 go_ret2
 exact⟨_,rfl,⟨_,_,[],la,rfl,SL.nil _ _,hs.ext hx,⟨DG.nil _,by simp[NZ]⟩,⟨ha,na⟩,(fQ H0.out HL.out).symm,(iI H0.out HL.out).symm⟩,hx⟩
def FH(x z:α)(k:Nat)(qs:List α):(aP (k+1) z++qs).set k x=aP k z++x::qs:=by
 rw[fU,bc,fP _ _ wz];simp
set_option maxRecDepth 100000 in
set_option maxHeartbeats 800000 in
theorem OV(v:Value)(q':Option Addr)(cap':Nat)(la:List Int)(y:Int)(w:World)(ha:DG W la)(hy:0<y/\y<W)(na:NZ la)(hs:SL w v Jl la)(hs':SL w (.slice q' 1 cap') Jl [y])(hge:y<=dv W la)(h1:la.length<=100000000000):
  Calls prog 321 #[v,.slice q' 1 cap'] w λe w'=>Zm w (AR (dv W la) y) e w':=by
 have H3:0<=YG (dv W la) y:=Bb hge;have hb:DG W [y]:=DG.cons O hy.2 (DG.nil _);have nb:NZ [y]:=by simp[NZ];omega
 have HS:=aa hs;obtain⟨q,cap,rfl,hcap,hmax,hca⟩:=hs;have HA:=aa hca;have HS':=aa hs';obtain⟨q2,cap2,e2,hcap2,hmax2,hcb⟩:=hs';obtain⟨by1,oy,hq,hby,hcy⟩:=hcb 0 wz;simp only[aN,List.length_nil,bB]at e2;obtain⟨rfl,_,rfl⟩:=e2;subst hq;have hcy:w.cell? ⟨by1,oy,none⟩=some (.int .u64 y):=by simpa[Jl]using hcy
 have hmk:=λw=>Yd la.length O w;clear hca hcb;go_enter func321,ntmps321
 go_wp2_with (go_at_call 234;refine(Zu _ _ _ _ _ ha hb na nb HS.out HS'.out).mono ?_;rintro e w1 ⟨rfl,hx1⟩)
 go_loopw [8,7] (λi r wr=>∃(k:Nat) (qs:List Int) (rr:Int),k<=la.length/\i = .int .i64 ((k:Int)-1)/\r = .int .u64 rr/\cM la y k qs rr/\Y5 wr w1.heap.size 289 Jl (aP k 0++qs)/\Ext w1 wr)
  (λi _ _=>(intOf i+1).toNat)
 case atStart=>exact⟨la.length,[],0,aF _,rfl,rfl,⟨wz,DG.nil _,⟨lW _,hy.1⟩,wz⟩,by rw[ff];exact Y5.made w1 _ Jl 0 _ _ I,(Ext.refl _).alloc _⟩
 case round =>
  obtain⟨k,qs,rr,hk,rfl,rfl,hI,hB,hE⟩:=hrel;clear hmk;cases k with
  |zero =>
   obtain⟨i1,i2,i3,i4⟩:=hI;have hW:=HH;have hdr:DG W [rr]:=DG.cons i3.1 O (DG.nil _);simp only[List.replicate_zero,ek]at hB;have hSL:=SL.BP hB la.length O O;rw[aq O,show qs.length=la.length from by omega]at hSL;have HSL:=aa hSL;have HB:=aa hB;have HF:Hid (dv W qs=dv W la/y/\rr=dv W la%y):=by
    rw[aQ]at i4;have g1:dv W qs*y<=dv W la:=by rw[ak];omega
    have g2:dv W la<(dv W qs+1)*y:=by rw[bj,ak (dv W qs)];omega
    exact⟨(YF hy.1 g1 g2).symm,by rw[YU g1 g2,ak (dv W qs)];omega⟩
   clear hSL hB i1 i4 hW;go_wp2_with fail
   refine(VO _ _ _ HSL.out).mono ?_;rintro e w' ⟨⟨v1,rfl,hv1⟩,rfl⟩;go_wp2_with fail
   refine(VO _ [rr] _ ⟨_,1,rfl,aF _,wu,(Y5.new _ 289 Jl [rr] _ I).row.cells (Y5.new _ 289 Jl [rr] _ I).Rg⟩).mono ?_;rintro e w' ⟨⟨v2,rfl,hv2⟩,rfl⟩;go_wp2
   go_ret2
   refine⟨_,rfl,⟨_,_,_,_,rfl,hv1.ext ((Ext.refl _).alloc _),hv2,⟨i2.Je,Zv _⟩,⟨hdr.Je,Zv _⟩,by rw[ZH];exact HF.out.1,by rw[ZH];simpa using HF.out.2⟩,(hx1.trans hE).alloc _⟩
  |succ k =>
   have hlt:k<la.length:=O;have hst:=hI.step ha hy;obtain⟨i1,i2,i3,i4⟩:=hI;obtain⟨b,off,rfl,hba,hc⟩:=HA.out k hlt;rw[Z8 hlt]at hc;simp only[Jl]at hc;have hx2:=hx1.trans hE;have hc:=hx2.cell hc;have hcy2:=hx2.cell hcy;have hx:=Jf ha k;have hlen:k<(aP (k+1) 0++qs).length:=w6;have hcell:=hB.cell hlen;have hz:(aP (k+1) (0:Int)++qs).getD k default=0:=by simp[eM,bZ]
   rw[hz]at hcell;simp only[Jl]at hcell;have hfr:=hB.frozen k;have HB:=aa hB;have HST:=aa hst;have e1:((k+1:Nat):Int)-1=(k:Int):=O;have hk0:(0:Int)<=(k:Int):=O;have hk1:(k:Int)<(la.length:Int):=O;have hbne:b≠w1.heap.size:=wk<|aB hba.lt hx1.size
   have hyne:by1≠w1.heap.size:=wk<|aB hby.lt hx1.size
   clear hB hlen hz hst i4 i1;rw[e1];clear e1;go_wp2
   go_region_held3 (λw'=>w'.cell? ⟨b,off+k,none⟩=some (.int .u64 (Qm la k))/\w'.cell? ⟨by1,oy,none⟩=some (.int .u64 y))
    (first | exact⟨hdx.cell hc,hdx.cell hcy2⟩ | exact⟨Xx hbne (hdx.cell hc),Xx hyne (hdx.cell hcy2)⟩ | go_keep)
    (first | (go_at_call 337;refine(Tl _ _ _ _ i3 hx hy.2).mono ?_;rintro e w' ⟨rfl,hdx⟩;have hcell':=hdx.cell hcell;have hfr':=(HB.out.ext (((Ext.refl _).drewN _).trans hdx)).frozen k))
   have hBs:=(HB.out.ext (((Ext.refl _).drewN _).trans hdx)).set k (OX rr (Qm la k) y);rw[FH]at hBs;have HBs:=aa hBs;clear hBs;go_wp2
   go_roundw
   case rel=>exact⟨k,_,_,O,by go_num,rfl,HST.out,HBs.out,(hE.trans (((Ext.refl _).drewN _).trans hdx)).X5 (aF _) _⟩
   case measure=>simp[intOf]
structure W5(w:World)(u v pre post:List Int)(n j B bv ov:Nat):Prop where
 hB:Y5 w B 289 Jl (pre++(u++post))
 hv:Cells w (some ⟨bv,ov,none⟩) Jl v
def W5.ext{v pre:List Int}{bv ov:Nat}(h:W5 w u v pre post n j B bv ov)(k:Ext w w'):W5 w' u v pre post n j B bv ov :=
 ⟨h.hB.ext k,h.hv.ext k⟩
def W5.atu{v pre:List Int}{bv ov:Nat}(h:W5 w u v pre post n j B bv ov)(hj:pre.length=j)(i:Nat)(hi:i<u.length):
  w.cell? ⟨B,j+i,none⟩=some (.int .u64 (Qm u i)):=by
 have h1:=h.hB.cell (i:=j+i) w6;have e:(pre++(u++post)).getD (j+i) default=Qm u i:=by
  rw[YR hi];subst hj;simp only[eM];rw[List.getElem?_append_right O,fH,bZ hi,fz hi];rfl
 rw[e]at h1;exact h1
theorem W5.atv{v pre:List Int}{bv ov:Nat}(h:W5 w u v pre post n j B bv ov)(i:Nat)(hi:i<v.length):
  w.cell? ⟨bv,ov+i,none⟩=some (.int .u64 (Qm v i)):=by
 obtain⟨b,o,e,_,hc⟩:=h.hv i hi;cases e;rw[Z8 hi]at hc;exact hc
set_option maxRecDepth 100000 in
set_option maxHeartbeats 4000000 in
theorem qQ(u v pre post:List Int)(n j B capu capv bv ov:Nat)(w:World)(h:W4 u v n)(hj:pre.length=j)(hmax:n<=100000000000)
  (hM:W5 w u v pre post n j B bv ov) (hne:bv≠B) :
  Calls prog 340 #[.slice (some ⟨B,j,none⟩) (n+3) capu,.slice (some ⟨bv,ov,none⟩) (n+2) capv] w λe w' =>
   (e = .returned (.int .u64 (dv W u/dv W v))/\∃u',Y5 w' B 289 Jl (pre++(u'++post))/\u'.length=n+3/\DG W u'/\dv W u'=dv W u%dv W v)/\Dd B w w':=by
 have hlu:=aa h.lu;have hlv:=aa h.lv;have HJ:=aa hj;clear hj;have hw1:IntKind.i64.wrap ((n:Int)+2-1)=(n:Int)+1:=by rw[show(n:Int)+2-1=(n:Int)+1 from by omega];exact bC _ O
 have ht1:((n:Int)+1).toNat=n+1:=O;have h01:0<=(n:Int)+1:=O;have h02:(n:Int)+1<(n:Int)+2:=O;have ht2:((n:Int)+2).toNat=n+2:=O;have h03:0<=(n:Int)+2:=O;have h04:(n:Int)+2<(n:Int)+3:=O;have h05:(n:Int)+1<(n:Int)+3:=O;have hu2:=hM.atu HJ.out (n+2) (wk hlu.out);have hu1:=hM.atu HJ.out (n+1) (wk hlu.out);have hv1:=hM.atv (n+1) (wk hlv.out);have du1:=Jf h.hu (n+1);have du2:=Jf h.hu (n+2);have dv1:=Jf h.hv (n+1);go_enter func340,ntmps340
 go_wp2_with fail
 go_quiet (fail)
 go_upto_if 30 with (fail)
 go_cut [6,7,8] λq r o wx=>∃qq rr oo,q = .int .u64 qq/\r = .int .u64 rr/\o = .int .u64 oo/\Ya u v n qq rr oo/\Ext w wx
 case first =>
  by_cases hge:Qm v (n+1)<=Qm u (n+2)
  ·have HG:=aa (H4.jE h hge);have ha:=λw=>KG (Qm u (n+1)) (Qm v (n+1)) 0 du1.1 dv1.1 wu wu w;go_wp2
   go_quiet (fail)
   go_wp2
   go_meet
   exact⟨_,_,_,rfl,rfl,rfl,HG.out,(((Ext.refl w).drewN _).drewN _)⟩
  have HG:=aa (H4.jF h O);have hdy:Qm v (n+1)<W:=dv1.2;have hdh:0<=Qm u (n+2)/\Qm u (n+2)<Qm v (n+1):=⟨du2.1,O⟩;go_wp2
  go_region_held3 (λw'=>w'.cell? ⟨B,j+(n+2),none⟩=some (.int .u64 (Qm u (n+2)))/\w'.cell? ⟨B,j+(n+1),none⟩=some (.int .u64 (Qm u (n+1)))/\w'.cell? ⟨bv,ov+(n+1),none⟩=some (.int .u64 (Qm v (n+1))))
   (first | go_keep | exact⟨hx.cell hu2,hx.cell hu1,hx.cell hv1⟩)
   (first | (go_at_call 337;refine(Tl _ _ _ _ hdh du1 hdy).mono ?_;rintro e w' ⟨rfl,hx⟩))
  go_wp2
  go_meet
  exact⟨_,_,_,rfl,rfl,rfl,HG.out,((Ext.refl w).drewN _).trans hx⟩
 case rest =>
  obtain⟨q1,r1,o1,rfl,rfl,rfl,hG,hE⟩:=hcut;have HM0:=aa hM;clear hu2 hu1 hv1 du1 du2 hM;go_upto_block 0 with (fail)
  go_cut [6] λq wx=>∃qq,q = .int .u64 qq/\(0<=qq/\qq<W)/\((qq-1)*dv W v<=dv W u/\dv W u<(qq+1)*dv W v)/\Ext w wx
  case first =>
   have hw2:IntKind.i64.wrap ((n:Int)+2-2)=(n:Int):=by rw[show(n:Int)+2-2=(n:Int)from by omega];exact bC _ O
   have hn0:(0:Int)<=(n:Int):=O;go_wp2_with fail
   go_loopw [6,7,8] (λq r o wr=>∃qq rr oo,q = .int .u64 qq/\r = .int .u64 rr/\o = .int .u64 oo/\Ya u v n qq rr oo/\Ext w wr) λ_ r o _=>(2*W-(intOf r+W*intOf o)).toNat
   case atStart=>exact⟨_,_,_,rfl,rfl,rfl,hG,hE⟩
   case round =>
    clear hG hE;obtain⟨qq,rr,oo,rfl,rfl,rfl,hG,hE⟩:=hrel;obtain⟨g1,g2,g3,g4,g5⟩:=id hG;have HG:=aa hG;clear hG g4 g5;by_cases ho:oo=0
    ·subst ho;have hM:=HM0.out.ext hE;have hv0:=hM.atv n (wk hlv.out);have hv1:=hM.atv (n+1) (wk hlv.out);have hu0:=hM.atu HJ.out n (wk hlu.out);have dv0:=Jf h.hv n;have du0:=Jf h.hu n;have e1:XB qq (Qm v n)+W*X8 qq (Qm v n)=qq*Qm v n:=by unfold XB X8;rw[fR];exact aE _ _
     have l0:0<=XB qq (Qm v n)/\XB qq (Qm v n)<W:=⟨aL _ wu,aI _ Ju⟩;have HY:Hid (qq*Qm v n<=rr*W+Qm u n->(qq-1)*dv W v<=dv W u/\dv W u<(qq+1)*dv W v):=λhy=>HG.out.fin h (λ_=>hy);have HN:Hid (rr*W+Qm u n<qq*Qm v n->Ya u v n (qq-1) (XR rr (Qm v (n+1)) 0) (Xy rr (Qm v (n+1)) 0)):=λhy=>HG.out.less h hy;have hq1:Hid (rr*W+Qm u n<qq*Qm v n->1<=qq):=λhy=>by
      have:=(HN.out hy).1;omega
     have hnz:=h.nz;have hq2:qq<=18446744073709551615:=by have:=g1.2;simp only[HH]at this;omega
     have hme:Hid (2*W-(XR rr (Qm v (n+1)) 0+W*Xy rr (Qm v (n+1)) 0)<2*W-(rr+W*0)):=by
      have:=(G9 g2 dv1 (by decide:(0:Int)<=0/\(0:Int)<=1)).1;show _<_;omega
     have hme2:Hid (0<2*W-(rr+W*0)):=by show _<_;omega
     have ha:=λw=>KG rr (Qm v (n+1)) 0 g2.1 dv1.1 wu wu w;generalize hmy:X8 qq (Qm v n)=mh at *
     generalize hml:XB qq (Qm v n)=ml at *
     have HMH:=aa hmy;have HML:=aa hml;have E1:Hid (qq*Qm v n=ml+W*mh):=e1.symm;clear hmy hml e1;have cmpY:Hid (mh<rr->qq*Qm v n<=rr*W+Qm u n):=λhh=>by
      have:W*(mh+1)<=W*rr:=ag O wu;rw[E1.out];grind
     have cmpY2:Hid (mh=rr->ml<=Qm u n->qq*Qm v n<=rr*W+Qm u n):=λhh hl=>by
      rw[E1.out,hh];grind
     have cmpN:Hid (rr<mh->rr*W+Qm u n<qq*Qm v n):=λhh=>by
      have:W*(rr+1)<=W*mh:=ag O wu;rw[E1.out];grind
     have cmpN2:Hid (mh=rr->Qm u n<ml->rr*W+Qm u n<qq*Qm v n):=λhh hl=>by
      rw[E1.out,hh];grind
     rcases ee mh rr with g | g | g
     ·have HF:=aa (HY.out (cmpY.out g));go_wp2_with (go_at_call 238;refine(KJ _ _ _ g1 dv0).mono ?_;rw[HMH.out,HML.out];rintro e w' ⟨rfl,rfl⟩)
      go_meet
      exact⟨_,rfl,HG.out.1,HF.out,hE⟩
     ·have gb:(mh==rr)=true:=by simpa using g
      have gl:rr<=mh:=O;have G:=aa g;clear g;by_cases hl:ml<=Qm u n
      ·have HF:=aa (HY.out (cmpY2.out G.out hl));go_wp2_with (go_at_call 238;refine(KJ _ _ _ g1 dv0).mono ?_;rw[HMH.out,HML.out];rintro e w' ⟨rfl,rfl⟩)
       go_meet
       exact⟨_,rfl,HG.out.1,HF.out,hE⟩
      have hl':Qm u n<ml:=O;have HF:=aa (HN.out (cmpN2.out G.out hl'));have hq1:=hq1.out (cmpN2.out G.out hl');clear hl;go_wp2_with (go_at_call 238;refine(KJ _ _ _ g1 dv0).mono ?_;rw[HMH.out,HML.out];rintro e w' ⟨rfl,rfl⟩)
      go_roundw
      case rel=>exact⟨_,_,_,rfl,rfl,rfl,HF.out,hE⟩
      case measure=>have:=hme.out;have:=hme2.out;simp only[intOf];omega
     have HF:=aa (HN.out (cmpN.out g));have hq1:=hq1.out (cmpN.out g);have gb:(mh==rr)=false:=w6;go_wp2_with (go_at_call 238;refine(KJ _ _ _ g1 dv0).mono ?_;rw[HMH.out,HML.out];rintro e w' ⟨rfl,rfl⟩)
     go_roundw
     case rel=>exact⟨_,_,_,rfl,rfl,rfl,HF.out,hE⟩
     case measure=>have:=hme.out;have:=hme2.out;simp only[intOf];omega
    have ho1:(oo==0)=false:=by simpa using ho
    have HF:=aa (HG.out.fin h λe=>absurd e ho);go_wp2
    go_meet
    exact⟨_,rfl,HG.out.1,HF.out,hE⟩
  case rest =>
   clear hG hE;obtain⟨qq,rfl,hq,hF,hE⟩:=hcut;have HF:=aa hF;have HB0:=aa (HM0.out.ext hE).hB;have HU0:Hid (Dd B w _):=(Dd.refl B w).ext hE;clear hF hE dv1 h05 h02 h04;go_wp2
   go_loopw [105,11,12] (λi b c wr=>∃(k:Nat) (ds:List Int) (bb cc:Int),k<=n+2/\i = .int .i64 k/\b = .int .u64 bb/\c = .int .u64 cc/\E5 u v qq k ds bb cc/\Y5 wr B 289 Jl (pre++((ds++u.drop k)++post))/\Dd B w wr)
    (λi _ _ _=>n+2-(intOf i).toNat)
   case atStart=>exact⟨0,[],0,0,O,rfl,rfl,rfl,E5.start u v qq,HB0.out,HU0.out⟩
   case round =>
    clear HB0 HU0;obtain⟨k,ds,bb,cc,hk,rfl,rfl,rfl,hI,hB,hU⟩:=hrel;by_cases hlt:k<n+2
    ·have hst:=hI.step h.hu h.hv hq;obtain⟨hd1,hd2,hd3,hd4,hd5⟩:=hI;have HD1:=aa hd1;have hvk:=hU.cell (p:=⟨bv,ov+k,none⟩) hne (HM0.out.atv k (wk hlv.out));rw[Xo (wk hlu.out)]at hB;have hcell:=hB.cell (OC HJ.out HD1.out);rw[OD HJ.out HD1.out]at hcell;simp only[Jl]at hcell;have hfr:=hB.frozen (j+k);have hBs:=hB.set (j+k) (Zj (Qm u k) (XR (XB qq (Qm v k)) cc 0) bb);rw[PB HJ.out HD1.out,ei ds]at hBs;have HBs:=aa hBs;have HS:=aa hst;have hy:=Jf h.hv k;have hx:=Jf h.hu k;obtain⟨_,g2,g3,g4,g5,_,_⟩:=PA hq hy hd4 (by decide:(0:Int)<=0/\(0:Int)<W);clear hd1 hd5 hB hBs hst;generalize hmy:X8 qq (Qm v k)=mh at *
     generalize hml:XB qq (Qm v k)=ml at *
     have HMH:=aa hmy;have HML:=aa hml;clear hmy hml;have ha1:=λw=>KG ml cc 0 g2.1 hd4.1 wu wu w;have ha2:=λw=>Bs (Qm u k) (XR ml cc 0) bb hx g3 hd3 w;have b1:0<=mh+Xy ml cc 0:=g4.1;have b2:mh+Xy ml cc 0<=18446744073709551615:=by have:=g4.2;simp only[HH]at this;omega
     go_wp2_with (go_at_call 238;refine(KJ _ _ _ hq hy).mono ?_;rw[HMH.out,HML.out];rintro e w' ⟨rfl,rfl⟩)
     go_roundw
     case rel=>exact⟨k+1,_,_,_,O,by go_num,rfl,rfl,HS.out,HBs.out,hU.setCell _ _⟩
     case measure=>simp[intOf];omega
    have hk':k=n+2:=O;subst hk';have HI:=aa hI;obtain⟨hd1,hd2,hd3,hd4,hd5⟩:=hI;have HD1:=aa hd1;rw[Xo (wk hlu.out)]at hB;have hcell:=hB.cell (OC HJ.out HD1.out);rw[OD HJ.out HD1.out]at hcell;simp only[Jl]at hcell;have hfr:=hB.frozen (j+(n+2));have hBs:=hB.set (j+(n+2)) (Zj (Qm u (n+2)) cc bb);rw[PB HJ.out HD1.out,fJ (wk hlu.out)]at hBs;have HBs:=aa hBs;have hx:=Jf h.hu (n+2);have hs:=(EI hx hd4 hd3).2;have ha2:=λw=>Bs (Qm u (n+2)) cc bb hx hd4 hd3 w;clear hd1 hd5 hB hBs;have hs3:=hs.2;have hs2:=hs.1;clear hs;by_cases hb0:Vr (Qm u (n+2)) cc bb=0
    ·have hR:=yr h HI.out HF.out hb0;have HR:=aa hR;have hbb:(Vr (Qm u (n+2)) cc bb==0)=true:=by simpa using hb0
     clear hR hb0;go_wp2
     go_ret
     exact⟨⟨congrArg (λx=>iE (.int .u64 x)) HR.out.2.1,_,HBs.out,by simp[HD1.out],HR.out.1,HR.out.2.2⟩,hU.setCell _ _⟩
    have hb1:Vr (Qm u (n+2)) cc bb=1:=O;have hbb:(Vr (Qm u (n+2)) cc bb==0)=false:=by simpa using hb0
    have HB1:=aa hb1;clear hb0 hb1;have HU1:Hid (Dd B w _):=hU.setCell (j+(n+2)) (Jl (Zj (Qm u (n+2)) cc bb));have hdL:DG W (ds++[Zj (Qm u (n+2)) cc bb]):=hd2.append (DG.cons hs2.1 hs2.2 (DG.nil _));go_wp2
    go_loopw [157,17] (λi c wr=>∃(k:Nat) (es:List Int) (c2:Int),k<=n+2/\i = .int .i64 k/\c = .int .u64 c2/\Mu ds v k es c2/\Y5 wr B 289 Jl (pre++((es++(ds++[Zj (Qm u (n+2)) cc bb]).drop k)++post))/\Dd B w wr)
     (λi _ _=>n+2-(intOf i).toNat)
    case atStart=>exact⟨0,[],0,O,rfl,rfl,⟨rfl,DG.nil _,wu,wz⟩,HBs.out,HU1.out⟩
    case round =>
     clear HU1 HBs hcell hfr hU ha2;obtain⟨k,es,c2,hk,rfl,rfl,hA,hB,hU⟩:=hrel;have HA:=aa hA;obtain⟨he1,he2,he3,he4⟩:=hA;have HE1:=aa he1;clear he1 he4;have hll:(ds++[Zj (Qm u (n+2)) cc bb]).length=n+3:=by simp[HD1.out]
     rw[Xo O]at hB;have HLL:=aa hll;clear hll;have hcell:=hB.cell (OC HJ.out HE1.out);rw[OD HJ.out HE1.out]at hcell;simp only[Jl]at hcell;have hfr:=hB.frozen (j+k);by_cases hlt:k<n+2
     ·have hvk:=hU.cell (p:=⟨bv,ov+k,none⟩) hne (HM0.out.atv k (wk hlv.out));have hek:Hid (Qm (ds++[Zj (Qm u (n+2)) cc bb]) k=Qm ds k):=by
       have h1:k<ds.length:=wk HD1.out;show _=_;rw[YR (wk HLL.out),YR h1,List.getElem_append_left h1]
      rw[hek.out]at hcell hB;have hBs:=hB.set (j+k) (XR (Qm ds k) (Qm v k) c2);rw[PB HJ.out HE1.out,ei es]at hBs;have HBs:=aa hBs;have HS:=aa (HA.out.step hd2 h.hv);have hx:=Jf hd2 k;have hy:=Jf h.hv k;have ha1:=λw=>KG (Qm ds k) (Qm v k) c2 hx.1 hy.1 he3.1 he3.2 w;have hk0:(0:Int)<=(k:Int):=O;have hk1:(k:Int)<(n:Int)+2:=O;have hk2:(k:Int)<(n:Int)+3:=O;clear hBs hB;go_wp2
      go_region
      go_wp2
      go_roundw
      case rel=>exact⟨k+1,_,_,O,by go_num,rfl,HS.out,HBs.out.drew,(hU.setCell _ _).drew⟩
      case measure=>simp[intOf];omega
     have hk':k=n+2:=O;subst hk';have hR:=pR h HI.out HF.out HB1.out HA.out;have HR:=aa hR;clear hR;have hek:Hid (Qm (ds++[Zj (Qm u (n+2)) cc bb]) (n+2)=Zj (Qm u (n+2)) cc bb):=by
      show _=_;rw[YR (wk HLL.out)];simp[HD1.out]
     rw[hek.out,fJ (wk HLL.out)]at hB;rw[hek.out]at hcell;have hBs:=hB.set (j+(n+2)) 0;rw[PB HJ.out HE1.out]at hBs;have HBs:=aa hBs;have hq1:1<=qq:=by
      have h0:=JJ Ju h.hu;have h1:=JJ Ju h.hv;have:=bS h0 h1;rw[<-HR.out.1]at this;omega
     have hq2:qq<=18446744073709551615:=by have:=hq.2;simp only[HH]at this;omega
     have hwr:IntKind.u64.wrap (Zj (Qm u (n+2)) cc bb+c2)=0:=by
      rw[HR.out.2.2];decide
     clear hB hBs;go_wp2
     go_ret
     exact⟨⟨congrArg (λx=>iE (.int .u64 x)) HR.out.1,_,HBs.out,by simp[HE1.out],he2.append (DG.cons (lW _) Ju (DG.nil _)),by rw[ZA,HR.out.2.1];simp⟩,hU.setCell _ _⟩
theorem Cells.MR{q:Option Addr}{l:List Int}{o:Nat}{v:Value}(h:Cells w q Jl l)(hb:∀a,q=some a->a.block≠b):Cells (w.setCell ⟨b,o,none⟩ v) q Jl l:=by
 intro i hi;obtain⟨b',off,h1,h2,h3⟩:=h i hi;exact⟨b',off,h1,h2.set _ _ _,Xx (hb _ h1) h3⟩
theorem Cells.old{q:Option Addr}{l:List Int}(h:Cells w q Jl l)(hl:l≠[])(b:Nat)(hb:w.heap.size<=b):∀a,q=some a->a.block≠b:=by
 intro a ha;obtain⟨b',off,h1,h2,_⟩:=h 0 (List.length_pos_iff.2 hl);rw[h1]at ha;cases ha;show b'≠b;have:=h2.lt;omega
def Y5.MR{E b' o:Nat}{enc:MF α}{l:List α}{v:Value}(h:Y5 w b E enc l)(hb:b≠b'):Y5 (w.setCell ⟨b',o,none⟩ v) b E enc l:=by
 unfold Y5;rw[ib _ _ _ _ hb];exact h
theorem L8{lb:List Int}{s:Nat}(hb:DG W lb)(hl:lb.length=n+2)(hs:s<64)(h1:Qm lb (n+1)*p2 s<W)(h2:9223372036854775808<=Qm lb (n+1)*p2 s):
  W^(n+1)*9223372036854775808<=dv W lb*p2 s/\dv W lb*p2 s<W^(n+2):=by
 have e:=XL lb (n+1);rw[aq (by omega:lb.length<=n+1+1)]at e;have t0:=JJ Ju (hb.take (n+1));have t1:=Kn Ju (hb.take (n+1));rw[fa,Nat.min_eq_left O]at t1;have hp:=pow_pos Ju (n+1);have hp0:=YY s;have top:(Qm lb (n+1)+1)*p2 s<=W:=by
  have e3:=Gw hs;have:Qm lb (n+1)<p2 (64-s):=by
   refine Int.not_le.1 λhc=>?_;have:=aj hc (aD hp0);omega
  have:=aj (show Qm lb (n+1)+1<=p2 (64-s) by omega) (aD hp0);omega
 constructor
 ·have k1:W^(n+1)*9223372036854775808<=W^(n+1)*(Qm lb (n+1)*p2 s):=ag h2 (aD hp);have k2:0<=dv W (lb.take (n+1))*p2 s:=aH t0 (aD hp0);have e2:dv W lb*p2 s=dv W (lb.take (n+1))*p2 s+W^(n+1)*(Qm lb (n+1)*p2 s):=by rw[e];grind
  omega
 have k1:(dv W (lb.take (n+1))+1)*p2 s<=W^(n+1)*p2 s:=aj O (aD hp0);have k2:W^(n+1)*((Qm lb (n+1)+1)*p2 s)<=W^(n+1)*W:=ag top (aD hp);have e2:dv W lb*p2 s=dv W (lb.take (n+1))*p2 s+W^(n+1)*(Qm lb (n+1)*p2 s):=by rw[e];grind
 rw[bz W (n+1)];have e3:W^(n+1)*((Qm lb (n+1)+1)*p2 s)=W^(n+1)*(Qm lb (n+1)*p2 s)+W^(n+1)*p2 s:=by grind
 rw[bj]at k1;omega
set_option maxRecDepth 100000 in
set_option maxHeartbeats 2000000 in
theorem IQ(v v':Value)(la lb:List Int)(n:Nat)(w:World)(ha:DG W la)(hb:DG W lb)(na:NZ la)(nb:NZ lb)(hs:SL w v Jl la)(hs':SL w v' Jl lb)(hge:dv W lb<=dv W la)
  (hn:lb.length=n+2) (h1:la.length<=10000000000) (h2:lb.length<=10000000000) :
  Calls prog 321 #[v,v'] w λe w'=>Zm w (AR (dv W la) (dv W lb)) e w':=by
 have H3:0<=YG (dv W la) (dv W lb):=Bb hge;have hm:n+2<=la.length:=by
  refine Nat.not_lt.1 λhc=>?_;have:=ZT Nv ha hb nb O;omega
 have HS:=aa hs;obtain⟨q,cap,rfl,hcap,hmax,hca⟩:=hs;have HA:=aa hca;have HS':=aa hs';obtain⟨q2,cap2,rfl,hcap2,hmax2,hcb⟩:=hs';have HB:=aa hcb;obtain⟨bb,ob,rfl,hbb,hcy⟩:=hcb (n+1) O;rw[Z8 O]at hcy;simp only[Jl]at hcy;clear hca hcb;have hL:=aa hn;rw[hn]at HS' hcap2 ⊢;have hyp:0<Qm lb (n+1)/\Qm lb (n+1)<W:=by
  have:=Jf hb (n+1);have hz:Qm lb (n+1)≠0:=by
   intro e;apply nb;rw[fy,hn];rw[YR O]at e;simp[hn,e]
  omega
 clear hn;have hb1:((n:Int)+2==1)=false:=w6;have e57:(n:Int)+2-1=(n:Int)+1:=O;go_enter func321,ntmps321
 go_wp2_with (first | (go_at_call 234;refine(Zu _ _ _ _ _ ha hb na nb HS.out HS'.out).mono ?_;rintro e w1 ⟨rfl,hx1⟩;have hcy:=hx1.cell hcy) | (go_at_call 338;fail))
 go_wp2_with fail
 refine(y7 _ _ hyp).mono ?_;rintro e w' ⟨⟨s,rfl,hs,hs1,hs2⟩,rfl⟩;have hbv:=L8 hb hL.out hs hs1 hs2;have HBV:=aa hbv;clear hs1 hs2 hcy hbv;go_wp2_with fail
 refine(M7 s _ lb _ hs hb (HS'.out.ext hx1) O).mono ?_;rintro e w2 ⟨_,rfl,⟨l1,rfl,hB1,hl1,hd1,hv1⟩,hx2⟩;rw[hL.out]at hl1;have hSL1:=SL.BP hB1 (n+3) O O;rw[aq O,hl1]at hSL1;have HSL1:=aa hSL1;rw[hL.out];clear hSL1 hB1 hl1;go_wp2_with fail
 refine(VO _ _ _ HSL1.out).mono ?_;rintro e w' ⟨⟨_,rfl,qv,capv,rfl,hcv1,hcv2,hcv⟩,rfl⟩;have hlv:(Je l1).length=n+2:=OJ hd1.Je (Zv _) (by rw[ZH,hv1];have:=HBV.out.1;have:=ag (show(1:Int)<=9223372036854775808 by decide) (aD (pow_pos Ju (n+1)));omega) (by rw[ZH,hv1];exact HBV.out.2);have hdv:DG W (Je l1):=hd1.Je;have hnv:NZ (Je l1):=Zv _;have HVV:Hid (dv W (Je l1)=dv W lb*p2 s):=by show _=_;rw[ZH,hv1]
 generalize Je l1=lv at *
 rw[hlv]at hcv1 ⊢;have HLV:=aa hlv;have HCV:=aa hcv;clear hv1 hd1 hcv hlv;go_wp2_with fail
 refine(M7 s _ la _ hs ha ((HS.out.ext hx1).ext hx2) O).mono ?_;rintro e w3 ⟨_,rfl,⟨o0,rfl,hB3,hl3,hd3,hv3⟩,hx3⟩;have hmk:=λw=>Yd (la.length-(n+2)+1) O w;have ec:((la.length-(n+2)+1:Nat):Int)=(la.length:Int)-((n:Int)+2)+1:=O;simp only[ec]at hmk;clear ec;have hvne:lv≠[]:=by intro e;have:=HLV.out;rw[e]at this;simp at this
 have hne1:=HCV.out.old hvne w2.heap.size (aF _);have hne2:=HCV.out.old hvne w3.heap.size hx3.size;have HSTART:Hid (Wf (dv W la*p2 s) (dv W lb*p2 s) n (la.length-(n+2)+1) la.length o0 []) :=
  Wf.start hl3 hd3 hv3 hs (Kn Ju ha) HBV.out.1 hm
 have HB3:=aa hB3;have HX2:Hid (Ext w w2):=hx1.trans hx2;have HXB:=aa hx3;have hsz:w2.heap.size<w3.heap.size:=hB3.lt;have HN1:=aa hne1;have HN2:=aa hne2;clear hB3 hl3 hd3 hv3 hx1 hx2 hx3 hge H3 hne1 hne2;go_wp2
 go_loopw [14] (λi wr=>∃(k:Nat) (o qs:List Int),k<=la.length-(n+2)+1/\i = .int .i64 ((k:Int)-1)/\Wf (dv W la*p2 s) (dv W lb*p2 s) n k la.length o qs /\
   Y5 wr w2.heap.size 289 Jl o/\Y5 wr w3.heap.size 289 Jl (aP k 0++qs)/\Cells wr qv Jl lv/\Ext w2 wr)
  (λi _=>(intOf i+1).toNat)
 case atStart=>exact⟨la.length-(n+2)+1,o0,[],aF _,by go_num,HSTART.out,HB3.out.ext ((Ext.refl _).alloc _),by rw[ff];exact Y5.made w3 _ Jl 0 _ _ I,(HCV.out.ext HXB.out).ext ((Ext.refl _).alloc _),HXB.out.alloc _⟩
 case round =>
  clear HSTART hmk HB3 HCV HXB;obtain⟨k,o,qs,hk,rfl,hI,hBU,hBQ,hCV,hE⟩:=hrel;cases k with
  |zero =>
   have HI:=aa hI;obtain⟨i1,i2,i3,i4,i5,i6⟩:=hI;have HI1:=aa i1;have HI3:=aa i3;have HBU:=aa hBU;have HBQ:Hid (Y5 _ w3.heap.size 289 Jl qs):=hBQ;clear i1 i3 i5 i6 hBU hBQ hCV;rw[show((0:Nat):Int)-1 = -1 from rfl];go_wp2
   go_loopw [97] (λi wx=>∃(k:Nat) (ds:List Int),k<=n+2/\i = .int .i64 k/\Vo o s k ds/\Y5 wx w2.heap.size 289 Jl (ds++o.drop k)/\Y5 wx w3.heap.size 289 Jl qs/\Ext w2 wx)
    (λi _=>n+2-(intOf i).toNat)
   case atStart=>exact⟨0,[],O,rfl,Vo.start o s,HBU.out,HBQ.out,hE⟩
   case round =>
    clear HBU HBQ hE;obtain⟨k,ds,hk,rfl,hS,hBU,hBQ,hE⟩:=hrel;have HBQ:=aa hBQ;by_cases hlt:k<n+2
    ·have HS:=aa hS;obtain⟨hd1,hd2,hd3⟩:=hS;have HD1:=aa hd1;have hkl:k+1<o.length:=wk HI1.out;rw[Xo O,Xo hkl]at hBU;have hx:=Jf i2 k;have hx1:=Jf i2 (k+1);have hcell:=hBU.cell (i:=k) w6;have hcell1:=hBU.cell (i:=k+1) w6;have g0:(ds++Qm o k::Qm o (k+1)::iG (k+1+1) o).getD k default=Qm o k:=by rw[<-HD1.out];simp[eM]
     have g1:(ds++Qm o k::Qm o (k+1)::iG (k+1+1) o).getD (k+1) default=Qm o (k+1):=by rw[<-HD1.out];simp[eM]
     rw[g0]at hcell;rw[g1]at hcell1;simp only[Jl]at hcell hcell1;have hfr:=hBU.frozen k;have HBU:=aa hBU;clear hd1 hd3 hBU hBQ g0 g1;have hk0:(0:Int)<=(k:Int):=O;have hk1:(k:Int)<(la.length:Int)+1:=O;have hk2:(k:Int)+1<(la.length:Int)+1:=O;have hk3:(0:Int)<=(k:Int)+1:=O;have hk4:IntKind.i64.wrap ((k:Int)+1)=(k:Int)+1:=bC _ O;have hk5:((k:Int)+1).toNat=k+1:=O;have hk6:IntKind.i64.wrap (64-(s:Int))=64-(s:Int):=bC _ O;have hk7:(64-(s:Int)).toNat=64-s:=O;have hk8:¬(64-(s:Int)<0):=O;by_cases hs0:0<s
     ·have hs1:(0:Int)<(s:Int):=O;go_wp2
      go_region
      go_wp2
      go_roundw
      case rel =>
       refine⟨k+1,ds++[Qm o k/p2 s+Qm o (k+1)*p2 (64-s)%W],O,by go_num,HS.out.step i2 hs hs0,?_,(HBQ.out.MR O).MR O,((hE.X5 wz _).X5 wz _).drew⟩;have b:=CA hs hx;obtain⟨b1,_⟩:=Ua (x:=Qm o (k+1)) (s:=64-s) O b.1 b.2;rw[Pr,show Qm o k/2^s=Qm o k/p2 s from rfl,b1];have h1:=HBU.out.set k (Qm o k/p2 s);rw[Gp _ _ _ _ _ HD1.out]at h1;have h2:=h1.set k (Qm o k/p2 s+Qm o (k+1)*p2 (64-s)%W);rw[Gp _ _ _ _ _ HD1.out,ei ds,<-Xo hkl]at h2;exact h2.drew
      case measure=>simp[intOf];omega
     have hs9:s=0:=O;have HS0:Hid (Vo o s (k+1) (ds++[Qm o k/p2 s])):=by subst hs9;exact HS.out.cj i2
     clear hs9;go_wp2
     go_roundw
     case rel =>
      refine⟨k+1,ds++[Qm o k/p2 s],O,by go_num,HS0.out,?_,HBQ.out.MR O,hE.X5 wz _⟩;have h1:=HBU.out.set k (Qm o k/p2 s);rw[Gp _ _ _ _ _ HD1.out,ei ds,<-Xo hkl]at h1;exact h1
     case measure=>simp[intOf];omega
    have hk':k=n+2:=O;subst hk';have hvp:0<dv W lb:=by
     have h7:=HBV.out.1;have h8:=pow_pos Ju (n+1);refine Int.not_le.1 λhc=>?_;have:=aj hc (aD (YY s));omega
    have HF:=aa (uf HI.out hs hvp HBV.out.2 hm hS);obtain⟨hd1,hd2,hd3⟩:=hS;have hq1:qs.length=la.length-(n+2)+1:=wk HI3.out;have hSq:=SL.BP HBQ.out (la.length-(n+2)+1) O O;have hSr:=SL.BP hBU (n+2) w6 (by simp;have:=HI1.out;omega);rw[aq O,hq1]at hSq;rw[List.take_append_of_le_length O,aq O]at hSr;have hol:(ds++iG (n+2) o).length=la.length+1:=by simp;have:=HI1.out;omega
    rw[hol]at hSr;have HSq:=aa hSq;have HSr:=aa hSr;have hn0:(0:Int)<=(n:Int)+2:=O;have hn1:(n:Int)+2<=(la.length:Int)+1:=O;have hn2:((n:Int)+2).toNat=n+2:=O;clear hd1 hd3 hBU hBQ hSq hSr hq1 hol;go_wp2
    go_region_held3 (λ_=>True) (trivial) (first | (go_at_call 307;(with_reducible refine(VO _ _ _ (HSq.out.ext (Ext.refl _).drew)).mono ?_);rintro e w' ⟨⟨v1,rfl,hv1⟩,rfl⟩) | (go_at_call 307;(with_reducible refine(VO _ _ _ (HSr.out.ext (Ext.refl _).drew)).mono ?_);rintro e w' ⟨⟨v2,rfl,hv2⟩,rfl⟩))
    go_wp2
    go_ret2
    exact⟨_,rfl,⟨v1,v2,_,_,rfl,hv1,hv2,⟨i4.Je,Zv _⟩,⟨hd2.Je,Zv _⟩,by rw[ZH];exact HF.out.1,by rw[ZH];exact HF.out.2⟩,(HX2.out.trans hE).drew⟩
  |succ k =>
   obtain⟨pre,u,post,rfl,lj,hst,hpost,lpost,hjm⟩:=hI.QA6 hdv HLV.out (by
    have:=Jf hdv (n+1);have hz:Qm lv (n+1)≠0:=by
     intro e;apply hnv;rw[fy,HLV.out];rw[YR (wk HLV.out)]at e;simp[HLV.out,e]
    omega) HVV.out hm
   have HI:=aa hI;have LJ:=aa lj;have HBQ:=aa hBQ;have e1:((k+1:Nat):Int)-1=(k:Int):=O;have hwin:Hid (k+n+2<=la.length):=hjm;have hk3:(k:Int)+((n:Int)+2)+1<=(la.length:Int)+1:=O;obtain⟨bq,oq,rfl,_,_⟩:=hCV 0 (wk HLV.out);have HCV:=aa hCV;have HBU:=aa hBU;clear hI lj hBQ hjm lpost hCV hBU;rw[e1];clear e1;go_wp2_with fail
   rw[show k+(n+2)+1-k=n+3 from by omega];refine(qQ u lv pre post n k _ _ _ bq oq _ hst LJ.out O ⟨HBU.out,HCV.out⟩ (HN1.out _ I)).mono ?_;rintro e w4 ⟨⟨rfl,u',hB',lu',du',vu'⟩,hU⟩;have hBQ4:=hU.H7 O HBQ.out;have hlen:k<(aP (k+1) (0:Int)++qs).length:=w6;have hcell:=hBQ4.cell hlen;have hz:(aP (k+1) (0:Int)++qs).getD k default=0:=by simp[eM,bZ]
   rw[hz]at hcell;simp only[Jl]at hcell;have hfr:=hBQ4.frozen k;have hBs:=hBQ4.set k (dv W u/dv W lv);rw[FH]at hBs;have HBs:=aa hBs;have hvp:0<dv W lb*p2 s:=by have:=HBV.out.1;have:=pow_pos Ju (n+1);omega
   have HQL:Hid (dv W u/dv W lv<W):=by
    refine bG (by rw[HVV.out];exact hvp) ?_;exact hst.lt
   have HST:=aa (HI.out.step LJ.out hst.lu du' lu' HVV.out hvp hpost HQL.out (JJ Ju hst.hu) vu');have HB':=aa hB';have HU:=aa hU;clear hBs hBQ4 hB' hU hz hlen vu';go_wp2
   go_roundw
   case rel=>exact⟨k,_,_,O,by go_num,HST.out,HB'.out.MR O,HBs.out,(HU.out.cells HN1.out HCV.out).MR HN2.out,(HU.out.QBJ hE (aF _)).X5 w6 _⟩
   case measure=>simp[intOf]
theorem OW(v v':Value)(la lb:List Int)(w:World)(ha:DG W la)(hb:DG W lb)(na:NZ la)(nb:NZ lb)(hs:SL w v Jl la)(hs':SL w v' Jl lb)(hb0:lb≠[])
  (h1:la.length<=10000000000) (h2:lb.length<=10000000000) :
  Calls prog 321 #[v,v'] w λe w'=>Zm w (AR (dv W la) (dv W lb)) e w':=by
 by_cases hlt:dv W la<dv W lb
 ·exact IS v v' la lb w ha hb na nb hs hs' hlt
 match lb,hb,nb,hs',hb0,hlt,h2 with
 |[y],hb,nb,hs',_,hlt,_ =>
  have e:dv W [y]=y:=wz;rw[e]at hlt ⊢;have hy:=hb.head;have hy0:y≠0:=by intro e;subst e;exact nb rfl
  obtain⟨q',cap',e',_⟩:=id hs';subst e';exact OV v q' cap' la y w ha ⟨O,hy.2⟩ na hs hs' O O
 |x::y::l,hb,nb,hs',_,hlt,h2=>exact IQ v v' la (x::y::l) l.length w ha hb na nb hs hs' O rfl h1 h2
theorem KB.sign{s:Int}{q:Option Addr}(h:KB w s q n cap z):s<0↔z<0:=by
 rcases h with ⟨_,_,_,rfl,_⟩ | ⟨b,off,l,_,_,_,_,_,_,_,_,h,hz,hb⟩
 ·exact Iff.rfl
 rcases h with rfl | rfl<;>omega
def Bx.QAT(w:World)(o:Obj)(T:TypeId)(c:Array Value):Bx ((w.alloc o).alloc (.cells c T)) (w.heap.size+1) T c.toList:=by
 have:=Bx.new (w.alloc o) T c;simpa using this
def Bx.yw(w:World)(o o':Obj)(T:TypeId)(c:Array Value):Bx (((w.alloc o).alloc (.cells c T)).alloc o') (w.heap.size+1) T c.toList:=(Bx.QAT w o T c).alloc o'
def Bx.Cb(w:World)(o o':Obj)(T:TypeId)(c:Array Value):Bx (((w.alloc o).alloc o').alloc (.cells c T)) (w.heap.size+1+1) T c.toList:=by
 have:=Bx.new ((w.alloc o).alloc o') T c;simpa using this
def Bx.OQ(w:World)(o o':Obj)(T:TypeId)(c:Array Value):Bx (((w.alloc (.cells c T)).alloc o).alloc o') w.heap.size T c.toList:=((Bx.new w T c).alloc o).alloc o'
def Ext.Dq{a:World}(h:Ext a w){R:Nat}(hR:a.heap.size<=R)(v0 v1:Value):Ext a ((w.setCell ⟨R,0,none⟩ v0).setCell ⟨R,1,none⟩ v1):=(h.X5 hR v0).X5 hR v1
theorem cC(v:Value)(z:Int)(w:World)(hv:Xf w v z):
  Calls prog 282 #[v] w λe w'=>Zm w (λv w'=>Xf w' v (Jm z)) e w':=by
 have HV:=aa hv;obtain⟨s,q,n,cap,rfl,hp⟩:=hv;have HP:=aa hp;by_cases hs:s<0
 ·have HI:=aa (Ee (hp.sign.1 hs));have HB:=aa (Bx.QAT w (.cells #[.int .i64 s,.slice q n cap] 93) 93 IZ);clear hp;go_enter func282,ntmps282
  go_wp2_with fail
  refine(Ud _ z _ (HV.out.ext (((Ext.refl _).alloc _).alloc _))).mono ?_;rintro e w1 ⟨_,rfl,⟨s',q',n',cap',rfl,hp'⟩,hx⟩;obtain⟨c0,c1,f0,f1⟩:=(HB.out.ext hx).two;have HB2:=aa (HB.out.ext hx);go_wp2
  refine bodyPost_ret (v:=.agg #[.int .i64 s',.slice q' n' cap']) (by simp[results,results282,go_sem,c0,c1]) I ⟨_,rfl,?_,?_⟩
  ·rw[HI.out];exact⟨_,_,_,_,rfl,hp'.kp ((Kp.refl _).Dq HB2.out.Rg Ff _ _)⟩
  exact(((((Ext.refl w).alloc _).alloc _).trans hx).X5 wz _).X5 wz _
 have HI:=aa (GS (z:=z) (wk hp.sign));clear hp;go_enter func282,ntmps282
 go_wp2
 refine bodyPost_ret (v:=.agg #[.int .i64 s,.slice q n cap]) (by simp[results,results282,go_sem]) I ⟨_,rfl,?_,((Ext.refl _).alloc _).alloc _⟩;rw[HI.out];exact⟨_,_,_,_,rfl,HP.out.ext (((Ext.refl _).alloc _).alloc _)⟩
def ZE{l:List Int}(hd:DG W l)(hn:NZ l)(h:dv W l=Jm z)(hz:sz z<=1000000000):l.length<=1000000000:=by
 have:=QB0 hd hn;rw[h,N3]at this;omega
def FG{b:Int}(h:decide (a<0)=decide (b<0)):sg (decide (a<0)) (Jm a+Jm b)=a+b:=by
 unfold sg Jm;by_cases ha:a<0<;>by_cases hb:b<0<;>simp[ha,hb]at h ⊢<;>omega
def FF{b:Int}(h:decide (a<0)≠decide (b<0)):sg (decide (a<0)) (Jm a-Jm b)=a+b:=by
 unfold sg Jm;by_cases ha:a<0<;>by_cases hb:b<0<;>simp[ha,hb]at h ⊢<;>omega
def UK{b:Int}(h:decide (a<0)≠decide (b<0)):sg (decide (b<0)) (Jm b-Jm a)=a+b:=by
 unfold sg Jm;by_cases ha:a<0<;>by_cases hb:b<0<;>simp[ha,hb]at h ⊢<;>omega
theorem Mn(s s':Int)(q q':Option Addr)(n n' cap cap':Nat)(a b:Int)(w:World)(hv:KB w s q n cap a)(hv':KB w s' q' n' cap' b)
  (hc:q.isNone=false\/(q.isNone=true/\q'.isNone=false)\/(q.isNone=true/\q'.isNone=true/\(decide (s<wrap64 (s+s'))==decide (0<s'))=false))
  (ha:sz a<=1000000000) (hb:sz b<=1000000000) :
  Calls prog 137 #[.agg #[.int .i64 s,.slice q n cap],.agg #[.int .i64 s',.slice q' n' cap']] w λe w'=>Zm w (λv w'=>Xf w' v (a+b)) e w':=by
 have hn:=λw=>au (P:=prog) w 91 289 q n cap 0 0 underlying91;have hn':=λw=>au (P:=prog) w 91 289 q' n' cap' 0 0 underlying91;have HV:Hid (Xf w (.agg #[.int .i64 s,.slice q n cap]) a):=⟨_,_,_,_,rfl,hv⟩;have HV':Hid (Xf w (.agg #[.int .i64 s',.slice q' n' cap']) b):=⟨_,_,_,_,rfl,hv'⟩;have HBb:=aa (Bx.yw w (.cells #[.int .i64 s,.slice q n cap] 93) (.cells IZ 93) 93 #[.int .i64 s',.slice q' n' cap']);have HBr:=aa (Bx.Cb w (.cells #[.int .i64 s,.slice q n cap] 93) (.cells #[.int .i64 s',.slice q' n' cap'] 93) 93 IZ);clear hv hv';rcases hc with h1 | ⟨h1,h2⟩ | ⟨h1,h2,h3⟩
 all_goals
  rw[h1]at hn
  try rw[h2]at hn'
  go_enter func137,ntmps137
  go_wp2_with fail
  refine(KI _ a _ (HV.out.ext ((((Ext.refl _).alloc _).alloc _).alloc _))).mono ?_;rintro e w1 ⟨_,rfl,⟨p,la,rfl,hsa,hda,hna,hva⟩,hx⟩;have HB1:=aa (HBb.out.ext hx);have HR1:=aa (HBr.out.ext hx);obtain⟨c0,c1,f0,f1⟩:=HB1.out.two;have hlea:=ZE hda hna hva ha;have HVA:=aa hva;clear hva;go_wp2_with fail
  refine(KI _ b _ (HV'.out.ext (((((Ext.refl _).alloc _).alloc _).alloc _).trans hx))).mono ?_;rintro e w2 ⟨_,rfl,⟨p',lb,rfl,hsb,hdb,hnb,hvb⟩,hx2⟩;have HR2:=aa (HR1.out.ext hx2);have hleb:=ZE hdb hnb hvb hb;have HVB:=aa hvb;clear hvb c0 c1 f0 f1;have hsa2:=hsa.ext hx2;by_cases hsg:decide (a<0)=decide (b<0)
  ·have hgg:(decide (a<0)==decide (b<0))=true:=by simpa using hsg
   have HSG:Hid (sg (decide (a<0)) (dv W la+dv W lb)=a+b):=by
    show sg _ _=_;rw[HVA.out,HVB.out];exact FG hsg
   clear hsg;go_wp2_with fail
   refine(AI _ _ la lb _ hda hdb hsa2 hsb O O).mono ?_;rintro e w3 ⟨_,rfl,⟨l3,hs3,hd3,hn3,hv3⟩,hx3⟩;have HV3:=aa hv3;clear hv3;go_wp2_with fail
   refine(Wa _ _ l3 _ hs3 hd3 hn3).mono ?_;rw[HV3.out,HSG.out];rintro e w4 ⟨_,rfl,⟨s4,q4,n4,cap4,rfl,hp4⟩,hx4⟩;have HR4:=aa ((HR2.out.ext hx3).ext hx4);obtain⟨c0,c1,f0,f1⟩:=HR4.out.two;go_wp2
   refine bodyPost_ret (v:=.agg #[.int .i64 s4,.slice q4 n4 cap4]) (by simp[results,results137,go_sem,c0,c1]) I ⟨_,rfl,⟨_,_,_,_,rfl,hp4.kp ((Kp.refl _).Dq HR4.out.Rg Ff _ _)⟩,?_⟩;exact(((((((Ext.refl w).alloc _).alloc _).alloc _).trans hx).trans hx2).trans hx3 |>.trans hx4).Dq O _ _
  have hgg:(decide (a<0)==decide (b<0))=false:=by simpa using hsg
  have hcl:=Bb (x:=dv W la) (y:=dv W lb);have hcg:=G6 (x:=dv W la) (y:=dv W lb);by_cases hge:dv W lb<=dv W la
  ·have HSG:Hid (sg (decide (a<0)) (dv W la-dv W lb)=a+b):=by
    show sg _ _=_;rw[HVA.out,HVB.out];exact FF hsg
   have hc3:=hcl hge;have hll:lb.length<=la.length:=by
    refine Nat.not_lt.1 λhlt=>?_;have:=ZT Nv hda hdb hnb hlt;omega
   have HGE:=aa hge;clear hsg hcl hcg hge;go_wp2_with fail
   refine(Zu _ _ la lb _ hda hdb hna hnb hsa2 hsb).mono ?_;rintro e w3 ⟨rfl,hx3⟩;have hsa3:=hsa2.ext hx3;have hsb3:=hsb.ext hx3;go_wp2_with fail
   refine(EJ _ _ la lb _ hda hdb hsa3 hsb3 O hll HGE.out).mono ?_;rintro e w4 ⟨_,rfl,⟨l3,hs3,hd3,hn3,hv3⟩,hx4⟩;have HV3:=aa hv3;clear hv3;go_wp2_with fail
   refine(Wa _ _ l3 _ hs3 hd3 hn3).mono ?_;rw[HV3.out,HSG.out];rintro e w5 ⟨_,rfl,⟨s4,q4,n4,cap4,rfl,hp4⟩,hx5⟩;have HR4:=aa (((HR2.out.ext hx3).ext hx4).ext hx5);obtain⟨c0,c1,f0,f1⟩:=HR4.out.two;go_wp2
   refine bodyPost_ret (v:=.agg #[.int .i64 s4,.slice q4 n4 cap4]) (by simp[results,results137,go_sem,c0,c1]) I ⟨_,rfl,⟨_,_,_,_,rfl,hp4.kp ((Kp.refl _).Dq HR4.out.Rg Ff _ _)⟩,?_⟩;exact(((((((Ext.refl w).alloc _).alloc _).alloc _).trans hx).trans hx2).trans hx3 |>.trans hx4 |>.trans hx5).Dq O _ _
  have HSG:Hid (sg (decide (b<0)) (dv W lb-dv W la)=a+b):=by
   show sg _ _=_;rw[HVA.out,HVB.out];exact UK hsg
  have HC3:=aa (hcg O);have hll:la.length<=lb.length:=by
   refine Nat.not_lt.1 λhlt=>?_;have:=ZT Nv hdb hda hna hlt;omega
  have HGE:Hid (dv W la<=dv W lb):=by show _<=_;omega
  clear hsg hcl hcg hge;go_wp2_with fail
  refine(Zu _ _ la lb _ hda hdb hna hnb hsa2 hsb).mono ?_;rw[HC3.out];rintro e w3 ⟨rfl,hx3⟩;have hsa3:=hsa2.ext hx3;have hsb3:=hsb.ext hx3;go_wp2_with fail
  refine(EJ _ _ lb la _ hdb hda hsb3 hsa3 O hll HGE.out).mono ?_;rintro e w4 ⟨_,rfl,⟨l3,hs3,hd3,hn3,hv3⟩,hx4⟩;have HV3:=aa hv3;clear hv3;go_wp2_with fail
  refine(Wa _ _ l3 _ hs3 hd3 hn3).mono ?_;rw[HV3.out,HSG.out];rintro e w5 ⟨_,rfl,⟨s4,q4,n4,cap4,rfl,hp4⟩,hx5⟩;have HR4:=aa (((HR2.out.ext hx3).ext hx4).ext hx5);obtain⟨c0,c1,f0,f1⟩:=HR4.out.two;go_wp2
  refine bodyPost_ret (v:=.agg #[.int .i64 s4,.slice q4 n4 cap4]) (by simp[results,results137,go_sem,c0,c1]) I ⟨_,rfl,⟨_,_,_,_,rfl,hp4.kp ((Kp.refl _).Dq HR4.out.Rg Ff _ _)⟩,?_⟩;exact(((((((Ext.refl w).alloc _).alloc _).alloc _).trans hx).trans hx2).trans hx3 |>.trans hx4 |>.trans hx5).Dq O _ _
set_option maxRecDepth 100000 in
set_option maxHeartbeats 800000 in
theorem jg(s s':Int)(w:World)(h0 : -9223372036854775808<=s)(h1:s<=9223372036854775807)(h0' : -9223372036854775808<=s')(h1':s'<=9223372036854775807)
  (hl : -9223372036854775808<=s+s') (hh:s+s'<=9223372036854775807) :
  Calls prog 137 #[.agg #[.int .i64 s,.slice none 0 0],.agg #[.int .i64 s',.slice none 0 0]] w λe w'=>Zm w (λv w'=>Xf w' v (s+s')) e w':=by
 have hn:=λw=>au (P:=prog) w 91 289 none 0 0 0 0 underlying91;have hb1:(decide (s<s+s')==decide (0<s'))=true:=beq_iff_eq.2 (decide_eq_decide.2 O);have hb2:(decide (0<s')==decide (0<s'))=true:=wz;go_enter func137,ntmps137
 go_wp2_with fail
 exact bodyPost_ret (v:=.agg #[.int .i64 (s+s'),.slice none 0 0]) (by simp[results,results137,go_sem]) I ⟨_,rfl,Xf.small _ hl hh,((((Ext.refl _).alloc _).alloc _).alloc _)⟩
theorem C5(v v':Value)(a b:Int)(w:World)(hv:Xf w v a)(hv':Xf w v' b)(ha:sz a<=1000000000)(hb:sz b<=1000000000):
  Calls prog 137 #[v,v'] w λe w'=>Zm w (λv w'=>Xf w' v (a+b)) e w':=by
 obtain⟨s,q,n,cap,rfl,hp⟩:=hv;obtain⟨s',q',n',cap',rfl,hp'⟩:=hv';rcases hp.isNone with ⟨rfl,rfl,rfl,rfl,h0,h1⟩ | ⟨_,_,rfl⟩
 ·rcases hp'.isNone with ⟨rfl,rfl,rfl,rfl,h0',h1'⟩ | ⟨_,_,rfl⟩
  ·by_cases hl : -9223372036854775808<=s+s'/\s+s'<=9223372036854775807
   ·exact jg s s' w h0 h1 h0' h1' hl.1 hl.2
   refine Mn _ _ _ _ _ _ _ _ _ _ w hp hp' (.inr (.inr ⟨rfl,rfl,?_⟩)) ha hb;simp only[wrap64,beq_eq_false_iff_ne,ne_eq,decide_eq_decide];omega
  exact Mn _ _ _ _ _ _ _ _ _ _ w hp hp' (.inr (.inl ⟨rfl,rfl⟩)) ha hb
 exact Mn _ _ _ _ _ _ _ _ _ _ w hp hp' (.inl rfl) ha hb
theorem O6(v v':Value)(a b:Int)(w:World)(hv:Xf w v a)(hv':Xf w v' b)(ha:sz a<=1000000000)(hb:sz b<=1000000000):
  Calls prog 290 #[v,v'] w λe w'=>Zm w (λv w'=>Xf w' v (a-b)) e w':=by
 have HV:=aa hv;have HV':=aa hv';obtain⟨s,q,n,cap,rfl,hp⟩:=hv;obtain⟨s',q',n',cap',rfl,hp'⟩:=hv';have HBa:=aa (Bx.OQ w (.cells #[.int .i64 s',.slice q' n' cap'] 93) (.cells IZ 93) 93 #[.int .i64 s,.slice q n cap]);have HBb:=aa (Bx.yw w (.cells #[.int .i64 s,.slice q n cap] 93) (.cells IZ 93) 93 #[.int .i64 s',.slice q' n' cap']);have HBr:=aa (Bx.Cb w (.cells #[.int .i64 s,.slice q n cap] 93) (.cells #[.int .i64 s',.slice q' n' cap'] 93) 93 IZ);have hnb:sz (-b)<=1000000000:=by rw[Vf];exact hb
 have HE:Hid (a + -b=a-b):=(Int.sub_eq_add_neg).symm;clear hp hp';go_enter func290,ntmps290
 go_wp2_with fail
 have hEW:Ext w (((w.alloc (.cells #[.int .i64 s,.slice q n cap] 93)).alloc (.cells #[.int .i64 s',.slice q' n' cap'] 93)).alloc (.cells IZ 93)):=(((Ext.refl w).alloc _).alloc _).alloc _;generalize hW:(((w.alloc (.cells #[.int .i64 s,.slice q n cap] 93)).alloc (.cells #[.int .i64 s',.slice q' n' cap'] 93)).alloc (.cells IZ 93))=W0 at *
 have HW:=aa hW;clear hW;obtain⟨ca0,ca1,fa0,fa1⟩:=HBa.out.two;obtain⟨cb0,cb1,fb0,fb1⟩:=HBb.out.two;clear fa0 fa1 fb0 fb1;go_region_held3 (λw'=>w'.cell? ⟨w.heap.size,0,none⟩=some (.int .i64 s)/\w'.cell? ⟨w.heap.size,1,none⟩=some (.slice q n cap)/\w'.cell? ⟨w.heap.size+1,0,none⟩=some (.int .i64 s')/\w'.cell? ⟨w.heap.size+1,1,none⟩=some (.slice q' n' cap'))
  (first | exact⟨hx1.cell ca0,hx1.cell ca1,hx1.cell cb0,hx1.cell cb1⟩ | exact⟨hx2.cell (hx1.cell ca0),hx2.cell (hx1.cell ca1),hx2.cell (hx1.cell cb0),hx2.cell (hx1.cell cb1)⟩ | exact⟨Xx O (Xx O (hx2.cell (hx1.cell ca0))),Xx O (Xx O (hx2.cell (hx1.cell ca1))),Xx O (Xx O (hx2.cell (hx1.cell cb0))),Xx O (Xx O (hx2.cell (hx1.cell cb1)))⟩ | go_keep)
  (first
   |(go_at_call 236;refine(Ud _ b _ (HV'.out.ext (hEW.drew))).mono ?_;rintro e w1 ⟨_,rfl,⟨s1,q1,n1,cap1,rfl,hp1⟩,hx1⟩)
   |(go_at_call 137;refine(C5 _ _ a (-b) _ (HV.out.ext ((hEW.drew).trans hx1)) ⟨_,_,_,_,rfl,hp1⟩ ha hnb).mono ?_;rw[HE.out];rintro e w2 ⟨_,rfl,⟨s2,q2,n2,cap2,rfl,hp2⟩,hx2⟩;obtain⟨c0,c1,f0,f1⟩:=((HBr.out.drew.ext hx1).ext hx2).two))
 go_wp2
 refine bodyPost_ret (v:=.agg #[.int .i64 s2,.slice q2 n2 cap2]) (by simp[results,results290,go_sem,c0,c1]) I ⟨_,rfl,⟨_,_,_,_,rfl,hp2.kp ((Kp.refl _).Dq ((HBr.out.drew.ext hx1).ext hx2).Rg Ff _ _)⟩,?_⟩;exact((hEW.drew.trans hx1).trans hx2).Dq O _ _
def Ic(a b:Int):D8 (a-b)=YG a b:=(vF a b).symm
theorem jV(s s':Int)(w:World):
  Calls prog 217 #[.agg #[.int .i64 s,.slice none 0 0],.agg #[.int .i64 s',.slice none 0 0]] w λe w'=>e = .returned (.int .i64 (YG s s'))/\Ext w w':=by
 have hn:=λw=>au (P:=prog) w 91 289 none 0 0 0 0 underlying91;rcases ee s s' with g | g | g
 ·have HC:=aa (G6 g);go_enter func217,ntmps217
  go_wp2
  go_ret
  exact⟨by rw[HC.out];rfl,((Ext.refl _).alloc _).alloc _⟩
 ·subst g;have HC:=aa (SS s);go_enter func217,ntmps217
  go_wp2
  go_ret
  exact⟨by rw[HC.out];rfl,((Ext.refl _).alloc _).alloc _⟩
 have HC:=aa (Ev g);have g2:¬s<s':=O;go_enter func217,ntmps217
 go_wp2
 go_ret
 exact⟨by rw[HC.out];rfl,((Ext.refl _).alloc _).alloc _⟩
theorem Cz(v v':Value)(a b:Int)(w:World)(s s':Int)(q q':Option Addr)(n n' cap cap':Nat)(hv:KB w s q n cap a)(hv':KB w s' q' n' cap' b)(e1:v = .agg #[.int .i64 s,.slice q n cap])(e2:v' = .agg #[.int .i64 s',.slice q' n' cap'])
  (hc:q.isNone=false\/(q.isNone=true/\q'.isNone=false)) (ha:sz a<=1000000000) (hb:sz b<=1000000000) :
  Calls prog 217 #[v,v'] w λe w'=>e = .returned (.int .i64 (YG a b))/\Ext w w':=by
 subst e1 e2;have hn:=λw=>au (P:=prog) w 91 289 q n cap 0 0 underlying91;have hn':=λw=>au (P:=prog) w 91 289 q' n' cap' 0 0 underlying91;have HV:Hid (Xf w (.agg #[.int .i64 s,.slice q n cap]) a):=⟨_,_,_,_,rfl,hv⟩;have HV':Hid (Xf w (.agg #[.int .i64 s',.slice q' n' cap']) b):=⟨_,_,_,_,rfl,hv'⟩;have HC:=aa (Ic a b);clear hv hv';rcases hc with h1 | ⟨h1,h2⟩
 all_goals
  rw[h1]at hn
  try rw[h2]at hn'
  go_enter func217,ntmps217
  go_wp2_with fail
  refine(O6 _ _ a b _ (HV.out.ext (((Ext.refl _).alloc _).alloc _)) (HV'.out.ext (((Ext.refl _).alloc _).alloc _)) ha hb).mono ?_;rintro e w1 ⟨_,rfl,⟨s1,q1,n1,cap1,rfl,hp1⟩,hx1⟩;have HP1:=aa hp1;clear hp1;go_wp2_with fail
  refine(FE _ (a-b) _ ⟨_,_,_,_,rfl,HP1.out⟩).mono ?_;rw[HC.out];rintro e w2 ⟨rfl,hx2⟩;go_wp2
  go_ret
  exact⟨rfl,((((Ext.refl _).alloc _).alloc _).trans hx1).trans hx2⟩
theorem um(v v':Value)(a b:Int)(w:World)(hv:Xf w v a)(hv':Xf w v' b)(ha:sz a<=1000000000)(hb:sz b<=1000000000):
  Calls prog 217 #[v,v'] w λe w'=>e = .returned (.int .i64 (YG a b))/\Ext w w':=by
 obtain⟨s,q,n,cap,e1,hp⟩:=hv;obtain⟨s',q',n',cap',e2,hp'⟩:=hv';rcases hp.isNone with ⟨rfl,rfl,rfl,rfl,h0,h1⟩ | ⟨_,_,rfl⟩
 ·rcases hp'.isNone with ⟨rfl,rfl,rfl,rfl,h0',h1'⟩ | ⟨_,_,rfl⟩
  ·subst e1 e2;exact jV s s' w
  exact Cz _ _ _ _ w _ _ _ _ _ _ _ _ hp hp' e1 e2 (.inr ⟨rfl,rfl⟩) ha hb
 exact Cz _ _ _ _ w _ _ _ _ _ _ _ _ hp hp' e1 e2 (.inl rfl) ha hb
def PC{s:Int}(h0 : -9223372036854775808<=s)(h1:s<=9223372036854775807):0<=Jm s/\Jm s<W:=by
 rw[VJ];have:=HH;omega
def yp{x y:Int}:XB x y+W*X8 x y=x*y:=by unfold XB X8;rw[fR];exact aE _ _
def yk{s t:Int}:(if(decide (s<0)==decide (t<0))then Jm s*Jm t else -(Jm s*Jm t))=s*t:=by
 unfold Jm;by_cases h1:s<0<;>by_cases h2:t<0<;>simp[h1,h2,bP,lT]
def ze{s t:Int}:sg (!(decide (s<0)==decide (t<0))) (Jm s*Jm t)=s*t:=by
 rw[<-yk (s:=s) (t:=t)];unfold sg;cases (decide (s<0)==decide (t<0))<;>simp
set_option maxRecDepth 100000 in
set_option maxHeartbeats 2000000 in
theorem qy(s s':Int)(w:World)(h0 : -9223372036854775808<=s)(h1:s<=9223372036854775807)(h0' : -9223372036854775808<=s')(h1':s'<=9223372036854775807)
  (hl:Jm s*Jm s'<=9223372036854775807) :
  Calls prog 139 #[.agg #[.int .i64 s,.slice none 0 0],.agg #[.int .i64 s',.slice none 0 0]] w λe w'=>Zm w (λv w'=>Xf w' v (s*s')) e w':=by
 have hn:=λw=>au (P:=prog) w 91 289 none 0 0 0 0 underlying91;have b1:=PC h0 h1;have b2:=PC h0' h1';have hp0:0<=Jm s*Jm s':=aH b1.1 b2.1;have hhi:X8 (Jm s) (Jm s')=0:=fQ hp0 (wk HH);have hlo:XB (Jm s) (Jm s')=Jm s*Jm s':=iI hp0 (wk HH);have HHI:=aa hhi;have HLO:=aa hlo;have HSG:=aa (yk (s:=s) (t:=s'));have HBa:=aa (Bx.OQ w (.cells #[.int .i64 s',.slice none 0 0] 93) (.cells IZ 93) 93 #[.int .i64 s,.slice none 0 0]);have HBb:=aa (Bx.yw w (.cells #[.int .i64 s,.slice none 0 0] 93) (.cells IZ 93) 93 #[.int .i64 s',.slice none 0 0]);generalize Jm s*Jm s'=p at *
 clear hhi hlo;by_cases hsg:(decide (s<0)==decide (s'<0))=true
 all_goals
  have hs2:=HSG.out
  first | rw[if_pos hsg]at hs2 | rw[if_neg hsg]at hs2
  have HS2:=aa hs2
  try have hsg3:(decide (s<0)==decide (s'<0))=false:=by simpa using hsg
  clear hs2;go_enter func139,ntmps139
  go_wp2_with fail
  go_region_held3 (λw'=>w'.cell? ⟨w.heap.size,0,none⟩=some (.int .i64 s)/\w'.cell? ⟨w.heap.size+1,0,none⟩=some (.int .i64 s'))
   (first | go_keep)
   (first
    |(go_at_call 239;(with_reducible refine(BI s _ h0 h1).mono ?_);rintro e w1 ⟨rfl,rfl⟩)
    |(go_at_call 239;(with_reducible refine(BI s' _ h0' h1').mono ?_);rintro e w1 ⟨rfl,rfl⟩)
    |(go_at_call 238;refine(KJ _ _ _ b1 b2).mono ?_;rw[HHI.out,HLO.out];rintro e w1 ⟨rfl,rfl⟩))
  go_wp2
  first
   |exact bodyPost_ret (v:=.agg #[.int .i64 (-p),.slice none 0 0]) (by simp[results,results139,go_sem]) I ⟨_,rfl,by rw[<-HS2.out];exact Xf.small _ O O,(((Ext.refl w).alloc _).alloc _).alloc _ |>.drewN 1⟩
   |exact bodyPost_ret (v:=.agg #[.int .i64 p,.slice none 0 0]) (by simp[results,results139,go_sem]) I ⟨_,rfl,by rw[<-HS2.out];exact Xf.small _ O O,(((Ext.refl w).alloc _).alloc _).alloc _ |>.drewN 1⟩
set_option maxRecDepth 100000 in
set_option maxHeartbeats 4000000 in
theorem TU(s s':Int)(q q':Option Addr)(n n' cap cap':Nat)(a b:Int)(w:World)(hv:KB w s q n cap a)(hv':KB w s' q' n' cap' b)
  (hc:q.isNone=false\/(q.isNone=true/\q'.isNone=false)) (ha:sz a<=1000000000) (hb:sz b<=1000000000) :
  Calls prog 139 #[.agg #[.int .i64 s,.slice q n cap],.agg #[.int .i64 s',.slice q' n' cap']] w λe w'=>Zm w (λv w'=>Xf w' v (a*b)) e w':=by
 have hn:=λw=>au (P:=prog) w 91 289 q n cap 0 0 underlying91;have hn':=λw=>au (P:=prog) w 91 289 q' n' cap' 0 0 underlying91;have HV:Hid (Xf w (.agg #[.int .i64 s,.slice q n cap]) a):=⟨_,_,_,_,rfl,hv⟩;have HV':Hid (Xf w (.agg #[.int .i64 s',.slice q' n' cap']) b):=⟨_,_,_,_,rfl,hv'⟩;have HBb:=aa (Bx.yw w (.cells #[.int .i64 s,.slice q n cap] 93) (.cells IZ 93) 93 #[.int .i64 s',.slice q' n' cap']);have HBr:=aa (Bx.Cb w (.cells #[.int .i64 s,.slice q n cap] 93) (.cells #[.int .i64 s',.slice q' n' cap'] 93) 93 IZ);clear hv hv';rcases hc with h1 | ⟨h1,h2⟩
 all_goals
  rw[h1]at hn
  try rw[h2]at hn'
  go_enter func139,ntmps139
  go_wp2_with fail
  refine(KI _ a _ (HV.out.ext ((((Ext.refl _).alloc _).alloc _).alloc _))).mono ?_;rintro e w1 ⟨_,rfl,⟨p,la,rfl,hsa,hda,hna,hva⟩,hx⟩;have HB1:=aa (HBb.out.ext hx);have HR1:=aa (HBr.out.ext hx);obtain⟨c0,c1,f0,f1⟩:=HB1.out.two;have hlea:=ZE hda hna hva ha;have HVA:=aa hva;clear hva;go_wp2_with fail
  refine(KI _ b _ (HV'.out.ext (((((Ext.refl _).alloc _).alloc _).alloc _).trans hx))).mono ?_;rintro e w2 ⟨_,rfl,⟨p',lb,rfl,hsb,hdb,hnb,hvb⟩,hx2⟩;have HR2:=aa (HR1.out.ext hx2);have hleb:=ZE hdb hnb hvb hb;have HVB:=aa hvb;clear hvb c0 c1 f0 f1;have hsa2:=hsa.ext hx2;have HSG:Hid (sg (!(decide (a<0)==decide (b<0))) (dv W la*dv W lb)=a*b):=by
   show sg _ _=_;rw[HVA.out,HVB.out];exact ze
  go_wp2_with fail
  refine(EW _ _ la lb _ hda hdb hsa2 hsb O O).mono ?_;rintro e w3 ⟨_,rfl,⟨l3,hs3,hd3,hn3,hv3⟩,hx3⟩;have HV3:=aa hv3;clear hv3;go_wp2_with fail
  refine(Wa _ _ l3 _ hs3 hd3 hn3).mono ?_;rw[HV3.out,HSG.out];rintro e w4 ⟨_,rfl,⟨s4,q4,n4,cap4,rfl,hp4⟩,hx4⟩;have HR4:=aa ((HR2.out.ext hx3).ext hx4);obtain⟨c0,c1,f0,f1⟩:=HR4.out.two;go_wp2
  refine bodyPost_ret (v:=.agg #[.int .i64 s4,.slice q4 n4 cap4]) (by simp[results,results139,go_sem,c0,c1]) I ⟨_,rfl,⟨_,_,_,_,rfl,hp4.kp ((Kp.refl _).Dq HR4.out.Rg Ff _ _)⟩,?_⟩;exact(((((((Ext.refl w).alloc _).alloc _).alloc _).trans hx).trans hx2).trans hx3 |>.trans hx4).Dq O _ _
set_option maxRecDepth 100000 in
set_option maxHeartbeats 4000000 in
theorem yo(s s':Int)(w:World)(h0 : -9223372036854775808<=s)(h1:s<=9223372036854775807)(h0' : -9223372036854775808<=s')(h1':s'<=9223372036854775807)
  (hl:9223372036854775808<=Jm s*Jm s') (ha:sz s<=1000000000) (hb:sz s'<=1000000000) :
  Calls prog 139 #[.agg #[.int .i64 s,.slice none 0 0],.agg #[.int .i64 s',.slice none 0 0]] w λe w'=>Zm w (λv w'=>Xf w' v (s*s')) e w':=by
 have hn:=λw=>au (P:=prog) w 91 289 none 0 0 0 0 underlying91;have b1:=PC h0 h1;have b2:=PC h0' h1';have HV:=aa (Xf.small w h0 h1);have HV':=aa (Xf.small w h0' h1');have HBa:=aa (Bx.OQ w (.cells #[.int .i64 s',.slice none 0 0] 93) (.cells IZ 93) 93 #[.int .i64 s,.slice none 0 0]);have HBb:=aa (Bx.yw w (.cells #[.int .i64 s,.slice none 0 0] 93) (.cells IZ 93) 93 #[.int .i64 s',.slice none 0 0]);have HBr:=aa (Bx.Cb w (.cells #[.int .i64 s,.slice none 0 0] 93) (.cells #[.int .i64 s',.slice none 0 0] 93) 93 IZ);have hhl:=yp (x:=Jm s) (y:=Jm s');have hor:X8 (Jm s) (Jm s')≠0\/9223372036854775808<=XB (Jm s) (Jm s'):=by
  by_cases h:X8 (Jm s) (Jm s')=0
  ·right;rw[h]at hhl;omega
  exact .inl h
 have hcase:(X8 (Jm s) (Jm s')==0)=false\/((X8 (Jm s) (Jm s')==0)=true/\9223372036854775808<=XB (Jm s) (Jm s')):=by
  by_cases h:X8 (Jm s) (Jm s')=0
  ·exact .inr ⟨by simpa using h,by rcases hor with g | g;exact absurd h g;exact g⟩
  exact .inl (by simpa using h)
 clear hor hhl hl;generalize hmh:X8 (Jm s) (Jm s')=mh at *
 generalize hml:XB (Jm s) (Jm s')=ml at *
 have HMH:=aa hmh;have HML:=aa hml;clear hmh hml;rcases hcase with g1 | ⟨g1,g2⟩
 all_goals
  go_enter func139,ntmps139
  go_wp2_with fail
  go_region_held3 (λw'=>w'.cell? ⟨w.heap.size,0,none⟩=some (.int .i64 s)/\w'.cell? ⟨w.heap.size+1,0,none⟩=some (.int .i64 s'))
   (first | go_keep)
   (first
    |(go_at_call 239;(with_reducible refine(BI s _ h0 h1).mono ?_);rintro e w1 ⟨rfl,rfl⟩)
    |(go_at_call 239;(with_reducible refine(BI s' _ h0' h1').mono ?_);rintro e w1 ⟨rfl,rfl⟩)
    |(go_at_call 238;refine(KJ _ _ _ b1 b2).mono ?_;rw[HMH.out,HML.out];rintro e w1 ⟨rfl,rfl⟩))
  go_wp2_with fail
  refine(KI _ s _ (HV.out.ext (((((Ext.refl _).alloc _).alloc _).alloc _).drew))).mono ?_;rintro e w1 ⟨_,rfl,⟨p,la,rfl,hsa,hda,hna,hva⟩,hx⟩;have HB1:=aa (HBb.out.drew.ext hx);have HR1:=aa (HBr.out.drew.ext hx);obtain⟨c0,c1,f0,f1⟩:=HB1.out.two;have hlea:=ZE hda hna hva ha;have HVA:=aa hva;clear hva;go_wp2_with fail
  refine(KI _ s' _ (HV'.out.ext ((((((Ext.refl _).alloc _).alloc _).alloc _).drew).trans hx))).mono ?_;rintro e w2 ⟨_,rfl,⟨p',lb,rfl,hsb,hdb,hnb,hvb⟩,hx2⟩;have HR2:=aa (HR1.out.ext hx2);have hleb:=ZE hdb hnb hvb hb;have HVB:=aa hvb;clear hvb c0 c1 f0 f1;have hsa2:=hsa.ext hx2;have HSG:Hid (sg (!(decide (s<0)==decide (s'<0))) (dv W la*dv W lb)=s*s'):=by
   show sg _ _=_;rw[HVA.out,HVB.out];exact ze
  go_wp2_with fail
  refine(EW _ _ la lb _ hda hdb hsa2 hsb O O).mono ?_;rintro e w3 ⟨_,rfl,⟨l3,hs3,hd3,hn3,hv3⟩,hx3⟩;have HV3:=aa hv3;clear hv3;go_wp2_with fail
  refine(Wa _ _ l3 _ hs3 hd3 hn3).mono ?_;rw[HV3.out,HSG.out];rintro e w4 ⟨_,rfl,⟨s4,q4,n4,cap4,rfl,hp4⟩,hx4⟩;have HR4:=aa ((HR2.out.ext hx3).ext hx4);obtain⟨c0,c1,f0,f1⟩:=HR4.out.two;go_wp2
  refine bodyPost_ret (v:=.agg #[.int .i64 s4,.slice q4 n4 cap4]) (by simp[results,results139,go_sem,c0,c1]) I ⟨_,rfl,⟨_,_,_,_,rfl,hp4.kp ((Kp.refl _).Dq HR4.out.Rg Ff _ _)⟩,?_⟩;exact((((((((Ext.refl w).alloc _).alloc _).alloc _).drew).trans hx).trans hx2).trans hx3 |>.trans hx4).Dq O _ _
theorem pQ(v v':Value)(a b:Int)(w:World)(hv:Xf w v a)(hv':Xf w v' b)(ha:sz a<=1000000000)(hb:sz b<=1000000000):
  Calls prog 139 #[v,v'] w λe w'=>Zm w (λv w'=>Xf w' v (a*b)) e w':=by
 obtain⟨s,q,n,cap,rfl,hp⟩:=hv;obtain⟨s',q',n',cap',rfl,hp'⟩:=hv';rcases hp.isNone with ⟨rfl,rfl,rfl,rfl,h0,h1⟩ | ⟨_,_,rfl⟩
 ·rcases hp'.isNone with ⟨rfl,rfl,rfl,rfl,h0',h1'⟩ | ⟨_,_,rfl⟩
  ·by_cases hl:Jm s*Jm s'<=9223372036854775807
   ·exact qy s s' w h0 h1 h0' h1' hl
   exact yo s s' w h0 h1 h0' h1' O ha hb
  exact TU _ _ _ _ _ _ _ _ _ _ w hp hp' (.inr ⟨rfl,rfl⟩) ha hb
 exact TU _ _ _ _ _ _ _ _ _ _ w hp hp' (.inl rfl) ha hb
theorem QBo(n:Int)(w:World)(h0 : -9223372036854775808<=n)(h1:n<=9223372036854775807):
  Calls prog 207 #[.int .i64 n] w λe w'=>Zm w (λv w'=>Xf w' v n) e w':=by
 go_enter func207,ntmps207
 go_wp2
 exact bodyPost_ret (v:=.agg #[.int .i64 n,.slice none 0 0]) (by simp[results,results207,go_sem]) I ⟨_,rfl,Xf.small _ h0 h1,(Ext.refl _).alloc _⟩
def Lh{b:Int}(hb:0<b):(0<=a.tmod b->a.tdiv b=a/b/\a.tmod b=a%b)/\(a.tmod b<0->a.tdiv b-1=a/b/\a.tmod b+b=a%b):=by
 have h1:=Int.mul_tdiv_add_tmod a b;have h3:a.tmod b<b/\-b<a.tmod b:=by
  have:=bX a hb;refine⟨this,?_⟩;have h:=bX (-a) hb;rw[lD]at h;omega
 generalize a.tdiv b=q at *
 generalize a.tmod b=r at *
 constructor
 ·intro hr;have g1:q*b<=a:=by rw[ak];omega
  have g2:a<(q+1)*b:=by rw[bj,ak q];omega
  exact⟨(YF hb g1 g2).symm,by rw[YU g1 g2,ak q];omega⟩
 intro hr;have g1:(q-1)*b<=a:=by rw[eN,ak q];omega
 have g2:a<(q-1+1)*b:=by rw[show q-1+1=q from by omega,ak];omega
 exact⟨(YF hb g1 g2).symm,by rw[YU g1 g2,eN,ak q];omega⟩
def QFq(a b:Int)(r:Value)(w':World):Prop:=∃v v',r = .tuple #[v,v']/\Xf w' v (a/b)/\Xf w' v' (a%b)
set_option maxRecDepth 100000 in
set_option maxHeartbeats 400000 in
theorem U9(s s':Int)(w:World)(h0 : -9223372036854775807<=s)(h1:s<=9223372036854775807)(hb0:0<s')(hb1:s'<=9223372036854775807):
  Calls prog 283 #[.agg #[.int .i64 s,.slice none 0 0],.agg #[.int .i64 s',.slice none 0 0]] w λe w'=>Zm w (QFq s s') e w':=by
 have hn:=λw=>au (P:=prog) w 91 289 none 0 0 0 0 underlying91;have hm:(s != -9223372036854775808)=true:=w6;have hz:(s'==0)=false:=w6;have hT:=Lh (a:=s) hb0;have HT:=aa hT;have hbd : -9223372036854775807<=s.tdiv s'/\s.tdiv s'<=9223372036854775807:=by
  have h:=Int.natAbs_tdiv_le_natAbs s s';omega
 have hrd : -9223372036854775807<=s.tmod s'/\s.tmod s'<=9223372036854775807:=by
  have:=bX s hb0;have h:=bX (-s) hb0;rw[lD]at h;omega
 clear hT;have hqr:Hid (-9223372036854775808<=s/s'/\s/s'<=9223372036854775807/\0<=s%s'/\s%s'<=9223372036854775807):=by
  have r0:=aL s (by omega:s'≠0);have r1:=aI s hb0;by_cases hr:0<=s.tmod s'
  ·have:=HT.out.1 hr;exact⟨O,O,r0,O⟩
  have:=HT.out.2 O;exact⟨O,O,r0,O⟩
 by_cases hr:0<=s.tmod s'
 ·have HR:=aa (HT.out.1 hr);go_enter func283,ntmps283
  go_wp2_with fail
  go_quiet (fail)
  go_wp2
  refine bodyPost_ret (v:=.tuple #[.agg #[.int .i64 (s.tdiv s'),.slice none 0 0],.agg #[.int .i64 (s.tmod s'),.slice none 0 0]]) (by simp[results,results283,go_sem]) I ⟨_,rfl,⟨_,_,rfl,?_,?_⟩,?_⟩
  ·rw[HR.out.1];exact Xf.small _ hqr.out.1 hqr.out.2.1
  ·rw[HR.out.2];exact Xf.small _ (wk hqr.out) hqr.out.2.2.2
  repeat (first | (with_reducible exact Ext.refl _) | (with_reducible refine Ext.drewN ?_ _) | (with_reducible refine Ext.drew ?_) | (with_reducible refine Ext.alloc ?_ _) | (with_reducible refine Ext.X5 ?_ (by dsimp only;omega) _))
 have HR:=aa (HT.out.2 O);have hw1:IntKind.i64.wrap (s.tdiv s'-1)=s.tdiv s'-1:=bC _ (by have:=HR.out;have:=hqr.out;omega);have hw2:IntKind.i64.wrap (s.tmod s'+s')=s.tmod s'+s':=bC _ O;have hr:s.tmod s'<0:=O;go_enter func283,ntmps283
 go_wp2_with fail
 go_quiet (fail)
 go_wp2
 go_quiet (fail)
 go_wp2
 refine bodyPost_ret (v:=.tuple #[.agg #[.int .i64 (s.tdiv s'-1),.slice none 0 0],.agg #[.int .i64 (s.tmod s'+s'),.slice none 0 0]]) (by simp[results,results283,go_sem]) I ⟨_,rfl,⟨_,_,rfl,?_,?_⟩,?_⟩
 ·rw[HR.out.1];exact Xf.small _ hqr.out.1 hqr.out.2.1
 ·rw[HR.out.2];exact Xf.small _ (wk hqr.out) hqr.out.2.2.2
 repeat (first | (with_reducible exact Ext.refl _) | (with_reducible refine Ext.drewN ?_ _) | (with_reducible refine Ext.drew ?_) | (with_reducible refine Ext.alloc ?_ _) | (with_reducible refine Ext.X5 ?_ (by dsimp only;omega) _))
def SH(F:Gs)(w:World):Prop:=∀b c T,F b=some (c,T)->∃fr,w.heap[b]?=some (.cells c T fr)
def Fits.r(h:Fits F w):SH F w:=h.row
theorem SH.le(h:SH F' w)(k:Gs.le F F'):SH F w:=λb c T e=>h b c T (k b _ e)
def Ir(w w':World):Prop:=∀(b:Nat) (c:Array Value) (fr:Nat×Nat),w.heap[b]?=some (.cells c 289 fr)->∃fr',w'.heap[b]?=some (.cells c 289 fr')
theorem VZ.Hd(h:Ir w w'){b:Nat}(hb:VZ w b 289):VZ w' b 289:=by
 obtain⟨c,fr,e⟩:=hb;obtain⟨fr',e'⟩:=h b c fr e;exact⟨c,fr',e'⟩
theorem Cells.Hd(h:Ir w w'){q:Option Addr}{l:List Int}(hc:Cells w q Jl l):Cells w' q Jl l:=by
 intro i hi;obtain⟨b,off,e,ht,hcell⟩:=hc i hi;refine⟨b,off,e,VZ.Hd h ht,?_⟩;obtain⟨c,fr,hb⟩:=ht;obtain⟨fr',hb'⟩:=h b c fr hb;have e1:w.cell? ⟨b,off+i,none⟩=c[off+i]?:=by simp[eH,hb]
 have e2:w'.cell? ⟨b,off+i,none⟩=c[off+i]?:=by simp[eH,hb']
 rw[e2,<-e1];exact hcell
theorem SL.Hd(h:Ir w w'){v:Value}{l:List Int}(hs:SL w v Jl l):SL w' v Jl l:=by
 obtain⟨q,cap,h1,h2,h3,h4⟩:=hs;exact⟨q,cap,h1,h2,h3,h4.Hd h⟩
theorem KB.Hd(h:Ir w w'){s:Int}{q:Option Addr}{n cap:Nat}{z:Int}(hv:KB w s q n cap z):KB w' s q n cap z:=by
 rcases hv with hv | ⟨b,off,l,h1,h2,h3,h4,h5,h6⟩
 ·exact .inl hv
 exact .inr ⟨b,off,l,h1,h2,h3,h4,h5.Hd h,h6⟩
theorem QT.lift{f:FuncId}{val:γ->Value}{R:γ->World->Prop}(pr:γ->Prop)(he:Enters P f)(hF:Fits F w)
  (h:Calls P f args.toArray w λe w'=>∃c,e = .returned (val c)/\R c w'/\pr c/\Ext w w') (hR:∀c w' w'',Ir w' w''->R c w'->R c w''):QT P f args w F val (λc F=>(∀w,SH F w->R c w)/\pr c):=by
 refine⟨he,h.mono ?_⟩;rintro e w' ⟨c,rfl,hr,hpr,hx⟩;refine⟨c,λb=>if b<w.heap.size then F b else match w'.heap[b]? with | some (.cells c T _)=>if T=289 then some (c,289)else none | _=>none,rfl,.of hx,?_,?_,⟨?_,?_⟩,?_⟩
 ·intro b x hb;show(if b<w.heap.size then _ else _)=_;rw[if_pos (hF.lt hb)];exact hb
 ·intro b hb;show(if b<w.heap.size then _ else _)=_;rw[if_pos hb]
 ·intro b c T hb;by_cases hlt:b<w.heap.size
  ·rw[if_pos hlt]at hb;obtain⟨fr,e⟩:=hF.row b c T hb;exact⟨fr,by rw[hx.block b hlt];exact e⟩
  rw[if_neg hlt]at hb;split at hb
  ·rename_i c' T' fr heq;split at hb
   ·rename_i hT;cases hb;exact⟨fr,by rw[heq,hT]⟩
   cases hb
  cases hb
 ·intro b c fr hb;show(if b<w.heap.size then _ else _)=_;by_cases hlt:b<w.heap.size
  ·rw[if_pos hlt];rw[hx.block b hlt]at hb;exact hF.all b c fr hb
  rw[if_neg hlt,hb];simp
 intro F'' hle;refine⟨λw'' hw''=>?_,hpr⟩;refine hR c w' w'' (λb c fr hb=>?_) hr;refine hw'' b c _ (hle b _ ?_);show(if b<w.heap.size then _ else _)=_;by_cases hlt:b<w.heap.size
 ·rw[if_pos hlt];rw[hx.block b hlt]at hb;exact hF.all b c fr hb
 rw[if_neg hlt,hb];simp
structure Bg where
 s:Int
 q:Option Addr
 n:Nat
 cap:Nat
variable{g g':Bg}
@[reducible] def Bg.v (g:Bg):Value:=.agg #[.int .i64 g.s,.slice g.q g.n g.cap]
def XC(F:Gs)(g:Bg)(z:Int):Prop:=∀w,SH F w->KB w g.s g.q g.n g.cap z
theorem XC.le(h:XC F g z)(k:Gs.le F F'):XC F' g z:=λw hw=>h w (hw.le k)
def XC.at(h:XC F g z){w:World}(hw:Fits F w):Xf w g.v z:=⟨_,_,_,_,rfl,h w hw.r⟩
def XC.small(F:Gs){z:Int}(h0 : -9223372036854775808<=z)(h1:z<=9223372036854775807):XC F ⟨z,none,0,0⟩ z:=λ_ _=>.inl ⟨rfl,rfl,rfl,rfl,h0,h1⟩
abbrev ZP(P:Program)(f:FuncId)(args:List Value)(w:World)(F:Gs)(z:Int):Prop:=QT P f args w F Bg.v λg F=>XC F g z
theorem ZP.of{f:FuncId}(he:Enters P f)(hF:Fits F w)(h:Calls P f args.toArray w λe w'=>Zm w (λv w'=>Xf w' v z) e w'):ZP P f args w F z:=by
 refine(QT.lift (λ_=>True) he hF (val:=Bg.v) (R:=λ(g:Bg) w=>KB w g.s g.q g.n g.cap z) (h.mono ?_) λc w' w'' hs hr=>hr.Hd hs).imp λc F' hf=>⟨c,rfl,λF'' hle=>XC.le hf.1 hle⟩;rintro e w' ⟨v,rfl,⟨s,q,n,cap,rfl,hp⟩,hx⟩;exact⟨⟨s,q,n,cap⟩,rfl,hp,trivial,hx⟩
abbrev Qe[Dr](P:Program)(f:FuncId)(args:List Value)(w:World)(F:Gs)(v:Value):Prop:=QT P f args w F (λ(_:Unit)=>v) λ_ _=>True
theorem Qe.of{f:FuncId}{v:Value}(he:Enters P f)(hF:Fits F w)(h:Calls P f args.toArray w λe w'=>e = .returned v/\Ext w w'):Qe P f args w F v:=by
 have:=QT.lift (γ:=Unit) (val:=λ_=>v) (R:=λ_ _=>True) (λ_=>True) he hF (h.mono λe w' ⟨h1,h2⟩=>⟨(),h1,trivial,trivial,h2⟩) (λ_ _ _ _ h=>h);exact this.imp λc F' _=>⟨(),rfl,λ_ _=>trivial⟩
section
variable{w:World}{F:Gs}{g g':Bg}{a b:Int}
theorem RG(hF:Fits F w)(h:XC F g a):Qe prog 140 [g.v] w F (.int .i64 (D8 a)) :=
 .of (enters_of func140 wy rfl) hF (FE _ a w (h.at hF))
theorem RX(hF:Fits F w)(h:XC F g a):ZP prog 236 [g.v] w F (-a) :=
 .of (enters_of func236 wy rfl) hF (Ud _ a w (h.at hF))
theorem QAv(hF:Fits F w)(h:XC F g a):ZP prog 282 [g.v] w F (Jm a) :=
 .of (enters_of func282 wy rfl) hF (cC _ a w (h.at hF))
theorem C4(hF:Fits F w)(h:XC F g a)(h':XC F g' b)(ha:sz a<=1000000000)(hb:sz b<=1000000000):ZP prog 137 [g.v,g'.v] w F (a+b) :=
 .of (enters_of func137 wy rfl) hF (C5 _ _ a b w (h.at hF) (h'.at hF) ha hb)
theorem QEP(hF:Fits F w)(h:XC F g a)(h':XC F g' b)(ha:sz a<=1000000000)(hb:sz b<=1000000000):ZP prog 290 [g.v,g'.v] w F (a-b) :=
 .of (enters_of func290 wy rfl) hF (O6 _ _ a b w (h.at hF) (h'.at hF) ha hb)
theorem DY(hF:Fits F w)(h:XC F g a)(h':XC F g' b)(ha:sz a<=1000000000)(hb:sz b<=1000000000):ZP prog 139 [g.v,g'.v] w F (a*b) :=
 .of (enters_of func139 wy rfl) hF (pQ _ _ a b w (h.at hF) (h'.at hF) ha hb)
theorem QFD(hF:Fits F w)(h:XC F g a)(h':XC F g' b)(ha:sz a<=1000000000)(hb:sz b<=1000000000):Qe prog 217 [g.v,g'.v] w F (.int .i64 (YG a b)) :=
 .of (enters_of func217 wy rfl) hF (um _ _ a b w (h.at hF) (h'.at hF) ha hb)
theorem FZ{n:Int}(hF:Fits F w)(h0 : -9223372036854775808<=n)(h1:n<=9223372036854775807):ZP prog 207 [.int .i64 n] w F n :=
 .of (enters_of func207 wy rfl) hF (QBo n w h0 h1)
end
structure Sr where
 q:Option Addr
 n:Nat
 cap:Nat
@[reducible] def Sr.v (r:Sr):Value:=.slice r.q r.n r.cap
def Va(F:Gs)(r:Sr)(l:List Int):Prop:=(∀w,SH F w->SL w r.v Jl l)/\DG W l/\NZ l
theorem Va.le{r:Sr}{l:List Int}(h:Va F r l)(k:Gs.le F F'):Va F' r l:=⟨λw hw=>h.1 w (hw.le k),h.2⟩
section
variable{w:World}{F:Gs}{g g':Bg}{a b:Int}
theorem N7(hF:Fits F w)(h:XC F g a):QT prog 231 [g.v] w F (λ(c:Sr×List Int)=>.tuple #[.bool (decide (a<0)),.slice c.1.q c.1.n c.1.cap]) (λc F=>Va F c.1 c.2/\dv W c.2=Jm a):=by
 refine(QT.lift (val:=λ(c:Sr×List Int)=>.tuple #[.bool (decide (a<0)),.slice c.1.q c.1.n c.1.cap]) (R:=λc w=>SL w c.1.v Jl c.2) (λc=>DG W c.2/\NZ c.2/\dv W c.2=Jm a)
  (enters_of func231 wy rfl) hF ((KI _ a w (h.at hF)).mono ?_) λc w' w'' hs hr=>hr.Hd hs).imp λc F' hf=>⟨c,rfl,λF'' hle=>⟨Va.le ⟨hf.1,hf.2.1,hf.2.2.1⟩ hle,hf.2.2.2⟩⟩
 rintro e w' ⟨_,rfl,⟨p,l,rfl,hs,h1,h2,h3⟩,hx⟩;obtain⟨q,cap,rfl,hq⟩:=hs;exact⟨(⟨q,l.length,cap⟩,l),rfl,⟨q,cap,rfl,hq⟩,⟨h1,h2,h3⟩,hx⟩
theorem y6{neg:Bool}{r:Sr}{l:List Int}(hF:Fits F w)(h:Va F r l):ZP prog 232 [.bool neg,r.v] w F (sg neg (dv W l)) :=
 .of (enters_of func232 wy rfl) hF (Wa neg _ l w (h.1 w hF.r) h.2.1 h.2.2)
theorem IT{r r':Sr}{la lb:List Int}(hF:Fits F w)(h:Va F r la)(h':Va F r' lb)(hb0:lb≠[])(h1:la.length<=10000000000)(h2:lb.length<=10000000000):
  QT prog 321 [r.v,r'.v] w F (λ(c:(Sr×List Int)×(Sr×List Int))=>.tuple #[.slice c.1.1.q c.1.1.n c.1.1.cap,.slice c.2.1.q c.2.1.n c.2.1.cap])
   (λc F=>(Va F c.1.1 c.1.2/\Va F c.2.1 c.2.2)/\dv W c.1.2=dv W la/dv W lb/\dv W c.2.2=dv W la%dv W lb):=by
 refine(QT.lift (val:=λ(c:(Sr×List Int)×(Sr×List Int))=>.tuple #[.slice c.1.1.q c.1.1.n c.1.1.cap,.slice c.2.1.q c.2.1.n c.2.1.cap]) (R:=λc w=>SL w c.1.1.v Jl c.1.2/\SL w c.2.1.v Jl c.2.2)
  (λc=>(DG W c.1.2/\NZ c.1.2)/\(DG W c.2.2/\NZ c.2.2)/\dv W c.1.2=dv W la/dv W lb/\dv W c.2.2=dv W la%dv W lb)
  (enters_of func321 wy rfl) hF ((OW _ _ la lb w h.2.1 h'.2.1 h.2.2 h'.2.2 (h.1 w hF.r) (h'.1 w hF.r) hb0 h1 h2).mono ?_) λc w' w'' hs hr=>⟨hr.1.Hd hs,hr.2.Hd hs⟩).imp
  λc F' hf=>⟨c,rfl,λF'' hle=>⟨⟨Va.le ⟨λw hw=>(hf.1 w hw).1,hf.2.1⟩ hle,Va.le ⟨λw hw=>(hf.1 w hw).2,hf.2.2.1⟩ hle⟩,hf.2.2.2⟩⟩
 rintro e w' ⟨_,rfl,⟨pq,pr,lq,lr,rfl,hsq,hsr,hdq,hdr,hvq,hvr⟩,hx⟩;obtain⟨q,cap,rfl,hq⟩:=hsq;obtain⟨q',cap',rfl,hq'⟩:=hsr;exact⟨((⟨q,lq.length,cap⟩,lq),(⟨q',lr.length,cap'⟩,lr)),rfl,⟨⟨q,cap,rfl,hq⟩,⟨q',cap',rfl,hq'⟩⟩,⟨hdq,hdr,hvq,hvr⟩,hx⟩
end
def En{b:Int}(hb:0<b):
  (0<=sg (decide (a<0)) (Jm a%b)->sg (decide (a<0)) (Jm a/b)=a/b/\sg (decide (a<0)) (Jm a%b)=a%b) /\
  (sg (decide (a<0)) (Jm a%b)<0->sg (decide (a<0)) (Jm a/b)-1=a/b/\sg (decide (a<0)) (Jm a%b)+b=a%b):=by
 have q1:=aE (Jm a) b;have q2:=aL (Jm a) (by omega:b≠0);have q3:=aI (Jm a) hb;generalize Jm a/b=q at *
 generalize hr:Jm a%b=r at *
 by_cases h:a<0
 ·rw[Ee h]at q1;have e1:sg (decide (a<0)) r = -r:=by simp[sg,h]
  have e2:sg (decide (a<0)) q = -q:=by simp[sg,h]
  rw[e1,e2];constructor
  ·intro h0;have:r=0:=O;have g1 : -q*b<=a:=by rw[bP,ak];omega
   have g2:a<(-q+1)*b:=by rw[bj,bP,ak q];omega
   exact⟨(YF hb g1 g2).symm,by rw[YU g1 g2,bP,ak q];omega⟩
  intro h0;have g1:(-q-1)*b<=a:=by rw[eN,bP,ak q];omega
  have g2:a<(-q-1+1)*b:=by rw[show -q-1+1 = -q from by omega,bP,ak];omega
  exact⟨(YF hb g1 g2).symm,by rw[YU g1 g2,eN,bP,ak q];omega⟩
 rw[GS O]at q1 hr;have e1:sg (decide (a<0)) r=r:=by simp[sg,h]
 have e2:sg (decide (a<0)) q=q:=by simp[sg,h]
 rw[e1,e2];constructor
 ·intro _;have g1:q*b<=a:=by rw[ak];omega
  have g2:a<(q+1)*b:=by rw[bj,ak q];omega
  exact⟨(YF hb g1 g2).symm,by rw[YU g1 g2,ak q];omega⟩
 intro h0;omega
def KE(x:Int):D8 x<0↔x<0:=by unfold D8;split<;>(try split)<;>omega
def Av(a b:Int):sz (Jm a/b)<=sz a:=by
 rw[<-N3 a];apply KZ;exact bA _ _
def cZ(n:Bool)(x:Int):sz (sg n x)=sz x:=by unfold sg;split<;>simp[Vf]
def O5{b:Int}(hb:0<b):sz (a%b)<=sz b:=by
 apply KZ;have:=aL a (by omega:b≠0);have:=aI a hb;omega
abbrev Tz(P:Program)(f:FuncId)(args:List Value)(w:World)(F:Gs)(y z:Int):Prop:=QT P f args w F (λ(c:Bg×Bg)=>.tuple #[c.1.v,c.2.v]) λc F=>XC F c.1 y/\XC F c.2 z
theorem OU{b:Int}(hF:Fits F w)(h:XC F g a)(h':XC F g' b)(hb0:0<b)(hza:sz a<=1000000000)(hzb:sz b<=1000000000)(hcase:g.q.isNone=true->g'.q.isNone=true->(g.s != -9223372036854775808)=false):
  Tz prog 283 [g.v,g'.v] w F (a/b) (a%b):=by
 refine QT.intro (G:=λF=>XC F g a/\XC F g' b) func283 rfl wy rfl rfl hF (λF' hF'=>⟨h.le hF',h'.le hF'⟩)<|QG<|QB ?_
 refine Qu I (vs:=[_,_]) I (λb2=>?_);refine Qu I (vs:=[_,_]) I (λb3=>?_);refine Qc Wj (λb4=>?_);refine Qc Wj (λb5=>?_);refine QJC<|QG ?_
 refine E6 28 (.bool false) ?_ ?_
 ·refine QB<|QA (QH I Mh Ha)<|QA (Qf I Ha .u3 (.skip .h1))<|QA (GL I I WU)<|QJD I ?_
  refine Qs (t:=19) rfl (λhb19=>?_) λhb19=>?_
  ·refine QL I I<|QA (QH I Mh Ha)<|QL I I<|QA (Qf I Ha .u2 (.skip .h1))<|QL I I<|QA (GL I I WU)<|wB 2 I ?_
   refine Qs (t:=24) rfl (λhb24=>?_) λhb24=>?_
   ·refine QL I I<|QA (QH I Rq JO)<|QL I I<|QA (Qf I JO .u3 .h1)<|wB 4 I ?_
    exact ZY (exd 15 rfl rfl) (congrArg (λb=>some (ai b)) (hcase hb19 hb24)) QJZ w9
   refine wB 5 I ?_;exact ZY (exd 15 rfl rfl) rfl QJZ w9
  refine wB 10 I ?_;exact ZY (exd 14 rfl rfl) rfl QJZ w9
 refine YV I ?_
 ·refine QKr 4 I<|QA (wH I Qn .u3) ?_
  refine QI I (λw F hF ⟨ha,hb⟩=>N7 hF (by assumption)) (λc53=>?_);rcases c53 with ⟨v53,l53⟩;dsimp only;refine JN _ (λw F hF ⟨⟨ha,hb⟩,⟨h53,h53p⟩⟩=>bJ h53.2 h53p) (λp53=>?_);have hl53:=ZE p53.1.1 p53.1.2 p53.2 hza;refine QKq 9 I<|QA (wH I Qn .u2) ?_
  refine QI I (λw F hF ⟨⟨ha,hb⟩,⟨h53,h53p⟩⟩=>N7 hF (by assumption)) (λc58=>?_);rcases c58 with ⟨v58,l58⟩;dsimp only;refine JN _ (λw F hF ⟨⟨⟨ha,hb⟩,⟨h53,h53p⟩⟩,⟨h58,h58p⟩⟩=>bJ h58.2 h58p) (λp58=>?_);have hl58:=ZE p58.1.1 p58.1.2 p58.2 hzb;have hb58:l58≠[]:=by rintro rfl;have:=p58.2;rw[GS O]at this;simp at this;omega
  refine QKq 11 I ?_;refine QI I (λw F hF ⟨⟨⟨ha,hb⟩,⟨h53,h53p⟩⟩,⟨h58,h58p⟩⟩=>IT hF (by assumption) (by assumption) hb58 O O) (λc64=>?_);rcases c64 with ⟨⟨v64,l64⟩,v64_,l64_⟩;dsimp only;refine JN _ (λw F hF ⟨⟨⟨⟨ha,hb⟩,⟨h53,h53p⟩⟩,⟨h58,h58p⟩⟩,⟨⟨h64,h64_⟩,h64p⟩⟩=>bJ h64.2 (bJ h64_.2 h64p)) (λp64=>?_);rw[p53.2,p58.2,GS (show 0<=b by omega)]at p64;refine QKq 11 I ?_;refine QI I (λw F hF ⟨⟨⟨⟨ha,hb⟩,⟨h53,h53p⟩⟩,⟨h58,h58p⟩⟩,⟨⟨h64,h64_⟩,h64p⟩⟩=>y6 hF (by assumption)) (λg69=>?_);refine wB 2 I ?_;refine QI I (λw F hF ⟨⟨⟨⟨⟨ha,hb⟩,⟨h53,h53p⟩⟩,⟨h58,h58p⟩⟩,⟨⟨h64,h64_⟩,h64p⟩⟩,h69⟩=>y6 hF (by assumption)) (λg72=>?_);refine Qc Wj (λb14=>?_);refine Qc Wj (λb15=>?_);refine QR (vs:=[_,_]) I I I Qn I .u1 .h2 wT<|QR (vs:=[_,_]) I I I Qn I .here .h2 wT<|QKq 5 I<|QA (wH I Qn .here) ?_
  refine QI I (λw F hF ⟨⟨⟨⟨⟨⟨ha,hb⟩,⟨h53,h53p⟩⟩,⟨h58,h58p⟩⟩,⟨⟨h64,h64_⟩,h64p⟩⟩,h69⟩,h72⟩=>RG hF (by assumption)) (λ_=>?_);refine QKq 3 I ?_;have hsz72:sz (sg (decide (a<0)) (dv W l64_))<=1000000000:=by rw[cZ,p64.2.2.2];exact ae (O5 hb0) hzb
  have hsz69:sz (sg (decide (a<0)) (dv W l64))<=1000000000:=by rw[cZ,p64.2.2.1];exact ae (Av a b) hza
  refine QO I (λhc=>?_) λhc=>?_
  ·refine Js 6 QJZ mixed wm wm ?_;simp only[aU,bF,aV,aQ];refine QK (wH I Qn .u1) ?_;refine QM I (λ_ _ f k=>FZ f O O) (λg77=>?_);refine QM I (λw F hF ⟨⟨⟨⟨⟨⟨⟨⟨ha,hb⟩,⟨h53,h53p⟩⟩,⟨h58,h58p⟩⟩,⟨⟨h64,h64_⟩,h64p⟩⟩,h69⟩,h72⟩,_⟩,h77⟩=>QEP hF (by assumption) (by assumption) hsz69 wu) (λg78=>?_);refine QK (wH I Qn .here)<|QK (wH I Qn .u4) ?_
   refine QM I (λw F hF ⟨⟨⟨⟨⟨⟨⟨⟨⟨ha,hb⟩,⟨h53,h53p⟩⟩,⟨h58,h58p⟩⟩,⟨⟨h64,h64_⟩,h64p⟩⟩,h69⟩,h72⟩,_⟩,h77⟩,h78⟩=>C4 hF (by assumption) hb hsz72 hzb) (λg81=>?_);refine Za<|QR (vs:=[_,_]) I I I Qn I .u1 .h2 wT<|QR (vs:=[_,_]) I I I Qn I .here .h2 wT<|QJC<|QG<|JK (.cons_cons _ (.cons_cons _ (.cons _ (.cons _ tC)))) mixed wm<|QK (wH I Qn .u1)<|QK (wH I Qn .here)<|JU (vs:=[_,_]) I I I Qn I .u3 (.cons_cons _ (.cons_cons _ (.cons _ tC))) w9 .h2 wT<|JU (vs:=[_,_]) I I I Qn I .u2 (.cons_cons _ (.cons_cons _ (.cons _ tC))) w9 .h2 wT<|Q5<|QC<|QW ?_
   exact JY (⟨g78,g81⟩) I (.JZ (c:=[_,_]) I Qn .u3 (.JZ (c:=[_,_]) I Qn .u2 .nil)) I λF ⟨⟨⟨⟨⟨⟨⟨⟨⟨⟨ha,hb⟩,⟨h53,h53p⟩⟩,⟨h58,h58p⟩⟩,⟨⟨h64,h64_⟩,h64p⟩⟩,h69⟩,h72⟩,_⟩,h77⟩,h78⟩,h81⟩=>(by have hd:=(En hb0).2 (by rw[<-p64.2.2.2];exact(KE _).1 (by simpa using hc));rw[p64.2.2.1]at h78;rw[p64.2.2.2]at h81;rw[hd.1]at h78;rw[hd.2]at h81;exact⟨h78,h81⟩)
  refine QKr 3 I<|JK (.cons_cons _ (.cons_cons _ (.cons _ (.cons _ tC)))) mixed wm<|QK (wH I Qn .u1)<|QK (wH I Qn .here)<|JU (vs:=[_,_]) I I I Qn I .u3 (.cons_cons _ (.cons_cons _ (.cons _ tC))) w9 .h2 wT<|JU (vs:=[_,_]) I I I Qn I .u2 (.cons_cons _ (.cons_cons _ (.cons _ tC))) w9 .h2 wT<|Q5<|QC<|QW ?_
  exact JY (⟨g69,g72⟩) I (.JZ (c:=[_,_]) I Qn .u3 (.JZ (c:=[_,_]) I Qn .u2 .nil)) I λF ⟨⟨⟨⟨⟨⟨⟨ha,hb⟩,⟨h53,h53p⟩⟩,⟨h58,h58p⟩⟩,⟨⟨h64,h64_⟩,h64p⟩⟩,h69⟩,h72⟩,_⟩=>(by have hd:=(En hb0).1 (by rw[<-p64.2.2.2];have:=mt (KE _).2 (by simpa using hc);omega);rw[p64.2.2.1]at h69;rw[p64.2.2.2]at h72;rw[hd.1]at h69;rw[hd.2]at h72;exact⟨h69,h72⟩)
theorem Eo{b:Int}(hF:Fits F w)(h:XC F g a)(h':XC F g' b)(hb0:0<b)(hza:sz a<=1000000000)(hzb:sz b<=1000000000):
  Tz prog 283 [g.v,g'.v] w F (a/b) (a%b):=by
 by_cases hs:g.q.isNone=true/\g'.q.isNone=true/\(g.s != -9223372036854775808)=true
 ·obtain⟨s,q,n,cap⟩:=g;obtain⟨s',q',n',cap'⟩:=g';have hp:=h w hF.r;have hp':=h' w hF.r;obtain⟨h1,h2,h3⟩:=hs;dsimp only at *
  rcases hp.isNone with ⟨rfl,rfl,rfl,rfl,k0,k1⟩ | ⟨_,_,rfl⟩
  ·rcases hp'.isNone with ⟨rfl,rfl,rfl,rfl,k0',k1'⟩ | ⟨_,_,rfl⟩
   ·have hm:s≠-9223372036854775808:=by simpa using h3
    refine(QT.lift (val:=λ(c:Bg×Bg)=>.tuple #[c.1.v,c.2.v]) (R:=λc w=>KB w c.1.s c.1.q c.1.n c.1.cap (s/s')/\KB w c.2.s c.2.q c.2.n c.2.cap (s%s')) (λ_=>True) (enters_of func283 wy rfl) hF
     ((U9 s s' w O k1 hb0 k1').mono ?_) λc w' w'' hs hr=>⟨hr.1.Hd hs,hr.2.Hd hs⟩).imp λc F' hf=>⟨c,rfl,λF'' hle=>⟨XC.le (λw hw=>(hf.1 w hw).1) hle,XC.le (λw hw=>(hf.1 w hw).2) hle⟩⟩
    rintro e w' ⟨_,rfl,⟨v,v',rfl,⟨s1,q1,n1,cap1,rfl,hp1⟩,⟨s2,q2,n2,cap2,rfl,hp2⟩⟩,hx⟩;exact⟨(⟨s1,q1,n1,cap1⟩,⟨s2,q2,n2,cap2⟩),rfl,⟨hp1,hp2⟩,trivial,hx⟩
   cases h2
  cases h1
 refine OU hF h h' hb0 hza hzb λh1 h2=>?_;cases hv:(g.s != -9223372036854775808)with
 |false=>rfl
 |true=>exact absurd ⟨h1,h2,hv⟩ hs
theorem MY{b:Int}(h:b ∣ a): -a / -b=a/b:=by
 obtain⟨c,rfl⟩:=h;by_cases hb:b=0
 ·subst hb;simp
 rw[Int.ediv_neg,<-lT,fD _ hb,fD _ hb];omega
theorem QAC{b:Int}(hF:Fits F w)(h:XC F g a)(h':XC F g' b)(hb0:b≠0)(hd:b ∣ a)(hza:sz a<=1000000000)(hzb:sz b<=1000000000):
  ZP prog 237 [g.v,g'.v] w F (a/b):=by
 refine QT.intro (G:=λF=>XC F g a/\XC F g' b) func237 rfl wy rfl rfl hF (λF' hF'=>⟨h.le hF',h'.le hF'⟩)<|QG<|QB ?_
 refine Qu I (vs:=[_,_]) I (λb2=>?_);refine Qu I (vs:=[_,_]) I (λb3=>?_);refine Qc Wj (λb4=>?_);refine QKq 5 I<|QA (wH I Qn .u1) ?_
 refine QI I (λw F hF ⟨ha,hb⟩=>RG hF (by assumption)) (λ_=>?_);refine QKq 3 I ?_;refine QO I (λhc=>?_) λhc=>?_
 ·refine Js 4 QJZ mixed wm wm ?_;simp only[aU,bF,aV,aQ];refine QK (wH I Qn .u2) ?_;refine QM I (λw F hF ⟨⟨ha,hb⟩,_⟩=>RX hF (by assumption)) (λg11=>?_);refine QK (wH I Qn .u1) ?_;refine QM I (λw F hF ⟨⟨⟨ha,hb⟩,_⟩,h11⟩=>RX hF (by assumption)) (λg13=>?_);refine Za<|QR (vs:=[_,_]) I I I Qn I .u2 .h2 wT<|QR (vs:=[_,_]) I I I Qn I .u1 .h2 wT<|QJC<|QKO<|QA (wH I Qn .u2)<|QA (wH I Qn .u1) ?_
  refine QI I (λ_ _ f k=>Eo f k.1.2 k.2 (by have:=(KE b).1 (by simpa using hc);omega) (by rw[Vf];exact hza) (by rw[Vf];exact hzb)) (λc17=>?_);rcases c17 with ⟨g17,g17_⟩;dsimp only;refine wB 3 I ?_;refine Qc Wj (λb5=>?_);refine Qc Wj (λb6=>?_);refine QR (vs:=[_,_]) I I I Qn I .u1 .h2 wT<|QR (vs:=[_,_]) I I I Qn I .here .h2 wT<|QJC<|QKO<|QA (wH I Qn .u1)<|QR (vs:=[_,_]) I I I Qn I .u2 .h2 wT<|QJC<|QW ?_
  exact QQ (_) rfl (.JZ (c:=[_,_]) I Qn .u2 .nil) rfl λF ⟨⟨⟨⟨⟨ha,hb⟩,_⟩,h11⟩,h13⟩,⟨h17,h17_⟩⟩=>(by rw[show -a / -b=a/b from MY hd]at h17;exact h17)
 refine QKr 4 I<|QA (wH I Qn .u2)<|QA (wH I Qn .u1) ?_
 refine QI I (λ_ _ f k=>Eo f k.1.1 k.1.2 (by have:=mt (KE b).2 (by simpa using hc);omega) hza hzb) (λc17=>?_);rcases c17 with ⟨g17,g17_⟩;dsimp only;refine wB 3 I ?_;refine Qc Wj (λb5=>?_);refine Qc Wj (λb6=>?_);refine QR (vs:=[_,_]) I I I Qn I .u1 .h2 wT<|QR (vs:=[_,_]) I I I Qn I .here .h2 wT<|QJC<|QKO<|QA (wH I Qn .u1)<|QR (vs:=[_,_]) I I I Qn I .u2 .h2 wT<|QJC<|QW ?_
 exact QQ (_) rfl (.JZ (c:=[_,_]) I Qn .u2 .nil) rfl λF h9=>h9.2.1
def zY(x:Int)(h:D8 x≠0):x≠0:=by rintro rfl;exact h rfl
def zc(x:Int)(h:D8 x=0):x=0:=by unfold D8 at h;split at h<;>(try split at h)<;>omega
structure QFp(a b:Int) where
 x:Int
 y:Int
 gx:Bg
 gy:Bg
 hx:0<=x
 hy:0<=y
 hg:ef x y=ef a b
 sx:sz x<=1000000000
 sy:sz y<=1000000000
theorem QAa{b:Int}(hF:Fits F w)(h:XC F g a)(h':XC F g' b)(hza:sz a<=1000000000)(hzb:sz b<=1000000000):
  ZP prog 204 [g.v,g'.v] w F (ef a b):=by
 refine QT.intro (G:=λF=>XC F g a/\XC F g' b) func204 rfl wy rfl rfl hF (λF' hF'=>⟨h.le hF',h'.le hF'⟩)<|QG<|QB ?_
 refine Qu I (vs:=[_,_]) I (λb2=>?_);refine Qu I (vs:=[_,_]) I (λb3=>?_);refine Qc Wj (λb4=>?_);refine QJC<|QG<|Js 4 QJZ mixed wm wm ?_
 simp only[aU,bF,aV,aQ];refine QK (wH I Qn .u2) ?_;refine QM I (λw F hF ⟨ha,hb⟩=>QAv hF (by assumption)) (λg8=>?_);refine QK (wH I Qn .u1) ?_;refine QM I (λw F hF ⟨⟨ha,hb⟩,h8⟩=>QAv hF (by assumption)) (λg10=>?_);refine Za<|QR (vs:=[_,_]) I I I Qn I .u2 .h2 wT<|QR (vs:=[_,_]) I I I Qn I .u1 .h2 wT<|QKq 4 I ?_
 refine YA (ι:=QFp a b) (λi=>[(2,.pointer (some ⟨b2,0,none⟩)),(3,.pointer (some ⟨b3,0,none⟩)),(4,.pointer (some ⟨b4,0,none⟩))]) (λi=>[(b4,.cells #[.int .i64 0,.slice none 0 0] 93 (0,0)),(b3,.cells #[.int .i64 i.gy.s,.slice i.gy.q i.gy.n i.gy.cap] 93 (0,0)),(b2,.cells #[.int .i64 i.gx.s,.slice i.gx.q i.gx.n i.gx.cap] 93 (0,0))])
  (λi F=>XC F i.gx i.x/\XC F i.gy i.y) (λi=>i.y.toNat) ⟨Jm a,Jm b,g8,g10,by rw[VJ];omega,by rw[VJ];omega,by rw[VJ,VJ];rfl,by rw[N3];exact hza,by rw[N3];exact hzb⟩ wU QJZ (λ_ ⟨⟨_,h8⟩,h10⟩=>⟨h8,h10⟩) λi=>?_
 refine QG<|QKO<|QA (wH I Qn .u1) ?_
 refine QI I (λw F hF ⟨hX,hY⟩=>RG hF (by assumption)) (λ_=>?_);refine QKq 3 I ?_;refine QO I (λhc=>?_) λhc=>?_
 ·refine QKr 5 I<|QA (wH I Qn .u2)<|QA (wH I Qn .u1) ?_
  refine QI I (λ_ _ f k=>Eo f k.1.1 k.1.2 (by have:=i.hy;have:=zY i.y (by simpa using hc);omega) i.sx i.sy) (λc17=>?_);rcases c17 with ⟨g17,g17_⟩;dsimp only;refine wB 3 I ?_;refine Qc Wj (λb5=>?_);refine Qc Wj (λb6=>?_);refine QR (vs:=[_,_]) I I I Qn I .u1 .h2 wT<|QR (vs:=[_,_]) I I I Qn I .here .h2 wT<|QJC<|Js 3 (.cons_cons _ (.cons_cons _ (.cons_cons _ (.cons_cons _ (.cons _ .slnil))))) mixed wm wm ?_
  simp only[aU,bF,aV,aQ];refine QK (wH I Qn .u3)<|QK (wH I Qn .here)<|JU (vs:=[_,_]) I I I Qn I .u4 tC w9 .h2 wT<|Za<|QR (vs:=[_,_]) I I I Qn I .u3 .h2 wT<|QE<|Qk ?_
  have hy0:0<i.y:=by have:=i.hy;have:=zY i.y (by simpa using hc);omega
  have hm0:=aL i.x (by omega:i.y≠0);have hm1:=aI i.x hy0;refine Ql (⟨i.y,i.x%i.y,i.gy,g17_,i.hy,hm0,by rw[<-i.hg,lE,Int.emod_def];first | rw[Int.gcd_sub_mul_left_left] | rw[Int.gcd_sub_mul_right_left] | rw[Int.gcd_sub_mul_left_right],i.sy,ae (O5 hy0) i.sy⟩:QFp a b) (by show(i.x%i.y).toNat<i.y.toNat;omega) wU (.cons _ (.cons _ QJZ)) λ_ ⟨⟨⟨_,hY⟩,_⟩,⟨_,h17⟩⟩=>⟨hY,h17⟩
 refine Q2 ?_
 repeat first|refine QY ?_|refine QP wy ?_
 refine QZ<|QC<|QKO<|QA (wH I Qn .u2)<|QR (vs:=[_,_]) I I I Qn I .here .h2 wT<|QJC<|QW ?_
 exact QQ (_) rfl (.JZ (c:=[_,_]) I Qn .here .nil) rfl λF h9=>(by have h0:i.y=0:=zc i.y (by simpa using hc);have e:=i.hg;rw[h0,Int.gcd_zero_right]at e;rw[<-e,ia i.hx];exact h9.1.1)
def Dl(a:Int):∀e:Nat,sz (a^e)<=e*sz a+1
 |0=>by simp;decide
 |e+1=>by
  rw[bz];have:=Vx (a^e) a;have:=Dl a e;rw[bN];omega
structure QCh(K:Nat) where
 k:Int
 e:Nat
 p:Nat
 go:Bg
 gx:Bg
 hk:0<=k
 hK:k<=9223372036854775807
 hp:1<=p
 h:e+p*k.toNat=K
structure QCg(K p:Nat)(k:Int) where
 e:Nat
 go:Bg
 h:e+p*(2*(k.toNat/2))=K
def UY{K e:Nat}(he:e<=K)(h:K*sz a<=500000000):sz (a^e)<=1000000000:=by
 have h1:=Dl a e;have h2:=fW (sz a) he;omega
theorem yL{k:Int}(hF:Fits F w)(h:XC F g a)(hk:0<=k)(hK:k<=9223372036854775807)(hz:k.toNat*sz a<=500000000):
  ZP prog 287 [g.v,.int .i64 k] w F (a^k.toNat):=by
 refine QT.intro (G:=λF=>XC F g a) func287 rfl wy rfl rfl hF (λF' hF'=>h.le hF')<|QKO<|Qu rfl (vs:=[_,_]) rfl λb2=>Qc Wj λb4=>QJC<|QKO<|QI rfl (λ_ _ f k=>FZ f O O) λg6=>Qc Wj λb5=>QR (vs:=[_,_]) rfl rfl rfl Qn rfl .here .h2 wT<|QKq 4 I ?_
 refine YA (ι:=QCh k.toNat) (λi=>[(1,.int .i64 i.k),(2,.pointer (some ⟨b2,0,none⟩)),(4,.pointer (some ⟨b4,0,none⟩)),(5,.pointer (some ⟨b5,0,none⟩))]) (λi=>[(b5,.cells #[.int .i64 i.go.s,.slice i.go.q i.go.n i.go.cap] 93 (0,0)),(b4,.cells #[.int .i64 0,.slice none 0 0] 93 (0,0)),(b2,.cells #[.int .i64 i.gx.s,.slice i.gx.q i.gx.n i.gx.cap] 93 (0,0))])
  (λi F=>XC F i.go (a^i.e)/\XC F i.gx (a^i.p)) (λi=>i.k.toNat) ⟨k,0,1,g6,g,hk,hK,aF _,wz⟩ wV QJZ (λ_ ⟨h1,h6⟩=>⟨by simpa using h6,by show XC _ _ (a^1);rw[bz,lC,fg];exact h1⟩) λi=>?_
 refine wA 7 I ?_;refine QO I (λhc=>?_) λhc=>?_
 ·refine QKr 4 I ?_;have hk0:0<i.k:=by simpa using hc
  have hpk:i.p<=k.toNat:=by have:=i.h;have:=aM i.p (show 1<=i.k.toNat by omega);omega
  have hik:=i.hk;have hiK:=i.hK;refine Bh (ι:=QCg k.toNat i.p i.k) (λj=>[(1,.int .i64 i.k),(2,.pointer (some ⟨b2,0,none⟩)),(4,.pointer (some ⟨b4,0,none⟩)),(5,.pointer (some ⟨b5,0,none⟩))]) (λj=>[(b5,.cells #[.int .i64 j.go.s,.slice j.go.q j.go.n j.go.cap] 93 (0,0)),(b4,.cells #[.int .i64 0,.slice none 0 0] 93 (0,0)),(b2,.cells #[.int .i64 i.gx.s,.slice i.gx.q i.gx.n i.gx.cap] 93 (0,0))])
   (λj F=>XC F j.go (a^j.e)/\XC F i.gx (a^i.p)) ?_ ?_
  ·refine wR I<|QA (QBY I I O)<|QKq 3 I ?_
   refine QO I (λhc=>?_) λhc=>?_
   ·refine QB<|QA (wH I Qn .here)<|QA (wH I Qn .u2)<|QI I (λ_ _ f k=>DY f k.1 k.2 (UY (wk i.h) hz) (UY hpk hz)) λg16=>QR (vs:=[_,_]) I I I Qn I .here .h2 wT<|QE ?_
    have hodd:i.k%2=1:=by simpa using hc
    refine ZQ (⟨i.e+i.p,g16,by have:=i.h;have e:i.k.toNat=2*(i.k.toNat/2)+1:=O;rw[e,lP]at this;omega⟩:QCg k.toNat i.p i.k) wV QJZ λ_ ⟨⟨_,hX⟩,h16⟩=>⟨by show XC _ _ (a^(i.e+i.p));rw[hJ];exact h16,hX⟩
   refine QN ?_;have hev:i.k%2=0:=by have:i.k%2≠1:=(by simpa using hc);omega
   refine ZQ (⟨i.e,i.go,by have:=i.h;have e:i.k.toNat=2*(i.k.toNat/2):=O;rw[<-e];exact this⟩:QCg k.toNat i.p i.k) wV QJZ w9
  intro j;refine wA 6 I ?_;refine QO I (λhc=>?_) λhc=>?_
  ·refine QB<|QA (wH I Qn .u2)<|QA (wH I Qn .u2)<|QI I (λ_ _ f k=>DY f k.2 k.2 (UY hpk hz) (UY hpk hz)) λg21=>QR (vs:=[_,_]) I I I Qn I .u2 .h2 wT<|QE<|Qk<|QKs 3 I<|QA (z7 I I)<|wB 2 I ?_
   have hk2:(i.k/2).toNat=i.k.toNat/2:=O;refine Ql (⟨i.k/2,j.e,i.p+i.p,j.go,g21,O,O,wk i.hp,by rw[hk2];have:=j.h;rw[Nat.mul_left_comm]at this;rw[bN];omega⟩:QCh k.toNat) (by show(i.k/2).toNat<i.k.toNat;omega) wV QJZ λ_ ⟨⟨hO,_⟩,h21⟩=>⟨hO,by show XC _ _ (a^(i.p+i.p));rw[hJ];exact h21⟩
  refine QN<|Qk<|QKs 3 I<|QA (z7 I I)<|wB 2 I ?_
  have hk1:i.k=1:=by have:¬1<i.k:=(by simpa using hc);omega
  have hk2:(i.k/2).toNat=i.k.toNat/2:=O;refine Ql (⟨i.k/2,j.e,i.p,j.go,i.gx,O,O,i.hp,by rw[hk2];have:=j.h;have h0:i.k.toNat/2=0:=O;rw[h0]at this ⊢;simpa using this⟩:QCh k.toNat) (by show(i.k/2).toNat<i.k.toNat;omega) wV QJZ w9
 refine Q2 ?_
 repeat first|refine QY ?_|refine QP wy ?_
 refine QZ<|QC<|QKO<|QA (wH I Qn .here)<|QR (vs:=[_,_]) I I I Qn I .u1 .h2 wT<|QJC<|QW ?_
 exact QQ (_) rfl (.JZ (c:=[_,_]) I Qn .u1 .nil) rfl λF h9=>(by have h0:i.k.toNat=0:=(by have:¬0<i.k:=(by simpa using hc);omega);have e:=i.h;rw[h0]at e;have e2:i.e=k.toNat:=(by simpa using e);have e3:=congrArg (λn=>XC F i.go (a^n)) e2;exact cast e3 h9.1)
structure Fr where
 n:Bg
 d:Bg
@[reducible] def Fr.v (x:Fr):Value:=.agg #[.int .i64 x.n.s,.slice x.n.q x.n.n x.n.cap,.int .i64 x.d.s,.slice x.d.q x.d.n x.d.cap]
def JP(F:Gs)(x:Fr)(r:Rat):Prop:=XC F x.n r.num/\XC F x.d r.den
def JP.le{x:Fr}{r:Rat}(h:JP F x r)(k:Gs.le F F'):JP F' x r:=⟨h.1.le k,h.2.le k⟩
abbrev X1(P:Program)(f:FuncId)(args:List Value)(w:World)(F:Gs)(r:Rat):Prop:=QT P f args w F Fr.v λx F=>JP F x r
def JQ(r:Rat):Nat:=max (sz r.num) (sz (r.den:Int))
def Jw(r:Rat):sz r.num<=JQ r:=iR _ _
def Jp(r:Rat):sz (r.den:Int)<=JQ r:=iN _ _
def den_pos(r:Rat):(0:Int)<r.den:=wk r.den_pos
theorem KB.one{s:Int}{q:Option Addr}(h:KB w s q n cap z):(q.isNone=true->(s==1)=decide (z=1))/\(q.isNone=false->decide (z=1)=false):=by
 rcases h with ⟨rfl,rfl,rfl,rfl,_⟩ | ⟨b,off,l,rfl,_,_,_,_,_,_,_,h,hz,hb⟩
 ·exact⟨λ_=>by rw[av];simp,λh=>(by cases h)⟩
 refine⟨λh=>(by cases h),λ_=>?_⟩;rcases h with rfl | rfl<;>simp<;>omega
structure MkI(a b:Int) where
 x:Int
 y:Int
 gx:Bg
 gy:Bg
 hy:0<y
 e:aG x y=aG a b
 sx:sz x<=1000000000
 sy:sz y<=1000000000
def OY(x:Int):(aG x 1).num=x/\(aG x 1).den=1:=by
 rw[iU,iV];simp
def Gz{x y:Int}(h:0<y):(ef x y:Int)≠0:=by
 have:ef x y≠0:=by rw[Ne,Int.gcd_eq_zero_iff];omega
 omega
def II{x y:Int}(h:0<y):sz (ef x y:Int)<=sz y:=by
 apply KZ;have:=Int.gcd_le_right x h;omega
def V4{x y:Int}(h:0<y):(aG x y).num=x/(ef x y:Int)/\((aG x y).den:Int)=y/(ef x y:Int):=by
 rw[iU,iV,if_neg O,Int.sign_eq_one_of_pos h,fg,lE y x];refine⟨rfl,?_⟩;rw[Int.natCast_ediv,ia O]
theorem Ui{b:Int}(hF:Fits F w)(h:XC F g a)(h':XC F g' b)(hb0:b≠0)(hza:sz a<=1000000000)(hzb:sz b<=1000000000):
  X1 prog 138 [g.v,g'.v] w F (aG a b):=by
 refine QT.intro (G:=λF=>XC F g a/\XC F g' b) func138 rfl wy rfl rfl hF (λF' hF'=>⟨h.le hF',h'.le hF'⟩)<|QG<|QB ?_
 refine Qu I (vs:=[_,_]) I (λb2=>?_);refine Qu I (vs:=[_,_]) I (λb3=>?_);refine Qc XZ (λb4=>?_);refine QE<|QC ?_
 refine Bh (ι:=MkI a b) (λi=>[(2,.pointer (some ⟨b2,0,none⟩)),(3,.pointer (some ⟨b3,0,none⟩)),(4,.pointer (some ⟨b4,0,none⟩))]) (λi=>[(b4,.cells #[.int .i64 0,.slice none 0 0,.int .i64 0,.slice none 0 0] 95 (0,0)),(b3,.cells #[.int .i64 i.gy.s,.slice i.gy.q i.gy.n i.gy.cap] 93 (0,0)),(b2,.cells #[.int .i64 i.gx.s,.slice i.gx.q i.gx.n i.gx.cap] 93 (0,0))]) (λi F=>XC F i.gx i.x/\XC F i.gy i.y) ?_ ?_
 ·refine QKO<|QA (wH I Qn .u1) ?_
  refine QI I (λw F hF ⟨ha,hb⟩=>RG hF (by assumption)) (λ_=>?_);refine QKq 3 I ?_;refine QO I (λhc=>?_) λhc=>?_
  ·refine Js 4 QJZ mixed wm wm ?_;simp only[aU,bF,aV,aQ];refine QK (wH I Qn .u2) ?_;refine QM I (λw F hF ⟨⟨ha,hb⟩,_⟩=>RX hF (by assumption)) (λg10=>?_);refine QK (wH I Qn .u1) ?_;refine QM I (λw F hF ⟨⟨⟨ha,hb⟩,_⟩,h10⟩=>RX hF (by assumption)) (λg12=>?_);refine Za<|QR (vs:=[_,_]) I I I Qn I .u2 .h2 wT<|QR (vs:=[_,_]) I I I Qn I .u1 .h2 wT<|QE ?_
   have hb1:b<0:=(KE b).1 (by simpa using hc);exact ZQ (⟨-a,-b,g10,g12,O,iz a b,by rw[Vf];exact hza,by rw[Vf];exact hzb⟩:MkI a b) wU QJZ λ_ ⟨⟨_,h10⟩,h12⟩=>⟨h10,h12⟩
  refine QN ?_;have hb1:¬b<0:=mt (KE b).2 (by simpa using hc);exact ZQ (⟨a,b,g,g',O,rfl,hza,hzb⟩:MkI a b) wU QJZ tA
 intro i;refine QG ?_;refine XQ _ (λw _ f k=>(k.2 w f.r).one) (λp1=>?_);refine E6 20 (.bool (decide (i.y=1))) ?_ ?_
 ·refine QB<|QA (QH I Mh Ha)<|QA (Qf I Ha .u1 (.skip .h1))<|QA (GL I I WU)<|QJD I ?_
  refine Qs (t:=16) rfl (λhb16=>?_) λhb16=>?_
  ·refine QL I I<|QA (QH I Rq JO)<|QL I I<|QA (Qf I JO .u1 .h1)<|wB 4 I ?_
   exact ZY (exd 9 rfl rfl) (congrArg (λb=>some (ai b)) (p1.1 hb16)) QJZ w9
  refine wB 5 I ?_;exact ZY (exd 9 rfl rfl) (congrArg (λb=>some (ai b)) (p1.2 hb16).symm) QJZ w9
 refine QO I (λhc=>?_) λhc=>?_
 ·refine QKO<|QA (wH I Qn .u2)<|QA (wH I Qn .u1)<|QA (Qx I TL XZ (.cons (vs:=[_,_]) I I I .h2 (.cons (vs:=[_,_]) I I I (.skip (.skip .h2)) .nil)))<|QR (vs:=[_,_,_,_]) I I I Qa I .here .h4 wV<|QJC<|QW ?_
  exact QQ (⟨i.gx,i.gy⟩) I (.JZ (c:=[_,_,_,_]) I Qa .here .nil) rfl λF ⟨ha,hb⟩=>(by have h1:i.y=1:=(by simpa using hc);have e:=OY i.x;rw[<-i.e,h1];exact⟨by rw[e.1];exact ha,by rw[e.2];have hb1:=hb;rw[h1]at hb1;exact hb1⟩)
 refine QKr 4 I<|QA (wH I Qn .u2)<|QA (wH I Qn .u1) ?_
 refine QI I (λ_ _ f k=>QAa f k.1 k.2 i.sx i.sy) (λg26=>?_);refine Qc Wj (λb5=>?_);refine QR (vs:=[_,_]) I I I Qn I .here .h2 wT<|QJC<|QG<|JK (.cons_cons _ (.cons _ tC)) mixed wm<|QK (wH I Qn .u2)<|QK (wH I Qn .here) ?_
 refine QM I (λ_ _ f k=>QAC f k.1.1 k.2 (Gz i.hy) (Int.gcd_dvd_left ..) i.sx (ae (II i.hy) i.sy)) (λg29=>?_);refine QK (wH I Qn .u1)<|QK (wH I Qn .here) ?_
 refine QM I (λ_ _ f k=>QAC f k.1.1.2 k.1.2 (Gz i.hy) (Int.gcd_dvd_right ..) i.sy (ae (II i.hy) i.sy)) (λg32=>?_);refine QK (Qx I TL XZ (.cons (vs:=[_,_]) I I I .h2 (.cons (vs:=[_,_]) I I I (.skip (.skip .h2)) .nil)))<|JU (vs:=[_,_,_,_]) I I I Qa I .u1 tC (λ_ h=>h.1.1) .h4 wV<|Q5<|QC<|QW ?_
 exact QQ (⟨g29,g32⟩) I (.JZ (c:=[_,_,_,_]) I Qa .u1 .nil) rfl λF h9=>(by have e:=V4 (x:=i.x) i.hy;rw[<-i.e];exact⟨by rw[e.1];exact h9.1.2,by rw[e.2];exact h9.2⟩)
theorem EB{a:Int}(hF:Fits F w)(h:XC F g a):X1 prog 136 [g.v] w F (a:Rat):=by
 refine QT.intro (G:=λF=>XC F g a) func136 rfl wy rfl rfl hF (λF' hF'=>h.le hF')<|QG<|QB ?_
 refine Qu I (vs:=[_,_]) I (λb1=>?_);refine Qc XZ (λb2=>?_);refine QJC<|QG<|JK (.cons _ tC) mixed wm<|QK (wH I Qn .here) ?_
 refine QM I (λ_ _ f k=>FZ f O O) (λg4=>?_);refine QK (Qx I TL XZ (.cons (vs:=[_,_]) I I I .h2 (.cons (vs:=[_,_]) I I I (.skip (.skip .h2)) .nil)))<|JU (vs:=[_,_,_,_]) I I I Qa I .here tC tA .h4 wV<|Q5<|QC<|QW ?_
 exact QQ (⟨g,g4⟩) I (.JZ (c:=[_,_,_,_]) I Qa .here .nil) rfl λF h9=>⟨h9.1,h9.2⟩
theorem Sk{n:Int}(hF:Fits F w)(h0 : -9223372036854775808<=n)(h1:n<=9223372036854775807):X1 prog 93 [.int .i64 n] w F (n:Rat):=by
 refine QT.intro (G:=λF=>True) func93 rfl wy rfl rfl hF w8<|QG<|QB ?_
 refine Qc XZ (λb2=>?_);refine QKq 5 I ?_;refine QI I (λ_ _ f _=>FZ f O O) (λg4=>?_);refine QI I (λw F hF ⟨_,h4⟩=>EB hF (by assumption)) (λx5=>?_);refine QR (vs:=[_,_,_,_]) I I I Qa I .here .h4 wV<|QJC<|QW ?_
 exact QQ (_) rfl (.JZ (c:=[_,_,_,_]) I Qa .here .nil) rfl λF ⟨⟨_,h4⟩,⟨h5,h5_⟩⟩=>⟨‹_›,‹_›⟩
theorem My{x:Fr}{r:Rat}(hF:Fits F w)(h:JP F x r):Qe prog 47 [x.v] w F (.int .i64 (D8 r.num)):=by
 refine QT.intro (G:=λF=>JP F x r) func47 rfl wy rfl rfl hF (λF' hF'=>h.le hF')<|QG<|QB ?_
 refine Qu I (vs:=[_,_,_,_]) I (λb1=>?_);refine QKq 5 I<|QA (QH I Yq Qn)<|QA (wH I Qn .here) ?_
 refine QI I (λ_ _ f k=>RG (g:=x.n) f k.1) (λ_=>?_);refine wQ I<|QW ?_
 exact QKx I I I w8
theorem Mb{x:Fr}{r:Rat}(hF:Fits F w)(h:JP F x r):Qe prog 135 [x.v] w F (.bool (decide ((r.den:Int)=1))):=by
 refine QT.intro (G:=λF=>JP F x r) func135 rfl wy rfl rfl hF (λF' hF'=>h.le hF') ?_;refine XQ _ (λw _ f h=>(h.2 w f.r).one) (λp1=>?_);refine QG<|QB ?_
 refine Qu I (vs:=[_,_,_,_]) I (λb1=>?_);refine QKq 5 I<|QA (QH I Yp Qn)<|QA (QH I Mh Ha)<|QA (Qf I Ha .here (.skip (.skip (.skip .h1))))<|QA (GL I I WU)<|QJD I ?_
 refine Qs (t:=7) rfl (λhb7=>?_) λhb7=>?_
 ·refine QL I I<|QA (QH I Yp Qn)<|QL I I<|QA (QH I Rq JO)<|QL I I<|QA (Qf I JO .here (.skip (.skip .h1)))<|QKq 7 I ?_
  exact QKx I I (by show ai _=ai _;rw[<-p1.1 hb7];first | rfl | skip) w8
 refine QKq 9 I ?_;exact QKx I I (congrArg ai (p1.2 hb7)) w8
theorem Ux{x:Fr}{r:Rat}(hF:Fits F w)(h:JP F x r):X1 prog 277 [x.v] w F (-r):=by
 refine QT.intro (G:=λF=>JP F x r) func277 rfl wy rfl rfl hF (λF' hF'=>h.le hF')<|QG<|QB ?_
 refine Qu I (vs:=[_,_,_,_]) I (λb1=>?_);refine Qc XZ (λb2=>?_);refine QJC<|QG<|JK (.cons _ tC) mixed wm<|QK (QH I Yq Qn)<|QK (wH I Qn .here) ?_
 refine QM I (λ_ _ f k=>RX (g:=x.n) f k.1) (λg5=>?_);refine QK (QH I Yp Qn)<|QK (QJ (vs:=[_,_]) I Qn .here (.skip (.skip .h2)) I)<|QK (Qx I TL XZ (.cons (vs:=[_,_]) I I I .h2 (.cons (vs:=[_,_]) I I I (.skip (.skip .h2)) .nil)))<|JU (vs:=[_,_,_,_]) I I I Qa I .here tC tA .h4 wV<|Q5<|QC<|QW ?_
 exact QQ (⟨g5,x.d⟩) I (.JZ (c:=[_,_,_,_]) I Qa .here .nil) rfl λF h9=>⟨h9.2,h9.1.2⟩
@[reducible] def tx (l:List UInt8):Value:=.string ⟨l.toArray⟩
theorem Y3(l:List UInt8):(⟨l.toArray⟩:ByteArray).size=l.length:=by simp[e9]
def Bk(l:List UInt8):(⟨l.toArray⟩:ByteArray).toList=l:=by rw[ByteArray.toList_eq]
def qH(a b:List UInt8):(⟨a.toArray⟩++⟨b.toArray⟩:ByteArray)=⟨(a++b).toArray⟩:=by
 apply ix;simp
def Ld(l:List UInt8)(i j:Nat):(⟨l.toArray⟩:ByteArray).extract i j=⟨((l.take j).drop i).toArray⟩:=by
 apply ix;simp only[ByteArray.data_extract,List.extract_toArray,List.extract_eq_take_drop];rw[Array.mk.injEq,List.drop_take]
section
variable{P:Program}{N:Nat}{m:Sl}{Y:World->Prop}{ty:TypeId}
def Ye{a b:List UInt8}(hx:ev m x=some (tx a))(hy:ev m y=some (tx b))(h:a.length+b.length<=9223372036854775807):Qt P N m Y (.binOp .add T x y yT) ty (tx (a++b)):=by
 have:=yF (P:=P) (N:=N) (m:=m) (S:=Y) (ty:=ty) (T:=T) (yT:=yT) hx hy (by rw[Y3,Y3];omega);rw[qH]at this;exact this
def VD{a b:List UInt8}(hx:ev m x=some (tx a))(hy:ev m y=some (tx b)):Qt P N m Y (.binOp .eql T x y yT) ty (.bool (a==b)) :=
 QU hx hy (by show some (ai (bY _==bY _))=_;rw[Bk,Bk])
def L1{a b:List UInt8}(hx:ev m x=some (tx a))(hy:ev m y=some (tx b)):Qt P N m Y (.binOp .neq T x y yT) ty (.bool (!(a==b))) :=
 QU hx hy (by show some (ai (!(bY _==bY _)))=_;rw[Bk,Bk])
def X7{a:List UInt8}(hx:ev m x=some (tx a))(hT:Bo P T=true):Qt P N m Y (.call ⟨.builtin .len,#[x],#[T]⟩) ty (.int .i64 a.length):=by
 have:=yD (P:=P) (N:=N) (S:=Y) (ty:=ty) hx hT;rw[Y3]at this;exact this
def Hq{a:List UInt8}{i:Nat}(hx:ev m x=some (tx a))(hy:ev m y=some (.int .i64 (i:Int)))(hT:Bo P T=true)(hi:i<a.length):Qt P N m Y (.index T x y) ty (.int .u8 (a[i].toNat:Int)):=by
 have:=yE (P:=P) (N:=N) (S:=Y) (ty:=ty) hx hy hT (by rw[Y3];exact hi);simpa using this
def RO{lo:Option Operand}{vl:Option Value}{a:List UInt8}(l h:Nat)(hx:ev m x=some (tx a))(el:OS m lo=some vl)(eh:OS m hi=some vh)(hT:Bo P T=true)
  (hlo:(vl=none/\l=0)\/vl=some (.int .i64 (l:Int))) (hhi:(vh=none/\h=a.length)\/vh=some (.int .i64 (h:Int))) (h1:l<=h) (h2:h<=a.length):Qt P N m Y (.slice T x lo hi none) ty (tx ((a.take h).drop l)):=by
 have:=Ly (P:=P) (N:=N) (S:=Y) (ty:=ty) hx el eh hT hlo (by rw[Y3];exact hhi) h1 (by rw[Y3];exact h2);rw[Ld]at this;exact this
def Mw{a:List UInt8}(h:Nat)(hx:ev m x=some (tx a))(eh:OS m hi=some vh)(hT:Bo P T=true)(hhi:vh=some (.int .i64 (h:Int)))(h2:h<=a.length):Qt P N m Y (.slice T x none hi none) ty (tx (a.take h)) :=
 RO (P:=P) (N:=N) (m:=m) (Y:=Y) (ty:=ty) (lo:=none) (vl:=none) 0 h hx rfl eh hT (.inl ⟨rfl,rfl⟩) (.inr hhi) (eK _) h2
theorem GG{lo:Option Operand}{vl:Option Value}{a:List UInt8}(l:Nat)(hx:ev m x=some (tx a))(el:OS m lo=some vl)(hT:Bo P T=true)(hlo:vl=some (.int .i64 (l:Int)))(h1:l<=a.length):Qt P N m Y (.slice T x lo none none) ty (tx (a.drop l)):=by
 have:=RO (P:=P) (N:=N) (m:=m) (Y:=Y) (ty:=ty) (hi:=none) (vh:=none) l a.length hx el I hT (.inr hlo) (.inl ⟨rfl,rfl⟩) h1 (aF _);rw[List.take_length]at this;exact this
end
def JC(F:Gs):Prop:=(∃m T,F 0=some (#[.int .i64 m],T))/\∃T,F 5=some ((Lib.pow10Tab.map λz=>ao .u64 z).toArray,T)
theorem JC.le(h:JC F)(k:Gs.le F F'):JC F':=by
 obtain⟨⟨m,T,h1⟩,T',h2⟩:=h;exact⟨⟨m,T,k _ _ h1⟩,T',k _ _ h2⟩
theorem JC.max(hF:Fits F w)(h:JC F):∃m,w.cell? ⟨0,0,none⟩=some (.int .i64 m):=by
 obtain⟨⟨m,T,h1⟩,_⟩:=h;obtain⟨fr,e⟩:=hF.row _ _ _ h1;exact⟨m,by simp[eH,e]⟩
theorem JC.dT(hF:Fits F w)(h:JC F):iO prog w "internal/strconv.uint64pow10" .u64 lG:=by
 obtain⟨_,T,h2⟩:=h;obtain⟨fr,e⟩:=hF.row _ _ _ h2;have hg:prog.globalNamed "internal/strconv.uint64pow10" = some 5:=wm;unfold iO World.var?;rw[hg];simp only[Option.bind_some,e]
theorem R8(w:World)(e:TypeId)(s:ByteArray):Ext w (Lib.bytesWorld w e s) :=
 ⟨rfl,rfl,rfl,by rw[Lib.bytesWorld_size];omega,λk hk=>Lib.bytesWorld_at_old w e s k hk⟩
theorem IE(w:World)(os:Array Obj):Ext w (fF w os) :=
 ⟨rfl,rfl,rfl,by simp[fF],λk hk=>by
  show(w.heap++os)[k]?=_;rw[fL,if_pos hk]⟩
section
variable{w:World}{F:Gs}
theorem QAk(hF:Fits F w)(hG:JC F){s p:List UInt8}(hs:s.length<4294967281):Qe prog 201 [tx s,tx p] w F (.tuple #[tx (fq s p).1,tx (fq s p).2.1,.bool (fq s p).2.2]):=by
 obtain⟨m,hm⟩:=hG.max hF;refine .of (enters_of func201 wy rfl) hF ((strings_Cut ⟨s.toArray⟩ ⟨p.toArray⟩ m w (by rw[Y3];exact hs) hm).mono ?_);rintro e w' ⟨h1,n,rfl⟩;exact⟨h1,(Ext.refl w).drewN n⟩
theorem IW(hF:Fits F w){s p:List UInt8}:Qe prog 202 [tx s,tx p] w F (.tuple #[tx (ah s p),.bool (aC s p)]):=by
 refine .of (enters_of func202 wy rfl) hF ((strings_CutPrefix ⟨s.toArray⟩ ⟨p.toArray⟩ w).mono ?_);rintro e w' ⟨h1,rfl⟩;exact⟨h1,Ext.refl _⟩
theorem IC(hF:Fits F w){s p:List UInt8}:Qe prog 284 [tx s,tx p] w F (.bool (aC s p)):=by
 refine .of (enters_of func284 wy rfl) hF ((strings_HasPrefix ⟨s.toArray⟩ ⟨p.toArray⟩ w).mono ?_);rintro e w' ⟨h1,rfl⟩;exact⟨h1,Ext.refl _⟩
theorem ED(hF:Fits F w){s p:List UInt8}:Qe prog 285 [tx s,tx p] w F (tx (ah s p)):=by
 refine .of (enters_of func285 wy rfl) hF ((strings_TrimPrefix ⟨s.toArray⟩ ⟨p.toArray⟩ w).mono ?_);rintro e w' ⟨h1,rfl⟩;exact⟨h1,Ext.refl _⟩
theorem zw(hF:Fits F w){s:List UInt8}{c:Nat}(hc:s.length*c<=140737488355328)(hc':c<=140737488355328):Qe prog 323 [tx s,.int .i64 c] w F (tx (fh s c)):=by
 refine .of (enters_of func323 wy rfl) hF ((strings_Repeat ⟨s.toArray⟩ c w O (by rw[Y3];exact hc)).mono ?_);rintro e w' ⟨h1,h2⟩;exact⟨h1,h2⟩
theorem QCc(hF:Fits F w){s:List UInt8}{n:Int}(hl:s.length<=18)(h:iX s=some n):Qe prog 286 [tx s] w F (.tuple #[.int .i64 n,.nilIface]):=by
 refine .of (enters_of func286 wy rfl) hF ((strconv_Atoi ⟨s.toArray⟩ n (by rw[Y3];exact hl) h w).mono ?_);rintro e w' ⟨h1,t,rfl⟩;exact⟨h1,R8 _ _ _⟩
theorem kL(hF:Fits F w)(hG:JC F){n:Int}(h0 : -9223372036854775808<=n)(h1:n<=9223372036854775807):Qe prog 303 [.int .i64 n] w F (tx (ig n)):=by
 refine .of (enters_of func303 wy rfl) hF ((strconv_Itoa n h0 h1 w (hG.dT hF)).mono ?_);rintro e w' ⟨h1,k,os,rfl⟩;exact⟨h1,((Ext.refl w).drewN k).trans (IE _ _)⟩
theorem pZ(hF:Fits F w){x:Int}(h0:0<=x)(h1:x<=18446744073709551615):Qe prog 250 [.int .u64 x] w F (.int .i64 (bH x.toNat)):=by
 refine .of (enters_of func250 wy rfl) hF ((bits_Len64 x w h0 h1).mono ?_);rintro e w' ⟨h1,rfl⟩;exact⟨h1,Ext.refl _⟩
theorem Eu[Dr](hF:Fits F w){x y:Int}:Qe prog 144 [.int .i64 x,.int .i64 y] w F (.int .i64 (Lib.compareInt x y)):=by
 refine QT.same (enters_of func144 wy rfl) hF (cmp_Compare_int x y w)
end
section
variable[Dr][df:Df]
section
variable{P:Program}{Q:Exit->Act->World->Prop}{N:Nat}{m:Sl}{E E0:Env}{ops:Array Oper}{l:List Oper}{w0:World}{F0:Gs}{bs:List (Nat×Obj)}{G:Gs->Prop}
theorem St.perm(h:St ⟨w0,F0,bs,G⟩ w)(hp:bs.Perm bs'):St ⟨w0,F0,bs',G⟩ w:=by
 obtain⟨F,h⟩:=h;exact⟨F,h.le,h.old,h.fits,h.ext,λk hk=>h.bx k (hp.mem_iff.2 hk),(hp.map _).nodup_iff.1 h.nd,h.g⟩
def XG(P:Program)(f:FuncId)(args:List Value)(E:Env){γ:Type}(val:γ->Value)(E':γ->Env):Prop :=
 Enters P f/\∀w,St E w->Calls P f args.toArray w λe w'=>∃c,e = .returned (val c)/\St (E' c) w'
def EPost{γ:Type}(val:γ->Value)(E':γ->Env)(e:Ending)(w':World):Prop:=∃c,e = .returned (val c)/\St (E' c) w'
section
variable{d:Nat}{ty:TypeId}{pos:String}{aft:Array Edge}{f:FuncId}{args:Array Operand}{tys:Array TypeId}{vs:List Value}{γ:Type}{val:γ->Value}{E':γ->Env}{bs1:List (Nat×Obj)}
theorem jn{c1 c2:List Value}(hx:ev m x=some (.func (.func f) c1.toArray c2.toArray))(hv:MD m args.toList=some vs)(hp:bs.Perm bs1)(hc:XG P f (c1++vs++c2) ⟨w0,F0,bs1,G⟩ val E')
  (k:∀c,JS P ops Q l N ((d,val c)::m) (E' c)) (hd:J2 N (some d)=true:=by rfl):JS P ops Q (⟨some d,.call ⟨.value x,args,tys⟩,ty,pos,aft,none⟩::l) N m ⟨w0,F0,bs,G⟩:=by
 intro a w ha hw;refine wpList_plain rfl λK hK=>?_;unfold Oper.wp;rw[Gq hc.1 (ha.ev hx)];have e:c1.toArray++args.map a.eval++c2.toArray=(c1++vs++c2).toArray:=by
  have:=ha.MD hv;have e2:args.map a.eval=vs.toArray:=by rw[<-this];apply bV ;simp
  rw[e2];apply bV;simp
 simp only[Oper.upon];rw[e];refine(hc.2 w (hw.perm hp)).mono ?_;rintro e w' ⟨c,rfl,h⟩;exact hK _ _ (k c _ w' (ha.put hd (val c)) h)
theorem XS(hv:MD m args.toList=some vs)(hp:bs.Perm bs1)(hc:XG P f vs ⟨w0,F0,bs1,G⟩ val E')
  (k:∀c,JS P ops Q l N ((d,val c)::m) (E' c)) (hd:J2 N (some d)=true:=by rfl):JS P ops Q (⟨some d,.call ⟨.value (.func f),args,tys⟩,ty,pos,aft,none⟩::l) N m ⟨w0,F0,bs,G⟩ :=
 jn (x:=.func f) (c1:=[]) (c2:=[]) I hv hp (by simpa using hc) k hd
theorem I0{bs0:List (Nat×Obj)}(hv:MD m args.toList=some vs)(hp:bs.Perm bs1)(hc:XG P f vs ⟨w0,F0,bs1,G⟩ val E')(h0:∀c w,St (E' c) w->St ⟨w0,F0,bs0,G0⟩ w)
  (k:∀c,JD P ops Q ⟨w0,F0,bs0,G0⟩ l N ((d,val c)::m) (E' c)) (hd:J2 N (some d)=true:=by rfl):JD P ops Q ⟨w0,F0,bs0,G0⟩ (⟨some d,.call ⟨.value (.func f),args,tys⟩,ty,pos,aft,none⟩::l) N m ⟨w0,F0,bs,G⟩:=by
 intro hE a w ha hw;refine .inr ⟨rfl,?_⟩;rw[if_pos (by simp[fp])];unfold Oper.wp;rw[Gq (c1:=#[]) (c2:=#[]) hc.1 (ha.ev (x:=.func f) rfl)];have e:#[]++args.map a.eval++#[]=vs.toArray:=by
  have:=ha.MD hv;have e2:args.map a.eval=vs.toArray:=by rw[<-this];apply bV ;simp
  rw[e2];apply bV;simp
 simp only[Oper.upon];rw[e];refine(hc.2 w (hw.perm hp)).mono ?_;rintro e w' ⟨c,rfl,h⟩;exact⟨h0 c w' h,k c (h0 c) _ w' (ha.put hd (val c)) h⟩
theorem St.last(hF:Fits F0 w0)(h:St ⟨w0,F0,bs,G⟩ w)(hb:Below w0.heap.size w w')(hd:Dr.on->w.drawn<=w'.drawn):St ⟨w0,F0,[],λF=>Gs.le F0 F⟩ w':=by
 obtain⟨F,h⟩:=h;have hx:Ext w0 w':=⟨hb.os.trans h.ext.os,hb.tape.trans h.ext.tape,hb.output.trans h.ext.output,ae h.ext.size hb.size,λk hk=>(hb.block k hk).trans (h.ext.block k hk)⟩;have hle:Gs.le F0 (λb=>if b<w0.heap.size then F0 b else match w'.heap[b]? with | some (.cells c T _)=>if T=289 then some (c,289)else none | _=>none):=by
  intro b x hb;show(if b<w0.heap.size then _ else _)=_;rw[if_pos (hF.lt hb)];exact hb
 refine⟨_,hle,?_,⟨?_,?_⟩,⟨hx,λd=>ae (h.ext.dr d) (hd d)⟩,λ_ h=>(by cases h),List.nodup_nil,λF' h'=>Gs.le_trans hle h'⟩
 ·intro b hb;show(if b<w0.heap.size then _ else _)=_;rw[if_pos hb]
 ·intro b c T hb;by_cases hlt:b<w0.heap.size
  ·rw[if_pos hlt]at hb;obtain⟨fr,e⟩:=hF.row b c T hb;exact⟨fr,by rw[hx.block b hlt];exact e⟩
  rw[if_neg hlt]at hb;split at hb
  ·rename_i c' T' fr heq;split at hb
   ·rename_i hT;cases hb;exact⟨fr,by rw[heq,hT]⟩
   cases hb
  cases hb
 intro b c fr hb;show(if b<w0.heap.size then _ else _)=_;by_cases hlt:b<w0.heap.size
 ·rw[if_pos hlt];rw[hx.block b hlt]at hb;exact hF.all b c fr hb
 rw[if_neg hlt,hb];simp
theorem Nb{v:Value}(hF:Fits F0 w0)(hv:MD m args.toList=some vs)(he:Enters P f)(hc:∀w,St ⟨w0,F0,bs,G⟩ w->Calls P f vs.toArray w λe w'=>e = .returned v/\Below w0.heap.size w w')
  (k:JS P ops Q l N ((d,v)::m) ⟨w0,F0,[],λF=>Gs.le F0 F⟩) (hd:J2 N (some d)=true:=by rfl) (hn:¬Dr.on:=by exact id):JS P ops Q (⟨some d,.call ⟨.value (.func f),args,tys⟩,ty,pos,aft,none⟩::l) N m ⟨w0,F0,bs,G⟩ :=
 XS (γ:=Unit) (val:=λ_=>v) (E':=λ_=>⟨w0,F0,[],λF=>Gs.le F0 F⟩) hv (bO _) ⟨he,λw hw=>(hc w hw).mono λ_ _ ⟨h1,h2⟩=>⟨(),h1,hw.last hF h2 λd=>absurd d hn⟩⟩ (λ_=>k) hd
end
omit [Df] in
theorem XG.intro{f:FuncId}{c:Code}{val:γ->Value}{E':γ->Env}(hf:P.funcs[f]?=some fn)(hb:fn.body=some c)(hn:(fn.name == "runtime.NumGoroutine")=false)(hN:fn.ntmps=N)(hl:lB args.length N=true)
  (h:J (df:=DX) P c (bodyPost P fn (EPost val E')) N (SA 0 args) E):XG P f args E val E':=by
 refine⟨enters_of hf hn (by rw[hb];rfl),λw hw=>calls_of_wp hf hb (h _ w ⟨?_,rfl,λt v ht=>?_⟩ hw)⟩
 ·have:=fT hl
  simp[hN];omega
 obtain⟨_,h2⟩:=Gy args 0 t v ht
 have hlt:t<args.length:=by rcases aS t args.length with g | g;exact g;rw[lz,aY g]at h2;cases h2
 simp only[lz]at h2
 rw[fL,if_pos (by simpa using hlt)]
 simpa using h2
omit [Df] in
theorem Y2{val:γ->Value}{E':γ->Env}{rs:List ResultVar}{vs:List Value}(c:γ)(hrs:fn.results=rs.toArray)(h:E3 P m bs rs vs)(hv:val c=(match vs with | [v]=>v | vs=>.tuple vs.toArray))(hg:∀w,St ⟨w0,F0,bs,G⟩ w->St (E' c) w):Fin (df:=DX) (bodyPost P fn (EPost val E')) .ret N m ⟨w0,F0,bs,G⟩:=λa w ha hw =>
 ⟨ha.df,val c,by rw[hv];exact BJ hrs h ha hw,c,rfl,hg w hw⟩
omit [Df] in
theorem Mt{val:γ->Value}{E':γ->Env}(h:Fin (df:=DX) (bodyPost P fn (EPost val E')) .ret N m E):Fin (df:=DX) (bodyPost P fn (EPost val E')) .normal N m E:=h
theorem Zi(hp:bs.Perm bs')(k:JS P ops Q l N m ⟨w0,F0,bs',G⟩):JS P ops Q l N m ⟨w0,F0,bs,G⟩:=λa w ha hw=>k a w ha (hw.perm hp)
theorem vr{c:Code}(hp:bs.Perm bs')(k:J P c Q N m ⟨w0,F0,bs',G⟩):J P c Q N m ⟨w0,F0,bs,G⟩:=λa w ha hw=>k a w ha (hw.perm hp)
theorem Ot{e:Exit}(hp:bs.Perm bs')(k:Fin Q e N m ⟨w0,F0,bs',G⟩):Fin Q e N m ⟨w0,F0,bs,G⟩:=λa w ha hw=>k a w ha (hw.perm hp)
theorem Src.zu{sz c:Nat}{news:List Value}(hm:(b,eP news.toArray T fr)∈bs)(hl:news.length=k*sz):Src ⟨w0,F0,bs,G⟩ sz (.slice (.some ⟨b,0,none⟩) k c) k news :=
 ⟨hl,.inr ⟨_,_,rfl,λw hw j v hv=>by
  obtain⟨F,hw⟩:=hw;rw[Hu,ZI (hw.bx _ hm).1,aW];exact hv⟩⟩
theorem QCj{d:Nat}{o:Op}{ty:TypeId}{pos:String}{v:Value}(h:∀a w,JH N m a->St E w->∃w',(execOp a.eval ⟨some d,o,ty,pos,aft,none⟩).run P w = .ok (.value v) w'/\St E' w')(k:JS P ops Q l N ((d,v)::m) E')(hd:J2 N (some d)=true:=by rfl):
  JS P ops Q (⟨some d,o,ty,pos,aft,none⟩::l) N m E:=λa w ha hw=>wpList_plain rfl λK hK=>by
 obtain⟨w',h1,h2⟩:=h a w ha hw;exact upon_value h1 (hK _ _ (k _ w' (ha.put hd v) h2))
theorem z8{ty:TypeId}{p:Option Addr}{Y:World->Prop}(hx:ev m x=some (.pointer p))(hy:ev m y=some (.pointer none))(hT:P.underlying T=some (.pointer (P.pointee T))):Qt P N m Y (.binOp .eql T x y yT) ty (.bool p.isNone):=λa w _ _ _ _ ha _=>by
 have:=run_eql_pointer_nil (P:=P) (w:=w) T p hT;simp[execOp,ha.ev hx,ha.ev hy,eqGuard,this]
theorem Sc{u e ty:TypeId}{i:TypeInfo}{x:Value}(ht:Hc P t=some e)(hu:P.underlying u=some .string)(hi:P.info? e=some i)(hz:i.zero=some (.int .u8 0))(hsz:i.size=1)(hby:i.bytes=1)
  (hr:Q7 e 1 x n olds ob) (hw:St ⟨w0,F0,ob++bs,G⟩ w) (h47:n+s.length<=140737488355328) (hU:Gc e=true) :
  ∃v' ob' w',(iw #[t,u] ty #[x,tx s]).run P w = .ok v' w'/\Q7 e 1 v' (n+s.length) (olds++ay s) ob'/\St ⟨w0,F0,ob'++bs,G⟩ w':=by
 have hu':∀c fr c' fr',eP c e fr≠.cells c' 289 fr':=λc fr=>X4 hU;have hsl:(⟨s.toArray⟩:ByteArray).size=s.length:=Y3 s;have hbl:(ay s).length=s.length:=il s;have hzc:∀q,(aK (ao .u8 0).cells q).toList.length=q:=λq=>by simp[aK,Value.cells]
 have new:∀ {w':World} (l rest:List Value) (cap:Nat) (bs':List (Nat×Obj)),St ⟨w0,F0,bs',G⟩ w'->bs.Sublist bs'->l.length=n+s.length->l.length+rest.length=cap->n+s.length<=cap->cap<=maxLen ->
   ∃ob',Q7 e 1 (.slice (some ⟨w'.heap.size,0,none⟩) (n+s.length) cap) (n+s.length) l ob'/\St ⟨w0,F0,ob'++bs,G⟩ (w'.alloc (.cells (l++rest).toArray e)):=by
  intro w' l rest cap bs' hw' hsub h2 h3 h4 h5;exact⟨_,.some O O h4 h5,(hw'.imp hsub λ_ h=>h).alloc _ (hu' _ _)⟩
 cases hr with
 |nil =>
  simp only[aW,ek]at *
  by_cases hm:s.length=0
  ·have hs0:s=[]:=aJ hm;subst hs0;refine⟨.slice none 0 0,[],w,?_,.nil,hw⟩;have hf:=Lib.run_firstCells_string (P:=P) w 1 ⟨#[]⟩;have hf':(Builtin.firstCells 1 0 (tx [])).run P w = .ok #[] w:=by simpa[e9,fS]using hf
   simp[iw,run_underlying (Qz ht),run_underlying hu,sizeOf,typeInfo,hi,hsz,Builtin.lenOf,e9,hf']
  have hrun:=run_append_nil_string (P:=P) (w:=w) t u ty e i (.int .u8 0) (Qz ht) hu hi hz ⟨s.toArray⟩ O O (by rw[hby];omega);rw[hsl]at hrun;have hge:=grownCap_ge w s.length 0 e;obtain⟨ob',h2,h3⟩:=new (ay s) (aK (ao .u8 0).cells (grownCap w s.length 0 e-s.length)).toList (grownCap w s.length 0 e) bs hw.drew QJZ hbl (by rw[hzc,hbl];omega) hge (grownCap_le_maxLen w s.length 0 e (by simp only[maxLen];omega));refine⟨_,ob',_,hrun,h2,?_⟩;have e1:(ay s++(aK (ao .u8 0).cells (grownCap w s.length 0 e-s.length)).toList).toArray=((⟨s.toArray⟩:ByteArray).data.map λb=>ao .u8 b.toNat)++aK (ao .u8 0).cells (grownCap w s.length 0 e-s.length):=by apply bV;simp[ay]
  rw[e1]at h3;exact h3
 |some g1 g2 g3 g4 =>
  rename_i b cap rest;have hbw:w.heap[b]?=some (.cells (olds++rest).toArray e (0,0)):=hw.own (f:=λo'=>(b,o')::bs) .here;have hol:olds.length=n:=O;by_cases hroom:n+s.length<=cap
  ·have hrun:=Lib.run_append_room_string (P:=P) w t u ty e i (Qz ht) hu hi hsz b n cap _ hbw ⟨s.toArray⟩ O w6;rw[hsl]at hrun;have e1:((olds++rest).toArray.toList.take n++fS ⟨s.toArray⟩++(olds++rest).toArray.toList.drop (n+s.length))=olds++ay s++rest.drop s.length:=by
    rw[iS];simp only[bc];rw[<-hol];simp[List.drop_append]
   rw[e1]at hrun;refine⟨_,[(b,.cells (olds++ay s++rest.drop s.length).toArray e (0,0))],_,hrun,.some ?_ ?_ hroom g4,?_⟩
   ·rw[ar,hbl];omega
   ·rw[ar,bm,hbl];omega
   have hlt:b<w.heap.size:=(Array.getElem?_eq_some_iff.1 hbw).1;refine St.write (o:=.cells (olds++rest).toArray e (0,0)) [] hw ⟨?_,rfl,rfl,rfl,rfl⟩ (hu' _ _);apply Array.ext_getElem?;intro j;rw[Array.getElem?_setIfInBounds];by_cases hj:b=j
   ·subst hj;rw[if_pos rfl,if_pos hlt,setRow_heap w b _ _ e _ hbw]
   rw[if_neg hj,setRow_other w b j _ (λe=>hj e.symm)]
  have hold:∀j v,olds[j]?=some v->w.cell? ((⟨b,0,none⟩:Addr).add j)=some v:=λj v hv=>by
   rw[Hu,aW,ZI hbw,aR];have:j<olds.length:=by rcases aS j olds.length with q | q;exact q;rw[aY q]at hv;cases hv
   rw[if_pos this];exact hv
  have hrun:=Lib.run_append_grow_string (P:=P) w t u ty e i (.int .u8 0) (Qz ht) hu hi hz ⟨b,0,none⟩ n cap olds (by rw[hsz];omega) hold ⟨s.toArray⟩ O O (by rw[hby];exact growslice_fits O O);rw[hsl]at hrun;have hge:=grownCap_ge w (n+s.length) cap e;obtain⟨ob',h2,h3⟩:=new (olds++ay s) (aK (ao .u8 0).cells (grownCap w (n+s.length) cap e-(n+s.length))).toList (grownCap w (n+s.length) cap e) _ hw.drew (List.sublist_cons_self _ _) (by rw[ar,hbl];omega) (by rw[hzc,ar,hbl];omega) hge (grownCap_le_maxLen w (n+s.length) cap e (by simp only[maxLen];omega));refine⟨_,ob',_,hrun,h2,?_⟩;have e1:(olds++ay s++(aK (ao .u8 0).cells (grownCap w (n+s.length) cap e-(n+s.length))).toList).toArray=olds.toArray++(fS ⟨s.toArray⟩).toArray++aK (ao .u8 0).cells (grownCap w (n+s.length) cap e-(n+s.length)):=by
   rw[iS];apply bV;simp
  rw[e1]at h3;exact h3
theorem AP{d:Nat}{ty:TypeId}{pos:String}{u e:TypeId}{i:TypeInfo}{X Y:Operand}{x:Value}{bs1:List (Nat×Obj)}(hx:ev m X=some x)(hy:ev m Y=some (tx s))(ht:Hc P t=some e)(hu:P.underlying u=some .string)(hi:P.info? e=some i)(hz:i.zero=some (.int .u8 0))(hsz:i.size=1)(hby:i.bytes=1)
  (hr:Q7 e 1 x n olds ob) (hp:bs.Perm (ob++bs1)) (h47:n+s.length<=140737488355328)
  (kk:∀v' ob',Q7 e 1 v' (n+s.length) (olds++ay s) ob'->JS P ops Q l N ((d,v')::m) ⟨w0,F0,ob'++bs1,G⟩) (hU:Gc e=true:=by rfl) (hd:J2 N (some d)=true:=by rfl) :
  JS P ops Q (⟨some d,.call ⟨.builtin .append,#[X,Y],#[t,u]⟩,ty,pos,aft,none⟩::l) N m ⟨w0,F0,bs,G⟩:=λa w ha hw =>
 wpList_plain rfl λK hK=>by
  obtain⟨v',ob',w',h2,h3,h4⟩:=Sc (ty:=ty) ht hu hi hz hsz hby hr (hw.perm hp) h47 hU;refine upon_value (w':=w') (v:=v') ?_ (hK _ _ (kk v' ob' h3 _ w' (ha.put hd v') h4));simp only[execOp,resolve,invoke,builtin,ew,eu,bD,List.map_toArray,iW,List.map_nil,ha.ev hx,ha.ev hy,h2]
end
end
section
variable[Dr][df:Df]{P:Program}{Q:Exit->Act->World->Prop}{N:Nat}{m:Sl}{E E0:Env}{ops:Array Oper}{l:List Oper}{w0:World}{F0:Gs}{bs:List (Nat×Obj)}{G:Gs->Prop}
theorem EM{c:List Value}(h:w.heap[b]?=some (.cells c.toArray T fr)):w.shape? b=some (T,c.length):=by
 simp[World.shape?,h]
theorem Lx{src dst T' ty:TypeId}{c:List Value}(hx:ev m x=some (.pointer (some ⟨b,off,none⟩)))(hs:P.underlying src=some (.pointer t))(hd:P.underlying dst=some .unsafePointer)(ht:(P.info? t).any (λj=>j.size != 0)=true)
  (ho:Own bs b (.cells c.toArray T' fr) f) (hoff:off<c.length):Qt P N m (St ⟨w0,F0,bs,G⟩) (.convert src dst x) ty (.pointer (some ⟨b,off,none⟩)):=λa w _ _ _ _ ha hw=>by
 obtain⟨j,hj,hjs⟩:=Option.any_eq_true .. |>.1 ht;have:=Lib.run_to_unsafe (P:=P) w ⟨b,off,none⟩ hs hd hj (by simpa using hjs) (EM (hw.own ho)) hoff;simp[execOp,ha.ev hx,this]
theorem UW{src dst T' ty:TypeId}{c:List Value}(hx:ev m x=some (.pointer (some ⟨b,off,none⟩)))(hs:P.underlying src=some .unsafePointer)(hd:P.underlying dst=some (.pointer t))(ht:(P.info? t).isSome=true)
  (ho:Own bs b (.cells c.toArray T' fr) f) (hl:liesAt P P.depth T' (c.length/P.cellsOf T') off t 1=true):Qt P N m (St ⟨w0,F0,bs,G⟩) (.convert src dst x) ty (.pointer (some ⟨b,off,none⟩)):=λa w _ _ _ _ ha hw=>by
 obtain⟨j,hj⟩:=Option.isSome_iff_exists.1 ht;have:=Lib.run_from_unsafe (P:=P) w ⟨b,off,none⟩ hs hd hj (EM (hw.own ho)) hl;simp[execOp,ha.ev hx,this]
theorem qf{ty:TypeId}{p:Addr}{Y:World->Prop}(hx:ev m x=some (.pointer (some p)))(hy:ev m y=some (.pointer (some p)))(hT:P.underlying T=some (.pointer t))(ht:(P.info? t).isSome=true):Qt P N m Y (.binOp .neq T x y yT) ty (.bool false):=λa w _ _ _ _ ha _=>by
 obtain⟨j,hj⟩:=Option.isSome_iff_exists.1 ht;have:=Lib.run_neq_ptr_same (P:=P) w p hT hj;simp[execOp,ha.ev hx,ha.ev hy,eqGuard,this]
theorem jm{d:Nat}{ty:TypeId}{pos:String}{f:FuncId}{e:Array Value->Sem Value}{args:Array Operand}{tys:Array TypeId}{vs:List Value}{v:Value}(hf:P.funcs[f]?=some fn)(hname:(fn.name == "runtime.NumGoroutine")=false)
  (hb:fn.body.isNone=true) (hn:Extern.findNext fn=none) (he:Extern.find fn=some e) (hv:MD m args.toList=some vs) (hr:∀w,(e vs.toArray).run P w = .ok v w) (k:JS P ops Q l N ((d,v)::m) E) (hd:J2 N (some d)=true:=by rfl) :
  JS P ops Q (⟨some d,.call ⟨.value (.func f),args,tys⟩,ty,pos,aft,none⟩::l) N m E :=
 QCj (λa w ha hw=>⟨w,by
  have h1:a.eval (.func f) = .func (.func f) #[] #[]:=ha.ev (x:=.func f) rfl;have e2:args.map a.eval=vs.toArray:=by rw[<-ha.MD hv];apply bV;simp
  simp only[execOp,resolve,h1,Deferred.ofValue,ew,eu,bD,invoke,e2];simp[run_callFunc_extern hf hname hb hn he,hr],hw⟩) k hd
end
inductive LP(b:Nat):List UInt8->List (Nat×Obj)->Prop
 |fresh:LP b [] [(b,.cells [ax none,.slice none 0 0].toArray 345 (0,0))]
 |used {l:List UInt8} {v:Value} {ob:List (Nat×Obj)} (hr:Q7 5 1 v l.length (ay l) ob):LP b l ((b,.cells [ax (some ⟨b,0,none⟩),v].toArray 345 (0,0))::ob)
section
variable{w0:World}{F0:Gs}{bs:List (Nat×Obj)}{G:Gs->Prop}
theorem NO{p:Option Addr}{v:Value}(hp:p=none\/p=some ⟨b,0,none⟩):XG prog 334 [.pointer (some ⟨b,0,none⟩)] ⟨w0,F0,(b,.cells [ax p,v].toArray 345 (0,0))::bs,G⟩ (λ(_:Unit)=>.tuple #[]) (λ_=>⟨w0,F0,(b,.cells [ax (some ⟨b,0,none⟩),v].toArray 345 (0,0))::bs,G⟩):=by
 refine XG.intro func334 rfl wy rfl rfl<|wR rfl<|QA (Ze rfl)<|QA (QH rfl U4 MJ)<|QA (Qf rfl MJ .here .h1)<|QA (z8 rfl rfl wm)<|QE<|QC ?_
 refine QO I (λhc=>?_) λhc=>?_
 ·have hp':p=none:=by rcases hp with rfl | rfl;rfl;cases hc
  subst hp';refine wA 3 I<|QA (Lx I underlying342 underlying392 wm .here (Nat.zero_lt_succ _))<|jm func362 wm wm wm (e:=iJ) wm rfl (λw=>Lib.run_noEscape w _)<|QA (UW I underlying392 underlying342 wm .here wm)<|QA (Ze I)<|QA (QH I U4 MJ)<|QR (vs:=[_]) I I I MJ I .here .h1 wS<|QE<|Mt ?_
  exact Y2 () I .nil rfl w9
 have hp':p=some ⟨b,0,none⟩:=by rcases hp with rfl | rfl;cases hc;rfl
 subst hp';refine wR I<|QA (Ze I)<|QA (QH I U4 MJ)<|QA (Qf I MJ .here .h1)<|QJD I<|QA (qf I I underlying342 wm)<|QJC<|YV I<|QN<|Mt ?_
 exact Y2 () I .nil rfl w9
theorem QCK:∃i,prog.info? 5=some i/\i.zero=some (.int .u8 0)/\i.size=1/\i.bytes=1:=by
 have h:((prog.info? 5).map λi=>(i.zero,i.size,i.bytes))=some (some (.int .u8 0),1,1):=wm;obtain⟨i,h1,h2⟩:=Option.map_eq_some_iff.1 h;simp only[Prod.mk.injEq]at h2;exact⟨i,h1,h2⟩
theorem HZ{p:Option Addr}{v:Value}(hp:p=none\/p=some ⟨b,0,none⟩)(hr:Q7 5 1 v l.length (ay l) ob)(hn:l.length+s.length<=140737488355328):
  XG prog 302 [.pointer (some ⟨b,0,none⟩),tx s] ⟨w0,F0,(b,.cells [ax p,v].toArray 345 (0,0))::(ob++bs),G⟩ (λ(_:List (Nat×Obj))=>.tuple #[.int .i64 s.length,.nilIface])
   (λob'=>⟨w0,F0,ob'++bs,λF=>G F/\LP b (l++s) ob'⟩):=by
 obtain⟨i8,hi1,hi2,hi3,hi4⟩:=QCK;refine XG.intro func302 rfl wy rfl rfl<|QKO<|QJE rfl<|wQ rfl<|wR rfl<|XS rfl (bO _) (NO hp) λ_=>QJC<|wR rfl<|QJD rfl<|QA (Ze rfl)<|QA (QH rfl PG H9)<|QA (Qf rfl H9 .here (.skip .h1))<|QJD rfl<|AP (bs1:=(b,.cells [ax (some ⟨b,0,none⟩),v].toArray 345 (0,0))::bs) rfl rfl Lp underlying9 hi1 hi2 hi3 hi4 hr (by rw[<-eD];exact(aZ _ _ _)) hn λv' ob' hr'=>QA (Ze I)<|QA (QH I PG H9)<|Zi (bs':=(b,.cells [ax (some ⟨b,0,none⟩),v].toArray 345 (0,0))::(ob'++bs)) (by rw[<-eD (l:=bs),<-eD];exact(aZ _ _ _)) ?_
 obtain⟨h1,h2⟩:=hr'.one;refine QR (vs:=[v']) I I h2 H9 I .here (.skip .h1) ⟨h1,trivial⟩<|QKq 5 I<|QA (X7 I Zo)<|QKq 5 I ?_
 have hb:LP b (l++s) ((b,.cells [ax (some ⟨b,0,none⟩),v'].toArray 345 (0,0))::ob'):=.used (by rw[ar,im];exact hr');exact Y2 _ I (wO I I) rfl λw h=>St.DJ (bs:=(_::ob')++bs) h λF hG=>⟨hG,hb⟩
theorem W6(h:LP b l ob)(hn:l.length+s.length<=140737488355328):
  XG prog 302 [.pointer (some ⟨b,0,none⟩),tx s] ⟨w0,F0,ob++bs,G⟩ (λ(_:List (Nat×Obj))=>.tuple #[.int .i64 s.length,.nilIface])
   (λob'=>⟨w0,F0,ob'++bs,λF=>G F/\LP b (l++s) ob'⟩):=by
 cases h with
 |fresh=>exact HZ (l:=[]) (ob:=[]) (.inl rfl) .nil hn
 |used hr=>exact HZ (.inr rfl) hr hn
theorem DN{p:Option Addr}{v:Value}(hp:p=none\/p=some ⟨b,0,none⟩)(hr:Q7 5 1 v l.length (ay l) ob)(hn:l.length+1<=140737488355328):
  XG prog 304 [.pointer (some ⟨b,0,none⟩),.int .u8 c.toNat] ⟨w0,F0,(b,.cells [ax p,v].toArray 345 (0,0))::(ob++bs),G⟩ (λ(_:List (Nat×Obj))=>.nilIface)
   (λob'=>⟨w0,F0,ob'++bs,λF=>G F/\LP b (l++[c]) ob'⟩):=by
 refine XG.intro func304 rfl wy rfl rfl<|QKO<|wQ rfl<|wR rfl<|XS rfl (bO _) (NO hp) λ_=>QJC<|wR rfl<|QJD rfl<|QA (Ze rfl)<|QA (QH rfl PG H9)<|QA (Qf rfl H9 .here (.skip .h1))<|QJD rfl<|VN rfl (Qz Lp) QEG z_5 rfl rfl λbx=>?_
 refine Zi (bs':=ob++((bx,.cells [ao .u8 c.toNat].toArray 5 (0,0))::(b,.cells [ax (some ⟨b,0,none⟩),v].toArray 345 (0,0))::bs)) (by
  have:=aZ [(bx,eP [ao .u8 c.toNat].toArray 5 (0,0)),(b,eP [ax (some ⟨b,0,none⟩),v].toArray 345 (0,0))] ob bs;exact this) ?_
 refine Mr (news:=[ao .u8 c.toNat]) (k:=1) (sz:=1) rfl rfl Lp QEG z_5 I QH3 hr (Src.zu (b:=bx) (T:=5) (fr:=(0,0)) (c:=1) wz rfl) O O (λu hu=>by rw[List.mem_singleton.1 hu];rfl) (λv' ob' hr'=>QA (Ze I)<|QA (QH I PG H9) ?_);refine Zi (bs':=(b,.cells [ax (some ⟨b,0,none⟩),v].toArray 345 (0,0))::((bx,.cells [ao .u8 c.toNat].toArray 5 (0,0))::(ob'++bs))) (by
  have:=aZ ob' [(b,eP [ax (some ⟨b,0,none⟩),v].toArray 345 (0,0)),(bx,eP [ao .u8 c.toNat].toArray 5 (0,0))] bs;exact((List.Perm.append_left ob' (List.Perm.swap _ _ _))).trans this) ?_
 obtain⟨h1,h2⟩:=hr'.one;refine QR (vs:=[v']) I I h2 H9 I .here (.skip .h1) ⟨h1,trivial⟩<|QKq 8 I ?_
 have hb:LP b (l++[c]) ((b,.cells [ax (some ⟨b,0,none⟩),v'].toArray 345 (0,0))::ob'):=.used (by rw[ar,im];exact hr');exact Y2 _ I (wN I) rfl λw h=>St.imp (bs':=(_::ob')++bs) h (lQ _ (lR _ QJZ)) λF hG=>⟨hG,hb⟩
theorem AZ(h:LP b l ob)(hn:l.length+1<=140737488355328):
  XG prog 304 [.pointer (some ⟨b,0,none⟩),.int .u8 c.toNat] ⟨w0,F0,ob++bs,G⟩ (λ(_:List (Nat×Obj))=>.nilIface)
   (λob'=>⟨w0,F0,ob'++bs,λF=>G F/\LP b (l++[c]) ob'⟩):=by
 cases h with
 |fresh=>exact DN (l:=[]) (ob:=[]) (.inl rfl) .nil hn
 |used hr=>exact DN (.inr rfl) hr hn
theorem LP.is(h:LP b l ob){w:World}(hw:St ⟨w0,F0,ob++bs,G⟩ w):Lib.IsBuilder 345 5 w0.heap.size b (ay l) w:=by
 obtain⟨F,hw⟩:=hw;cases h with
 |fresh =>
  have:=hw.bx (b,.cells [ax none,.slice none 0 0].toArray 345 (0,0)) wz;exact .inl ⟨this.2.1,_,this.1,iu w _ _ 1,by simp[fl]⟩
 |used hr =>
  rename_i v ob;have h1:=hw.bx (b,.cells [ax (some ⟨b,0,none⟩),v].toArray 345 (0,0)) wz;refine .inr ⟨h1.2.1,v,h1.1,?_,?_⟩
  ·rw[il];generalize hq:ay l=q at hr;generalize hn:l.length=n at hr;cases hr with
   |nil=>exact iu w _ _ 1
   |some g1 g2 g3 g4 =>
    rename_i r cap rest;have h2:=hw.bx (r,.cells (q++rest).toArray 5 (0,0)) wz;refine⟨O,.inr ⟨r,cap,_,rfl,h2.2.1,h2.1,g3,g4,?_,?_⟩⟩
    ·show(q++rest).toArray.size=_;simp;omega
    show(q++rest).take (n*1)=q;rw[<-g1];exact List.take_left
  generalize hq:ay l=q at hr;generalize hn:l.length=n at hr;cases hr with
  |nil=>simp[fl]
  |some g1 g2 g3 g4 =>
   have hnd:=hw.nd;simp only[fc,iW,List.nodup_cons]at hnd;intro e;simp only[fl,bQ]at e;exact hnd.1 (by simp[e])
end
section
open Go.RowKit Go.Sort Go.Lib
def L2(w:World)(o:Obj)(dk:Array UInt8)(k off:Nat):∃os,(putRow (λ(b:UInt8)=>ao .u8 (b.toNat:Int)) (w.alloc o) w.heap.size off dk).drewN k=fF (w.drewN k) os:=by
 rw[alloc_eq_grow];obtain⟨os',_,e⟩:=putRow_grow_new (λ(b:UInt8)=>ao .u8 (b.toNat:Int)) w #[o] w.heap.size off dk (aF _);exact⟨os',by rw[e];rfl⟩
theorem IA(w:World)(T:TypeId)(nd:Nat)(hs:nd<=24):Holds (λ(b:UInt8)=>ao .u8 (b.toNat:Int)) (w.alloc (.cells zeros24 T)) w.heap.size 0 (iK nd (0:UInt8)):=λj hj=>by
 have hj':j<nd:=by simpa using hj
 refine⟨?_,World.frozen?_alloc_new _ _ _ _⟩;rw[World.cell?_alloc_new,zeros24_at _ O,getElem!_pos _ j hj];simp
set_option maxRecDepth 100000 in
theorem Sj(u:Nat)(hu64:u<18446744073709551616)(w:World)(htab:iO prog w "internal/strconv.uint64pow10" .u64 lG):
  Calls prog 341 #[.int .u64 u,.int .i64 10] w λe w'=>e = .returned (tx (af u))/\∃k os,w'=fF (w.drewN k) os:=by
 have e283:∀args w,(callFunc 364 args).run prog w = .ok (.enter 364 args) w:=ey func364 wm rfl;have e284:∀args w,(callFunc 365 args).run prog w = .ok (.enter 365 args) w:=ey func365 wm rfl;have e285:∀args w,(callFunc 366 args).run prog w = .ok (.enter 366 args) w:=ey func366 wm rfl;by_cases hs:u<100
 ·go_enter func341,ntmps341
  go_wp2_with (go_at_fn 364;refine(internal_strconv_small u hs _).mono ?_;rintro e w' ⟨rfl,rfl⟩)
  go_ret
  exact⟨rfl,0,#[],by simp[World.drewN_zero]⟩
 have hu1:1<=u:=O;have hnd20:aO u<=20:=by have:=Lib.numDigits_eq u hu1 hu64;split at this<;>omega
 have hb3:aO u<=24:=O;have hal:prog.arrayLen 395=24:=by simp[ic,underlying395]
 have hsl1:∀W,(iT 395 (.pointer (some ⟨w.heap.size,0,none⟩)) none (some (.int .i64 (aO u:Int))) none).run prog W = .ok (.slice (some ⟨w.heap.size,0,none⟩) (aO u) 24) W:=λW=>by
  rw[run_sliceAt_array_h W 395 ⟨w.heap.size,0,none⟩ (by simp[ic,Program.elem,underlying395]) .i64 (aO u:Int) O (by rw[hal];omega)];go_simp
 have hH0:=IA w 395 (aO u) O;have hfmt:=internal_strconv_formatBase10 w.heap.size 0 24 u (iK (aO u) 0) (w.alloc (.cells eO 395)) hH0 (by rw[bI];exact iD u) hu64 (by rw[bI];omega);rw[bI]at hfmt;have HH0:=aa hH0;clear hH0 hal;go_enter func341,ntmps341
 go_wp2_with (first
  |(go_at_fn 365;refine(internal_strconv_numDigits u hu1 hu64 _ (Lib.tabIs_alloc htab _)).mono ?_;rintro e w' ⟨rfl,rfl⟩))
 go_at_fn 366
 refine hfmt.mono ?_;rintro e w' ⟨rfl,k,v',dk,rfl,hF⟩;have hcv:(convert 343 9 (.slice (some ⟨w.heap.size,0,none⟩) (aO u) 24)).run prog ((putRow (λ(b:UInt8)=>ao .u8 (b.toNat:Int)) (w.alloc (.cells eO 395)) w.heap.size 0 dk).drewN k) = .ok (.string ⟨(af u).toArray⟩) ((putRow (λ(b:UInt8)=>ao .u8 (b.toNat:Int)) (w.alloc (.cells eO 395)) w.heap.size 0 dk).drewN k):=by
  have h:=run_convert_bytes_back (P:=prog) ((putRow (λ(b:UInt8)=>ao .u8 (b.toNat:Int)) (w.alloc (.cells eO 395)) w.heap.size 0 dk).drewN k) 343 9 5 ⟨w.heap.size,0,none⟩ 24 (af u) underlying343 underlying5 underlying9 (λj hj=>by
   rw[Lib.row_is_numeral hF j hj,Lib.add_plain,World.cell?_drewN];exact cell?_putRow (λ(b:UInt8)=>ao .u8 (b.toNat:Int)) _ w.heap.size 0 _ dk HH0.out (by rw[hF.size,bI]) j (by rw[hF.size];rw[aT]at hj;exact hj))
  rw[aT]at h;exact h
 go_wp2
 go_ret
 obtain⟨os,eo⟩:=L2 w (.cells eO 395) dk k 0;exact⟨rfl,k,os,eo⟩
theorem Uw(hF:Fits F w)(hG:JC F){u:Nat}(hu:u<18446744073709551616):Qe prog 322 [.int .u64 u,.int .i64 10] w F (tx (af u)):=by
 refine QT.intro (G:=λF=>JC F) func322 rfl wy rfl rfl hF (λF' hF'=>hG.le hF')<|QKO<|wQ rfl<|wR rfl<|QJD rfl ?_
 refine QI I (λw F hF hG=>Qe.of (v:=tx (af u)) (enters_of func341 wy rfl) hF ((Sj u hu w (hG.dT hF)).mono (by
  rintro e w' ⟨h1,k,os,rfl⟩;exact⟨h1,((Ext.refl w).drewN k).trans (IE _ _)⟩))) λc=>?_
 refine wQ I<|QW ?_
 exact QQ () I (wN I) rfl w8
end
open Go
def LO(c:UInt8):Bool:=decide (48<=c.toNat)&&decide (c.toNat<=57)
def ZJ(l:List UInt8):Bool:=l.all LO
def Km:LO c=true↔48<=c.toNat/\c.toNat<=57:=by simp[LO]
def Jb(l:List UInt8):Nat:=l.foldl (λa c=>a*10+(c.toNat-48)) 0
def QE6(l:List UInt8):∀a:Nat,l.foldl (λa c=>a*10+(c.toNat-48)) a=a*10^l.length+Jb l:=by
 induction l with
 |nil=>intro a;simp[Jb]
 |cons c l ih =>
  intro a;simp only[List.foldl_cons,aN,Jb];rw[ih,ih (0*10+_)];rw[fN,aW,bN,bT,fC,fO 10,eT]
def Kd(a b:List UInt8):Jb (a++b)=Jb a*10^b.length+Jb b:=by
 unfold Jb;rw[List.foldl_append,QE6];rfl
def qd:Jb []=0:=rfl
def Wp(c:UInt8):Jb [c]=c.toNat-48:=by simp[Jb]
def RM(c:UInt8)(l:List UInt8):Jb (c::l)=(c.toNat-48)*10^l.length+Jb l:=by
 rw[<-Wp,<-Kd];rfl
def VV(a b:List UInt8):ZJ (a++b)=(ZJ a&&ZJ b):=by simp[ZJ]
def DA(c:UInt8)(l:List UInt8):ZJ (c::l)=(LO c&&ZJ l):=by simp[ZJ]
def Mm(h:ZJ l=true)(n:Nat):ZJ (l.take n)=true:=by
 rw[<-aX n l,VV,aA]at h;exact h.1
def Tu(h:ZJ l=true)(n:Nat):ZJ (l.drop n)=true:=by
 rw[<-aX n l,VV,aA]at h;exact h.2
theorem He(h:ZJ l=true):Jb l<10^l.length:=by
 induction l with
 |nil=>simp[Jb]
 |cons c l ih =>
  rw[DA,aA]at h;have:=ih h.2;have hc:=Km.1 h.1;rw[RM,aN,bT];have:(c.toNat-48)*10^l.length<=9*10^l.length:=fW _ O;omega
def Kz{d:Nat}(h:d<10):(fM (48+d)).toNat=48+d:=by
 rw[UInt8.toNat_ofNat'];omega
def Jx(n:Nat):ZJ (af n)=true:=by
 induction n using iQ with
 |_ n ih =>
  rw[af];split
  ·rename_i h;simp[ZJ,LO,Kz h];omega
  rw[VV,ih (n/10) O];have:n%10<10:=O;simp[ZJ,LO,Kz this];omega
def Xd(n:Nat):Jb (af n)=n:=by
 induction n using iQ with
 |_ n ih =>
  rw[af];split
  ·rename_i h;rw[Wp,Kz h];omega
  rw[Kd,ih (n/10) O,Wp,Kz O];simp;omega
def V5(n:Nat):af n≠[]:=by
 rw[af];split<;>simp
def YZ:af 0=[48]:=by rw[af];rfl
def Xu(l:List UInt8):Bool:=ZJ l&&!l.isEmpty&&(l==[48]||!(l.head?==some 48))
def Wc{d:Nat}(hn:0<n)(hd:d<10):af (n*10+d)=af n++[fM (48+d)]:=by
 rw[af,dif_neg O];congr 2
 ·congr 1;omega
 congr 2;omega
def IV(h:LO c=true):fM (48+(c.toNat-48))=c:=by
 have:=Km.1 h;apply eQ;rw[Kz O];omega
theorem Er:∀ {l:List UInt8},ZJ l=true->l≠[]->l.head?≠some 48->af (Jb l)=l/\0<Jb l:=by
 intro l
 induction hn:l.length generalizing l with
 |zero=>intro _ h _;exact absurd (aJ hn) h
 |succ n ih =>
  intro ha hne hh;rcases List.eq_nil_or_concat l with h | ⟨a,c,rfl⟩
  ·exact absurd h hne
  simp only[List.concat_eq_append]at *
  rw[VV,aA]at ha;have hc:LO c=true:=by simpa[ZJ]using ha.2
  have hc':=Km.1 hc;rw[Kd,Wp];cases a with
  |nil =>
   have h48:c≠48:=by simpa using hh
   have:c.toNat≠48:=λe=>h48 (eQ (by rw[e];rfl));simp only[qd,fN,aW,ek];refine⟨?_,O⟩;rw[af,dif_pos O,IV hc]
  |cons x a =>
   obtain⟨h1,h2⟩:=ih (l:=x::a) (by simp at hn ⊢;omega) ha.1 wz (by simpa using hh);refine⟨?_,w6⟩;simp only[eF,lM];rw[Wc h2 O,h1,IV hc]
def Es(h:Xu l=true):af (Jb l)=l:=by
 simp only[Xu,aA,iP,beq_iff_eq,iF,fu]at h;rcases h.2 with h1 | h1
 ·subst h1;rw[Wp];exact YZ
 exact(Er h.1.1 h.1.2 (by simpa using h1)).1
theorem vT(h:ZJ l=true):∀a,ij a l=some (a*10^l.length+Jb l):=by
 induction l with
 |nil=>intro a;simp[ij,Jb]
 |cons c l ih =>
  intro a;rw[DA,aA]at h;have hc:=Km.1 h.1;simp only[ij,Lib.digitVal,if_pos hc];rw[ih h.2,RM,aN,bT,bN,fC,fO 10,eT]
theorem jb{l:List UInt8}(h:ZJ l=true)(hne:l≠[]):iX l=some (Jb l:Int):=by
 cases l with
 |nil=>exact absurd rfl hne
 |cons c l =>
  have hc:=Km.1 (by rw[DA,aA]at h;exact h.1);have h1:(c==45)=false:=by
   apply beq_eq_false_iff_ne.2;rintro rfl;simp at hc
  have h2:(c==43)=false:=by
   apply beq_eq_false_iff_ne.2;rintro rfl;simp at hc
  simp only[iX,h1,h2,bW,if_false,Lib.decNat,List.isEmpty_cons];rw[vT h];simp
def H6(k:Nat)(l:List UInt8):List UInt8:=fh [48] (k-l.length)++l
def Ge(k:Nat):fh [48] k=aP k 48:=by
 induction k with
 |zero=>rfl
 |succ k ih=>rw[fh,ih];rfl
def Kj{u:Nat}(h:u<10^k)(hk:0<k):aO u<=k:=by
 induction k generalizing u with
 |zero=>omega
 |succ k ih =>
  by_cases h10:u<10
  ·rw[Lib.nDigits_small h10];omega
  rw[Lib.nDigits_big h10];rcases iB k with h0 | h0
  ·subst h0;simp at h;omega
  have:=ih (u:=u/10) (by rw[bT]at h;omega) h0;omega
theorem OA{u:Nat}(hk:0<k):k<aO u↔10^k<=u:=by
 constructor
 ·intro h;rcases aS u (10^k)with g | g
  ·have:=Kj g hk;omega
  exact g
 intro h;rcases aS k (aO u)with g | g
 ·exact g
 have h1:=iD u;have h2:10^aO u<=10^k:=bM wu g;omega
def yY(k:Nat)(l:List UInt8)(c:UInt8):H6 (k+1) (l++[c])=H6 k l++[c]:=by
 unfold H6;simp
theorem Wr{q:Nat}(hq:0<q):∀(k r:Nat),0<k->r<10^k->af (q*10^k+r)=af q++H6 k (af r)
 |0,_,h,_=>O
 |1,r,_,hr=>by
  simp only[lM]at *
  rw[Wc hq hr,e8 hr];rfl
 |k+2,r,_,hr=>by
  have e:q*10^(k+2)+r=(q*10^(k+1)+r/10)*10+r%10:=by
   rw[bT,<-fC];omega
  have hr1:r/10<10^(k+1):=by rw[bT]at hr;omega
  have hpos:0<q*10^(k+1)+r/10:=by
   have:=Nat.mul_pos hq (Nat.pow_pos (n:=k+1) (show 0<10 by decide));omega
  rw[e,Wc hpos O,Wr hq (k+1) (r/10) O hr1,bc];congr 1;by_cases h10:r<10
  ·rw[e8 (show r/10<10 by omega),e8 h10];have h0:r/10=0:=O;rw[h0];unfold H6;rw[Ge,Ge];simp only[eF,iC];rw[show k+2-1=k+1 by omega,fU,Nat.mod_eq_of_lt h10];rfl
  rw[<-yY];congr 1;rw[lH r,dif_neg h10]
def Zn(z:Int):List UInt8:=ig z
def Jh(r:Rat):List UInt8:=if r.den=1 then Zn r.num else Zn r.num++47::af r.den
def Ki(h:z<0):Zn z=45::af z.natAbs:=by unfold Zn ig;rw[if_pos h]
def XO(h:0<=z):Zn z=af z.natAbs:=by
 unfold Zn ig;rw[if_neg O];congr 1;omega
def Y7(l:List UInt8):Int:=if aC l [45]then -(Jb (l.drop 1):Int)else(Jb l:Int)
theorem Vh(h:ZJ l=true):aC l [45]=false:=by
 cases l with
 |nil=>rfl
 |cons c l =>
  have hc:=Km.1 (by rw[DA,aA]at h;exact h.1);have:(45==c)=false:=by
   apply beq_eq_false_iff_ne.2;rintro rfl;simp at hc
  simp[aC,ep,this]
def Kt(z:Int):Y7 (Zn z)=z:=by
 unfold Y7;by_cases h:z<0
 ·rw[Ki h];simp[aC,ep,Xd];omega
 rw[XO O,Vh (Jx _)];simp[Xd];omega
def Xl{b:Int}(h:sz a<=m)(k:sz b<=n):sz (a*b)<=m+n:=ae (Vx a b) (Nat.add_le_add h k)
def S7{b:Int}(h:sz a<=m)(k:sz b<=n):sz (a+b)<=max m n+1:=wk<|Lj a b
theorem VA{b:Int}(hb:b≠0):JQ (aG a b)<=max (sz a) (sz b):=by
 have key:∀(x y:Int),0<y->JQ (aG x y)<=max (sz x) (sz y):=by
  intro x y hy;have h:=V4 (x:=x) hy;unfold JQ;rw[h.1,h.2];have h1:sz (x/(ef x y:Int))<=sz x:=KZ (bA _ _);have h2:sz (y/(ef x y:Int))<=sz y:=KZ (bA _ _);omega
 rcases Int.lt_or_gt_of_ne hb with h | h
 ·rw[<-iz];have:=key (-a) (-b) O;rw[Vf,Vf]at this;exact this
 exact key a b h
def Ko(r:Rat):(r.den:Int)≠0:=wk<|den_pos r
def Be(r s:Rat):r+s=aG (r.num*s.den+s.num*r.den) ((r.den:Int)*s.den):=by
 rw[lk,<-iL,fj]
def BQ(r s:Rat):r*s=aG (r.num*s.num) ((r.den:Int)*s.den):=by
 rw[Rat.mul_def',<-iL,fj]
def Vw(r:Rat):JQ (-r)=JQ r:=by unfold JQ;rw[Rat.neg_num,Rat.neg_den,Vf]
def YC(r s:Rat):JQ (r+s)<=JQ r+JQ s+1:=by
 rw[Be];refine ae (VA (eG (Ko r) (Ko s))) ?_;have h1:=S7 (Xl (Jw r) (Jp s)) (Xl (Jw s) (Jp r));have h2:=Xl (Jp r) (Jp s);omega
def Bm(r s:Rat):JQ (r-s)<=JQ r+JQ s+1:=by
 rw[iy];have:=YC r (-s);rw[Vw]at this;exact this
def Xp(r s:Rat):JQ (r*s)<=JQ r+JQ s:=by
 rw[BQ];refine ae (VA (eG (Ko r) (Ko s))) ?_;have h1:=Xl (Jw r) (Jw s);have h2:=Xl (Jp r) (Jp s);omega
theorem Mv{r:Rat}(h:r.num≠0):JQ r⁻¹<=JQ r:=by
 rw[lK];have:=VA (a:=(r.den:Int)) h;unfold JQ at this ⊢;omega
def GF(n:Int):JQ (n:Rat)<=max (sz n) 1:=by
 unfold JQ;rw[eB,eC];have:sz ((1:Nat):Int)=1:=wu;omega
def Wt(r:Rat)(k:Nat):JQ (r^k)<=k*JQ r+1:=by
 unfold JQ;rw[lJ,lL,fi];have h1:=Dl r.num k;have h2:=Dl (r.den:Int) k;have h3:=aM k (iR (sz r.num) (sz (r.den:Int)));have h4:=aM k (iN (sz r.num) (sz (r.den:Int)));omega
def RB(r:Rat):sz r.floor<=JQ r:=by
 rw[iY];exact ae (KZ (bA _ _)) (Jw r)
theorem Wl{x y:Fr}{r s:Rat}(hF:Fits F w)(h:JP F x r)(h':JP F y s)(hr:JQ r<=100000000)(hs:JQ s<=100000000):X1 prog 92 [x.v,y.v] w F (r*s):=by
 refine QT.intro (G:=λF=>JP F x r/\JP F y s) func92 rfl wy rfl rfl hF (λF' hF'=>⟨h.le hF',h'.le hF'⟩)<|QKO<|Qu rfl (vs:=[_,_,_,_]) rfl λb2=>Qu rfl (vs:=[_,_,_,_]) rfl λb3=>Qc XZ λb4=>QJC<|QG<|JK (.cons _ tC) mixed wm<|QK (QH rfl Yq Qn)<|QK (wH I Qn .u1)<|QK (QH rfl Yq Qn)<|QK (wH I Qn .here)<|QM rfl (λ_ _ f k=>DY f k.1.1 k.2.1 (ae (Jw r) O) (ae (Jw s) O)) λg9=>QK (QH rfl Yp Qn)<|QK (QJ (vs:=[_,_]) rfl Qn .u1 (.skip (.skip .h2)) rfl)<|QK (QH rfl Yp Qn)<|QK (QJ (vs:=[_,_]) rfl Qn .here (.skip (.skip .h2)) rfl)<|QM rfl (λ_ _ f k=>DY f k.1.1.2 k.1.2.2 (ae (Jp r) O) (ae (Jp s) O)) λg14=>QM rfl (λw F hF ⟨⟨⟨⟨hn,hd⟩,⟨kn,kd⟩⟩,h9⟩,h14⟩=>Ui hF h9 h14 (eG (Ko r) (Ko s)) (ae (Xl (Jw r) (Jw s)) O) (ae (Xl (Jp r) (Jp s)) O)) λx15=>JU (vs:=[_,_,_,_]) rfl rfl rfl Qa rfl .here tC (λ_ h=>h.1.1.1) .h4 wV<|Q5<|QC<|QW ?_
 exact QQ (_) rfl (.JZ (c:=[_,_,_,_]) I Qa .here .nil) rfl λF h9=>(by rw[BQ];exact⟨h9.2.1,h9.2.2⟩)
def jf{r s:Rat}(h:(r.den:Int)=1)(k:(s.den:Int)=1):r+s=((r.num+s.num:Int):Rat):=by
 have h1:r.den=1:=O;have k1:s.den=1:=O;rw[lk,h1,k1];apply Rat.ext
 ·rw[Rat.num_mkRat,eB];simp
 rw[Rat.den_mkRat,eC];simp
theorem Dz{x y:Fr}{r s:Rat}(hF:Fits F w)(h:JP F x r)(h':JP F y s)(hr:JQ r<=100000000)(hs:JQ s<=100000000):X1 prog 46 [x.v,y.v] w F (r+s):=by
 refine QT.intro (G:=λF=>JP F x r/\JP F y s) func46 rfl wy rfl rfl hF (λF' hF'=>⟨h.le hF',h'.le hF'⟩)<|QKO<|Qu rfl (vs:=[_,_,_,_]) rfl λb2=>Qu rfl (vs:=[_,_,_,_]) rfl λb3=>Qc XZ λb4=>QJC<|QG ?_
 refine E6 10 (.bool (decide ((r.den:Int)=1)&&decide ((s.den:Int)=1))) ?_ ?_
 ·refine QB<|QA (wJ I Qa .u2)<|QI I (λw F hF ⟨⟨hn,hd⟩,⟨kn,kd⟩⟩=>Mb hF ⟨by assumption,by assumption⟩) λ_=>QJD I ?_
  refine Qs (t:=7) rfl (λhb7=>?_) λhb7=>?_
  ·refine QL I I<|QA (wJ I Qa .u1)<|QL I I<|QI I (λw F hF ⟨⟨⟨hn,hd⟩,⟨kn,kd⟩⟩,_⟩=>Mb hF ⟨by assumption,by assumption⟩) λ_=>wB 2 I ?_
   exact ZY (exd 7 rfl rfl) (by show some (ai _)=some (ai _);rw[hb7];rfl) QJZ λ_ h=>h.1.1
  refine wB 4 I ?_;exact ZY (exd 7 rfl rfl) (by show some (ai false)=some (ai _);rw[hb7];rfl) QJZ tA
 refine QO I (λhc=>?_) λhc=>?_
 ·refine QKO<|QA (QH I Yq Qn)<|QA (wH I Qn .u2)<|QA (QH I Yq Qn)<|QA (wH I Qn .u1)<|QI I (λ_ _ f k=>C4 f k.1.1 k.2.1 (ae (Jw r) O) (ae (Jw s) O)) λg15=>QI I (λw F hF ⟨⟨⟨hn,hd⟩,⟨kn,kd⟩⟩,h15⟩=>EB hF (by assumption)) λx16=>QR (vs:=[_,_,_,_]) I I I Qa I .here .h4 wV<|QJC<|QW ?_
  exact QQ (_) rfl (.JZ (c:=[_,_,_,_]) I Qa .here .nil) rfl λF h9=>(by have hc2:(r.den:Int)=1/\(s.den:Int)=1:=(by simpa using hc);have e:(r+s:Rat)=((r.num+s.num:Int):Rat):=jf hc2.1 hc2.2;rw[e];exact⟨h9.2.1,h9.2.2⟩)
 refine QKr 3 I<|JK (.cons _ tC) mixed wm<|QK (QH I Yq Qn)<|QK (wH I Qn .u1)<|QK (QH I Yp Qn)<|QK (QJ (vs:=[_,_]) I Qn .here (.skip (.skip .h2)) I)<|QM I (λ_ _ f k=>DY f k.1.1 k.2.2 (ae (Jw r) O) (ae (Jp s) O)) λg21=>QK (QH I Yq Qn)<|QK (wH I Qn .here)<|QK (QH I Yp Qn)<|QK (QJ (vs:=[_,_]) I Qn .u1 (.skip (.skip .h2)) I)<|QM I (λ_ _ f k=>DY f k.1.2.1 k.1.1.2 (ae (Jw s) O) (ae (Jp r) O)) λg26=>QM I (λ_ _ f k=>C4 f k.1.2 k.2 (ae (Xl (Jw r) (Jp s)) O) (ae (Xl (Jw s) (Jp r)) O)) λg27=>QK (QH I Yp Qn)<|QK (QJ (vs:=[_,_]) I Qn .u1 (.skip (.skip .h2)) I)<|QK (QH I Yp Qn)<|QK (QJ (vs:=[_,_]) I Qn .here (.skip (.skip .h2)) I)<|QM I (λ_ _ f k=>DY f k.1.1.1.1.2 k.1.1.1.2.2 (ae (Jp r) O) (ae (Jp s) O)) λg32=>QM I (λ_ _ f k=>Ui f k.1.2 k.2 (eG (Ko r) (Ko s)) (ae (S7 (Xl (Jw r) (Jp s)) (Xl (Jw s) (Jp r))) O) (ae (Xl (Jp r) (Jp s)) O)) λx33=>JU (vs:=[_,_,_,_]) I I I Qa I .here tC (λ_ h=>h.1.1.1.1.1) .h4 wV<|Q5<|QC<|QW ?_
 exact QQ (_) rfl (.JZ (c:=[_,_,_,_]) I Qa .here .nil) rfl λF h9=>(by rw[Be];exact⟨h9.2.1,h9.2.2⟩)
theorem Uv{x y:Fr}{r s:Rat}(hF:Fits F w)(h:JP F x r)(h':JP F y s)(hr:JQ r<=100000000)(hs:JQ s<=100000000):X1 prog 269 [x.v,y.v] w F (r-s):=by
 refine QT.intro (G:=λF=>JP F x r/\JP F y s) func269 rfl wy rfl rfl hF (λF' hF'=>⟨h.le hF',h'.le hF'⟩)<|QKO<|Qu rfl (vs:=[_,_,_,_]) rfl λb2=>Qu rfl (vs:=[_,_,_,_]) rfl λb3=>Qc XZ λb4=>QJC<|QG<|JK (.cons _ tC) mixed wm<|QK (wJ I Qa .u1)<|QK (wJ I Qa .here)<|QM rfl (λ_ _ f k=>Ux f ⟨k.2.1,k.2.2⟩) λx7=>QM rfl (λ_ _ f k=>Dz f ⟨k.1.1.1,k.1.1.2⟩ ⟨k.2.1,k.2.2⟩ hr (by rw[Vw];exact hs)) λx8=>JU (vs:=[_,_,_,_]) I I I Qa I .here tC (λ_ h=>h.1.1) .h4 wV<|Q5<|QC<|QW ?_
 exact QQ (_) rfl (.JZ (c:=[_,_,_,_]) I Qa .here .nil) rfl λF h9=>(by rw[iy];exact⟨h9.2.1,h9.2.2⟩)
theorem OR{x:Fr}{r:Rat}(hF:Fits F w)(h:JP F x r)(h0:r.num≠0)(hr:JQ r<=100000000):X1 prog 208 [x.v] w F r⁻¹:=by
 refine QT.intro (G:=λF=>JP F x r) func208 rfl wy rfl rfl hF (λF' hF'=>h.le hF')<|QKO<|Qu rfl (vs:=[_,_,_,_]) rfl λb1=>Qc XZ λb2=>QJC<|QKO<|QA (QH rfl Yp Qn)<|QA (QJ (vs:=[_,_]) rfl Qn .u1 (.skip (.skip .h2)) rfl)<|QA (QH rfl Yq Qn)<|QA (wH I Qn .u1)<|QI rfl (λ_ _ f k=>Ui f k.2 k.1 h0 (ae (Jp r) O) (ae (Jw r) O)) λx7=>QR (vs:=[_,_,_,_]) rfl rfl rfl Qa rfl .here .h4 wV<|QJC<|QW ?_
 exact QQ (_) rfl (.JZ (c:=[_,_,_,_]) I Qa .here .nil) rfl λF h9=>(by rw[lK];exact⟨h9.2.1,h9.2.2⟩)
theorem jI{x y:Fr}{r s:Rat}(hF:Fits F w)(h:JP F x r)(h':JP F y s)(h0:s.num≠0)(hr:JQ r<=100000000)(hs:JQ s<=100000000):X1 prog 94 [x.v,y.v] w F (r/s):=by
 refine QT.intro (G:=λF=>JP F x r/\JP F y s) func94 rfl wy rfl rfl hF (λF' hF'=>⟨h.le hF',h'.le hF'⟩)<|QKO<|Qu rfl (vs:=[_,_,_,_]) rfl λb2=>Qu rfl (vs:=[_,_,_,_]) rfl λb3=>Qc XZ λb4=>QJC<|QG<|JK (.cons _ tC) mixed wm<|QK (wJ I Qa .u1)<|QK (wJ I Qa .here)<|QM rfl (λ_ _ f k=>OR f ⟨k.2.1,k.2.2⟩ h0 hs) λx7=>QM rfl (λ_ _ f k=>Wl f ⟨k.1.1.1,k.1.1.2⟩ ⟨k.2.1,k.2.2⟩ hr (ae (Mv h0) hs)) λx8=>JU (vs:=[_,_,_,_]) rfl rfl rfl Qa rfl .here tC (λ_ h=>h.1.1) .h4 wV<|Q5<|QC<|QW ?_
 exact QQ (_) rfl (.JZ (c:=[_,_,_,_]) I Qa .here .nil) rfl λF h9=>(by rw[Rat.div_def];exact⟨h9.2.1,h9.2.2⟩)
def Z7(r s:Rat):Int:=if r<s then -1 else if r=s then 0 else 1
def uk(r s:Rat):YG (r.num*s.den) (s.num*r.den)=Z7 r s:=by
 unfold Z7;rcases ee (r.num*s.den) (s.num*r.den)with h | h | h
 ·rw[G6 h,if_pos ((iA r s).2 h)]
 ·rw[h,SS,if_neg (by rw[iA];omega),if_pos (Rat.eq_iff_mul_eq_mul.2 h)]
 rw[Ev h,if_neg (by rw[iA];omega),if_neg (by rw[Rat.eq_iff_mul_eq_mul];omega)]
theorem GU{x y:Fr}{r s:Rat}(hF:Fits F w)(h:JP F x r)(h':JP F y s)(hr:JQ r<=100000000)(hs:JQ s<=100000000):Qe prog 111 [x.v,y.v] w F (.int .i64 (Z7 r s)):=by
 rw[<-uk];refine QT.intro (G:=λF=>JP F x r/\JP F y s) func111 rfl wy rfl rfl hF (λF' hF'=>⟨h.le hF',h'.le hF'⟩)<|QKO<|Qu rfl (vs:=[_,_,_,_]) rfl λb2=>Qu rfl (vs:=[_,_,_,_]) rfl λb3=>wQ rfl<|QG<|JK QJZ mixed wm<|QK (QH rfl Yq Qn)<|QK (wH I Qn .u1)<|QK (QH rfl Yp Qn)<|QK (QJ (vs:=[_,_]) rfl Qn .here (.skip (.skip .h2)) rfl)<|QM rfl (λ_ _ f k=>DY f k.1.1 k.2.2 (ae (Jw r) O) (ae (Jp s) O)) λg9=>QK (QH rfl Yq Qn)<|QK (wH I Qn .here)<|QK (QH rfl Yp Qn)<|QK (QJ (vs:=[_,_]) rfl Qn .u1 (.skip (.skip .h2)) rfl)<|QM rfl (λ_ _ f k=>DY f k.1.2.1 k.1.1.2 (ae (Jw s) O) (ae (Jp r) O)) λg14=>QM rfl (λw F hF ⟨⟨⟨⟨hn,hd⟩,⟨kn,kd⟩⟩,h9⟩,h14⟩=>QFD hF h9 h14 (ae (Xl (Jw r) (Jp s)) O) (ae (Xl (Jw s) (Jp r)) O)) λ_=>QK (QF rfl)<|Q5<|QC<|QW ?_
 exact QKx I I I w8
theorem IM{x:Fr}{r:Rat}(hF:Fits F w)(h:JP F x r)(hr:JQ r<=100000000):ZP prog 317 [x.v] w F r.floor:=by
 refine QT.intro (G:=λF=>JP F x r) func317 rfl wy rfl rfl hF (λF' hF'=>h.le hF')<|QKO<|Qu rfl (vs:=[_,_,_,_]) rfl λb1=>Qc Wj λb2=>QJC<|QKO<|QA (QH rfl Yq Qn)<|QA (wH I Qn .u1)<|QA (QH rfl Yp Qn)<|QA (QJ (vs:=[_,_]) rfl Qn .u1 (.skip (.skip .h2)) rfl) ?_
 refine QI I (λ_ _ f k=>Eo f k.1 k.2 (den_pos r) (ae (Jw r) O) (ae (Jp r) O)) (λc10=>?_);rcases c10 with ⟨g10,g10_⟩;dsimp only;refine wB 3 I<|Qc Wj λb3=>Qc Wj λb4=>QR (vs:=[_,_]) I I I Qn I .u1 .h2 wT<|QR (vs:=[_,_]) I I I Qn I .here .h2 wT<|QJC<|QKO<|QA (wH I Qn .u1)<|QR (vs:=[_,_]) I I I Qn I .u2 .h2 wT<|QJC<|QW ?_
 exact QQ (_) rfl (.JZ (c:=[_,_]) I Qn .u2 .nil) rfl λF h9=>(by rw[iY];exact h9.2.1)
theorem uX{x:Fr}{r:Rat}(hF:Fits F w)(h:JP F x r)(hr:JQ r<=100000000):ZP prog 318 [x.v] w F (-(-r).floor):=by
 refine QT.intro (G:=λF=>JP F x r) func318 rfl wy rfl rfl hF (λF' hF'=>h.le hF')<|QKO<|Qu rfl (vs:=[_,_,_,_]) rfl λb1=>Qc Wj λb2=>QJC<|QKO<|QA (wJ I Qa .u1)<|QI rfl (λ_ _ f k=>Ux f ⟨k.1,k.2⟩) λx4=>QI rfl (λ_ _ f k=>IM f ⟨k.2.1,k.2.2⟩ (by rw[Vw];exact hr)) λg5=>QI I (λw F hF ⟨⟨⟨hn,hd⟩,⟨h4,h4_⟩⟩,h5⟩=>RX hF (by assumption)) λg6=>QR (vs:=[_,_]) I I I Qn I .here .h2 wT<|QJC<|QW ?_
 exact QQ (_) rfl (.JZ (c:=[_,_]) I Qn .here .nil) rfl tB
def OM:(aG 1 2).num=1/\((aG 1 2).den:Int)=2:=wv
theorem Me{x:Fr}{r:Rat}{k:Int}(hF:Fits F w)(h:JP F x r)(hk:0<=k)(hK:k<=9223372036854775807)(hz:k.toNat*JQ r<=500000000):X1 prog 262 [x.v,.int .i64 k] w F (r^k.toNat):=by
 refine QT.intro (G:=λF=>JP F x r) func262 rfl wy rfl rfl hF (λF' hF'=>h.le hF')<|QKO<|Qu rfl (vs:=[_,_,_,_]) rfl λb2=>Qc XZ λb4=>QJC<|QG<|JK (.cons _ tC) mixed wm<|QK (QH rfl Yq Qn)<|QK (wH I Qn .here)<|QK (QD rfl)<|QM rfl (λ_ _ f k=>yL f k.1 hk hK (ae (aM _ (Jw r)) hz)) λg8=>QK (QH rfl Yp Qn)<|QK (QJ (vs:=[_,_]) rfl Qn .here (.skip (.skip .h2)) rfl)<|QK (QD rfl)<|QM rfl (λ_ _ f k=>yL f k.1.2 hk hK (ae (aM _ (Jp r)) hz)) λg12=>QK (Qx rfl TL XZ (.cons (vs:=[_,_]) rfl rfl rfl .h2 (.cons (vs:=[_,_]) rfl rfl rfl (.skip (.skip .h2)) .nil)))<|JU (vs:=[_,_,_,_]) rfl rfl rfl Qa rfl .here tC (λ_ h=>h.1.1) .h4 wV<|Q5<|QC<|QW ?_
 exact QQ (⟨g8,g12⟩) I (.JZ (c:=[_,_,_,_]) I Qa .here .nil) rfl λF h9=>⟨by rw[lJ];exact h9.1.2,by rw[lL,fi];exact h9.2⟩
theorem KB.kind{s:Int}{q:Option Addr}(h:KB w s q n cap z):(q.isNone=true/\s=z/\-9223372036854775808<=z/\z<=9223372036854775807)\/(q.isNone=false/\¬(-9223372036854775808<=z/\z<=9223372036854775807/\z≠-9223372036854775808)):=by
 rcases h with ⟨rfl,_,_,h1,h2,h3⟩ | ⟨b,off,l,rfl,_,_,_,_,_,_,_,hs,hz,hd⟩
 ·exact .inl ⟨rfl,h1,h2,h3⟩
 refine .inr ⟨rfl,?_⟩;rcases hs with rfl | rfl<;>omega
theorem de(hF:Fits F w)(h:XC F g a):QT prog 206 [g.v] w F (λ(c:Int×Bool)=>.tuple #[.int .i64 c.1,.bool c.2])
  (λc _=>(c.2=true/\c.1=a/\-9223372036854775808<=a/\a<=9223372036854775807)\/(c.2=false/\¬(-9223372036854775808<=a/\a<=9223372036854775807/\a≠-9223372036854775808))):=by
 have hk:=KB.kind (h w hF.r);refine QT.intro (G:=λF=>XC F g a) func206 rfl wy rfl rfl hF (λF' hF'=>h.le hF')<|QKO<|Qu rfl (vs:=[_,_]) rfl λb1=>QJE rfl<|wQ rfl<|QG<|JK QJZ mixed wm<|QK (QH rfl Rq JO)<|QK (Qf rfl JO .here .h1)<|QK (QH rfl Mh Ha)<|QK (Qf rfl Ha .here (.skip .h1))<|QK (GL rfl rfl WU)<|QK (QF rfl)<|QK (QF rfl)<|Q5<|QC<|QW ?_
 exact JY ((g.s,g.q.isNone)) I (wO I I) rfl λF _=>hk
theorem CL{m:Sl}{w0:World}{F0:Gs}{bs:List (Nat×Obj)}{G:Gs->Prop}{ty:TypeId}{l:List Int}(hx:ev m x=some (.pointer (some ⟨b,off+i*1,none⟩)))(ht:Z1 P T=some (false,n))(hr:∀F,G F->Va F ⟨some ⟨b,off,none⟩,k,cap⟩ l)(hi:i<l.length):
  Qt P N m (St ⟨w0,F0,bs,G⟩) (.load T x) ty (.int .u64 (l.getD i 0)):=λa w _ _ _ _ ha hw=>by
 obtain⟨F,hw⟩:=hw;obtain⟨q,cap',e,_,_,hc⟩:=(hr F hw.hG).1 w hw.fits.r;obtain⟨b',off',e1,_,e2⟩:=hc i hi;simp only[Sr.v,bB]at e;have e3:=e.1.trans e1;simp only[bQ,fm]at e3;obtain⟨rfl,rfl,_⟩:=e3;have hc':w.cell? ⟨b,off+i*1,none⟩=some (.int .u64 (l.getD i 0)):=by rw[fV];exact e2
 have hrun:=Z3 (P:=P) ht hc';simp at hrun;simp[execOp,ha.ev hx,eV,eI,hrun]
theorem Va.at{r:Sr}{l:List Int}(h:Va F r l){w:World}(hw:Fits F w)(hl:l≠[]):r.n=l.length/\∃b off,r.q=some ⟨b,off,none⟩:=by
 obtain⟨q,cap,e,_,_,hc⟩:=h.1 w hw.r;have hlen:0<l.length:=by cases l with | nil=>exact absurd rfl hl | cons=>simp
 obtain⟨b,off,e1,_,_⟩:=hc 0 hlen;simp only[Sr.v,bB]at e;exact⟨e.2.1,b,off,e.1.trans e1⟩
theorem Va.len{r:Sr}{l:List Int}(h:Va F r l){w:World}(hw:Fits F w):r.n=l.length:=by
 obtain⟨q,cap,e,_,_,hc⟩:=h.1 w hw.r;simp only[Sr.v,bB]at e;exact e.2.1
theorem zJ(h1:2^k<=z.natAbs)(h2:z.natAbs<2^(k+1)):sz z=k+1:=by
 have a:=(XE z (k+1)).2 h2;have b:¬sz z<=k:=λh=>wk<|(XE z k).1 h
 omega
theorem jY{l:List Int}(hd:DG W l)(hn:NZ l)(hl:l≠[]){a:Int}(ha:dv W l=Jm a):sz a=64*(l.length-1)+bH (l.getD (l.length-1) 0).toNat/\bH (l.getD (l.length-1) 0).toNat<=64:=by
 rcases Lo l with h | ⟨m,x,rfl⟩
 ·exact absurd h hl
 have hx:=hd x wz;have hx0:x≠0:=by intro e;subst e;simp[NZ]at hn
 have hm:DG W m:=hd.left;have e1:((m++[x]).getD ((m++[x]).length-1) 0)=x:=wz;rw[e1];have e2:(m++[x]).length-1=m.length:=wz;rw[e2];have hW:W=18446744073709551616:=rfl;obtain⟨y,rfl⟩:=fK hx.1;rw[bh];have hy1:y<2^64:=by have:=hx.2;rw[hW]at this;omega
 obtain⟨g1,g2,g3⟩:=Lib.bitLenAux_bounds 64 y hy1 O;change 1<=bH y at g1;change 2^(bH y-1)<=y at g2;change y<2^bH y at g3;have g4:bH y<=64:=Lib.bitLen_le y 64 O hy1;refine⟨?_,g4⟩;rw[ZA]at ha;have h0:=JJ (by decide:(0:Int)<W) hm;have h1:=Kn (by decide:(0:Int)<W) hm;obtain⟨d,hd'⟩:=fK h0;have hWp:W^m.length=((2^(64*m.length):Nat):Int):=by
  rw[hW,lN];simp
 rw[hWp]at ha h1;rw[hd']at ha h1;have hna:a.natAbs=d+2^(64*m.length)*y:=by
  have:((a.natAbs:Nat):Int)=((d+2^(64*m.length)*y:Nat):Int):=by
   rw[<-VJ,<-ha];simp
  exact Int.ofNat.inj this
 have hlt:d<2^(64*m.length):=O;obtain⟨k,hk⟩:∃k,bH y=k+1:=⟨_,(Nat.sub_add_cancel g1).symm⟩;rw[hk]at g2 g3 ⊢;rw[iC]at g2;have hp:2^(64*m.length+k)=2^(64*m.length)*2^k:=lO _ _ _;have hp':2^(64*m.length+k+1)=2^(64*m.length)*2^(k+1):=by rw[eT,lO]
 refine zJ (k:=64*m.length+k) ?_ ?_
 ·rw[hna,hp];exact ae (aM _ g2) (Nat.le_add_left _ _)
 rw[hna,hp'];have h2:2^(64*m.length)*(y+1)<=2^(64*m.length)*2^(k+1):=aM _ g3;rw[lP]at h2;omega
theorem QCb(hF:Fits F w)(h:XC F g a)(hza:sz a<=1000000000):Qe prog 288 [g.v] w F (.int .i64 (sz a)):=by
 refine QT.intro (G:=λF=>XC F g a) func288 rfl wy rfl rfl hF (λF' hF'=>h.le hF')<|QKO<|Qu rfl (vs:=[_,_]) rfl λb1=>wQ rfl<|QKO<|QA (wH I Qn .here) ?_
 refine QI I (λ_ _ f k=>N7 f (by assumption)) (λc7=>?_);rcases c7 with ⟨v7,l7⟩;dsimp only;refine JN _ (λw F hF ⟨hG0,⟨h7,h7p⟩⟩=>bJ h7.2 h7p) (λp7=>JN _ (λ_ _ f k=>k.2.1.len f) λhl7=>?_);have hlen7:=ZE p7.1.1 p7.1.2 p7.2 hza
 try dsimp only at hl7
 refine QKq 11 I<|QA (Qg I WU)<|QKq 3 I ?_
 refine QO I (λhc=>?_) λhc=>?_
 ·refine wA 6 I ?_;exact QQ () I (wN I) (by have h0:l7=[]:=aJ (by simp at hc;omega);have e:=p7.2;rw[h0]at e;have:a=0:=(by have:=VJ a;simp at e;omega);subst this;rfl) w8
 refine QKr 4 I ?_;have hne:l7≠[]:=by rintro rfl;simp at hc;simp at hl7;omega
 have hpos:0<l7.length:=by cases l7 with | nil=>exact absurd rfl hne | cons=>simp
 have hsp:=jY p7.1.1 p7.1.2 hne p7.2;refine JN _ (λ_ _ f k=>(k.2.1.at f hne).2) (λhq7=>?_);obtain⟨qb,qo,hq7⟩:=hq7;obtain⟨vq,vn,vcap⟩:=v7
 try dsimp only at hq7 hl7
 subst hq7;subst hl7;dsimp only;refine QJD I<|QA (Qg I WU)<|QA (X6 I I O)<|QA (N0 I I O)<|wB 2 I<|QA (Qg I WU)<|QA (X6 I I O)<|QA (JL (i:=l7.length-1) rfl wM WU Py O)<|QA (CL I Py (λF h9=>h9.2.1) O)<|QI I (λ_ _ f k=>pZ f (p7.1.1.getD wu _).1 (by have:=(p7.1.1.getD wu (l7.length-1)).2;have hW:W=18446744073709551616:=rfl;omega)) λ_=>QA (Qv I I O)<|wQ I<|QW ?_
 exact QQ () I (wN I) (congrArg (ao .i64) (wk hsp.1)) w8
def EF{l:List UInt8}(h:ZJ l=true):sz (Jb l:Int)<=4*l.length:=by
 rw[XE,Int.natAbs_natCast,lN];exact aB (He h) (eR wu _)
def QEt(n:Nat):(if(n:Int)<18 then(n:Int)else 18)=((min 18 n:Nat):Int):=by split<;>omega
def Lw:Jb (l.take (k+n))=Jb (l.take k)*10^((l.drop k).take n).length+Jb ((l.drop k).take n):=by
 rw[<-Kd,List.take_add]
def Au(k:Nat):sz ((10:Int)^k)<=4*k+1:=by have:=Dl 10 k;rw[show sz 10=4 by decide]at this;omega
structure QA1(n:Nat) where
 k:Nat
 g:Bg
 le:k<=n
theorem RL(hF:Fits F w)(hs:ZJ (ah s [45])=true)(hl:s.length<=10000000):ZP prog 205 [tx s] w F (Y7 s):=by
 have hll:(ah s [45]).length<=s.length:=by unfold ah;split<;>simp
 have hval:Y7 s=if aC s [45]then -(Jb (ah s [45]):Int)else(Jb (ah s [45]):Int):=by
  unfold Y7 ah;split<;>simp_all
 rw[hval];refine QT.intro (G:=λ_=>True) func205 rfl wy rfl rfl hF w8<|QKO<|Qc Wj λb2=>QJC<|wR rfl<|QI rfl (λ_ _ f _=>IC f ) λ_=>wQ rfl<|wR rfl<|QI rfl (λ_ _ f k=>ED f ) λ_=>wQ rfl<|QKO<|QA (Qx rfl QEd Wj .nil)<|Qc Wj λb4=>QR (vs:=[_,_]) rfl rfl rfl Qn rfl .here .h2 wT ?_
 refine QKq 4 I ?_;generalize ah s [45]=l at *
 refine YA (ι:=QA1 l.length) (λi=>[(0,tx (l.drop i.k)),(2,.pointer (some ⟨b2,0,none⟩)),(4,.pointer (some ⟨b4,0,none⟩)),(3,.bool (aC s [45]))]) (λi=>[(b4,.cells #[.int .i64 i.g.s,.slice i.g.q i.g.n i.g.cap] 93 (0,0)),(b2,.cells #[.int .i64 0,.slice none 0 0] 93 (0,0))]) (λi F=>XC F i.g (Jb (l.take i.k))) (λi=>l.length-i.k)
  ⟨0,⟨0,none,0,0⟩,eK _⟩ wV QJZ (λF _=>XC.small F wu wu) λi=>?_
 refine wA 4 I<|QA (X7 I Zo)<|QKq 3 I ?_
 refine QO I (λhc=>?_) λhc=>?_
 ·refine QKr 6 I<|QA (X7 I Zo)<|QA (gk I I) ?_
  rw[QEt];have hk0:i.k<l.length:=by simp at hc;omega
  have hpl:((l.drop i.k).take (min 18 (l.drop i.k).length)).length=min 18 (l.drop i.k).length:=wz;have hpa:ZJ ((l.drop i.k).take (min 18 (l.drop i.k).length))=true:=Mm (Tu hs _) _;have hp18:=He hpa;have hpz:(10:Nat)^((l.drop i.k).take (min 18 (l.drop i.k).length)).length<=10^18:=bM wu O;have hm0:0<min 18 (l.drop i.k).length:=w6;have hsk:sz (Jb (l.take i.k):Int)<=40000000:=ae (EF (Mm hs _)) w6;refine wQ rfl<|wR rfl<|QJD rfl<|QA (Mw (min 18 (l.drop i.k).length) rfl rfl Zo rfl O)<|QI rfl (λ_ _ f k=>QCc f O (jb hpa (by intro e;rw[e]at hpl;simp at hpl;omega))) λ_=>QKq 8 I<|Js 8 QJZ mixed wm wm ?_
  simp only[aU,bF,aV,aQ];refine QK (wH I Qn .here)<|QM I (λ_ _ f k=>FZ f O O) λg27=>QK (QD I)<|QM I (λ_ _ f k=>yL f k.2 O O (by rw[bh,show sz 10=4 by decide];omega)) λg29=>QM I (λ_ _ f k=>DY f k.1.1.1 k.2 O (by rw[bh];exact ae (Au _) O)) λg30=>QK (QD I)<|QM I (λ_ _ f k=>FZ f O O) λg32=>QM I (λ_ _ f k=>C4 f k.1.2 k.2 (ae (Xl hsk (Au _)) (by rw[bh];omega)) (ae (EF hpa) O)) λg33=>Za<|QR (vs:=[_,_]) I I I Qn I .here .h2 wT<|QKq 5 I<|QA (GG (min 18 (l.drop i.k).length) rfl rfl Zo I O)<|wB 2 I<|Qk ?_
  refine Ql (⟨i.k+min 18 (l.drop i.k).length,g33,w6⟩:QA1 l.length) w6 ⟨(by show some (tx _)=some (tx _);simp),rfl,rfl,rfl,trivial⟩ QJZ (λF ⟨_,h33⟩=>by
   show XC F g33 (Jb (l.take (i.k+min 18 (l.drop i.k).length)):Int);rw[Lw];rw[bh]at h33;have e:((l.drop i.k).take (min 18 (l.drop i.k).length)).length=min 18 (l.drop i.k).length:=wz;rw[e,Int.natCast_add,fj,fi];exact h33)
 refine Q2 ?_
 repeat first|refine QY ?_|refine QP wy ?_
 refine QZ<|QKs 7 I ?_
 have hdone:l.take i.k=l:=aq (by have:=i.le;simp at hc;omega);clear hc;refine QO I (λhc=>?_) λhc=>?_
 ·refine QKO<|QA (wH I Qn .here)<|QI I (λ_ _ f k=>RX f k) λg39=>QR (vs:=[_,_]) I I I Qn I .u1 .h2 wT<|QJC<|QW ?_
  exact QQ (_) rfl (.JZ (c:=[_,_]) I Qn .u1 .nil) rfl λF ⟨hO,h39⟩=>(by rw[hdone]at h39;rw[if_pos hc];exact h39)
 refine QKr 4 I<|QA (wH I Qn .here)<|QR (vs:=[_,_]) I I I Qn I .u1 .h2 wT<|QJC<|QW ?_
 exact QQ (_) rfl (.JZ (c:=[_,_]) I Qn .u1 .nil) rfl λF hO=>(by rw[hdone]at hO;rw[if_neg (by simp[hc])];exact hO)
section
variable[Dr][df:Df]{P:Program}{Q:Exit->Act->World->Prop}{N:Nat}{m:Sl}{E E0:Env}{ops:Array Oper}{l:List Oper}{w0:World}{F0:Gs}{bs:List (Nat×Obj)}{G:Gs->Prop}
theorem St.vQ(h:St ⟨w0,F0,bs,G⟩ w)(c:Array Value)(T:TypeId):St ⟨w0,F0,bs,λF=>G F/\F w.heap.size=some (c,T)⟩ (w.alloc (.cells c T)):=by
 obtain⟨F,h⟩:=h;have hnone:=h.fits.none (aF w.heap.size);have hle:Gs.le F (λi=>if i=w.heap.size then some (c,T)else F i):=λi x hx=>by
  by_cases e:i=w.heap.size
  ·subst e;rw[hnone]at hx;cases hx
  show(if _ then _ else _)=_;rw[if_neg e];exact hx
 have hnew:(w.alloc (.cells c T)).heap[w.heap.size]?=some (.cells c T):=by show(w.heap.push _)[_]?=_;simp
 refine⟨_,Gs.le_trans h.le hle,λb hb=>?_,⟨λb c' T' hb=>?_,λb c' fr hb=>?_⟩,h.ext.alloc _,λk hk=>?_,h.nd,λF' hF'=>⟨h.g F' (Gs.le_trans hle hF'),hF' _ _ (if_pos rfl)⟩⟩
 ·have hb2:b<w.heap.size:=aB hb h.ext.size;rw[if_neg O];exact h.old b hb
 ·by_cases e:b=w.heap.size
  ·subst e;rw[if_pos rfl]at hb;cases hb;exact⟨_,hnew⟩
  rw[if_neg e]at hb;obtain⟨fr,e2⟩:=h.fits.row b c' T' hb;exact⟨fr,by rw[eZ _ _ _ (h.fits.lt hb)];exact e2⟩
 ·by_cases e:b=w.heap.size
  ·subst e;rw[hnew]at hb;cases hb;show(if _ then _ else _)=_;rw[if_pos rfl]
  show(if _ then _ else _)=_;rw[if_neg e];have hlt:b<w.heap.size:=by
   rcases aS b w.heap.size with g | g
   ·exact g
   exfalso;have:(w.heap.push (.cells c T))[b]?=some (.cells c' 289 fr):=hb;rw[fG w6]at this;cases this
  rw[eZ _ _ _ hlt]at hb;exact h.fits.all b c' fr hb
 obtain⟨h1,h2,h3⟩:=h.bx k hk;have hlt:k.1<w.heap.size:=by
  rcases aS k.1 w.heap.size with g | g
  ·exact g
  rw[fG g]at h1;cases h1
 exact⟨by rw[eZ _ _ _ hlt];exact h1,h2,by rw[if_neg O];exact h3⟩
section
variable{d:Nat}{ty:TypeId}{pos:String}{aft:Array Edge}
theorem Qb{e:TypeId}{sz:Nat}{z:List Value}{g:Bool}{parts:Array (Nat×Operand)}{ps:List (Nat×Value)}(hp:WY m parts.toList=some ps)(ht:P.underlying t=some (.slice e))(hs:Z1 P e=some (g,sz))(hz:J8 P e=some z)
  (hc:Yu sz 0 ps=some cs) (hl:cs.length=n*sz) (k:∀b,JS P ops Q l N ((d,.slice (some ⟨b,0,none⟩) n n)::m) ⟨w0,F0,bs,λF=>G F/\F b=some (cs.toArray,e)⟩) (h24:lB (n*sz) 16777216=true:=by rfl) (hn:Nat.beq (n*sz) 0=false:=by rfl)
  (hd:J2 N (some d)=true:=by rfl):JS P ops Q (⟨some d,.buildSlice t n parts,ty,pos,aft,none⟩::l) N m ⟨w0,F0,bs,G⟩:=λa w ha hw =>
 wpList_plain rfl λ_ hK=>upon_value (KF ha hp ht hs hz hc hl h24 hn) (hK _ _ (k _ _ _ (ha.put hd _) (hw.vQ _ _)))
theorem Ys{e:TypeId}{sz bytes:Nat}{z:List Value}{g:Bool}{X Y:Operand}{x y:Value}{news:List Value}{bs1:List (Nat×Obj)}(hx:ev m X=some x)(hy:ev m Y=some y)(ht:Hc P t=some e)(hs:Z1 P e=some (g,sz))(hz:J8 P e=some z)(hzl:z.length=sz)(hby:ZM P e=some bytes)
  (hr:Q7 e sz x n olds ob) (hs2:Src ⟨w0,F0,bs1++ob,G⟩ sz y k news) (h63:n+k<=9223372036854775807) (h47:(n+k)*bytes<=140737488355328) (h1:∀v∈news,v.oneCell'=true)
  (kk:∀v' ob',Q7 e sz v' (n+k) (olds++news) ob'->JS P ops Q l N ((d,v')::m) ⟨w0,F0,bs1++ob',G⟩) (hu:Gc e=true:=by rfl) (hd:J2 N (some d)=true:=by rfl) :
  JS P ops Q (⟨some d,.call ⟨.builtin .append,#[X,Y],#[t,t]⟩,ty,pos,aft,none⟩::l) N m ⟨w0,F0,bs1++ob,G⟩ :=
 Zi eE (Mr hx hy ht hs hz hzl hby hr ⟨hs2.len,hs2.rd.imp id λ⟨a,c,e1,e2⟩=>⟨a,c,e1,λw hw=>e2 w (hw.perm eE)⟩⟩ h63 h47 h1
  (λv' ob' h=>Zi eE (kk v' ob' h)) hu hd)
end
theorem Own.skip{l:List (Nat×Obj)}{o:Obj}(h:Own l b o f):∀p:List (Nat×Obj),Own (p++l) b o (λo'=>p++f o')
 |[]=>h
 |_::p=>.there (h.skip p)
theorem qh{e ty:TypeId}{sz n':Nat}{v:Value}{u:Value}(hr:Q7 e sz v n cs ob)(hm:∀k∈ob,k∈bs)(hb:v = .slice (some ⟨b,0,none⟩) n n')(hx:ev m x=some (.pointer (some ⟨b,0+i*1,none⟩)))(ht:Z1 P T=some (false,1))(hu:cs[i]?=some u):
  Qt P N m (St ⟨w0,F0,bs,G⟩) (.load T x) ty u:=λa w _ _ _ _ ha hw=>by
 obtain⟨F,hw⟩:=hw;cases hr with
 |nil=>simp at hu
 |some g1 g2 g3 g4 =>
  rename_i b' cap rest;simp only[bB,bQ,fm]at hb;have hbb:=hb.1.1;subst hbb;have hi:i<cs.length:=by rcases aS i cs.length with h | h;exact h;rw[aY h]at hu;cases hu
  have hc:w.cell? ⟨b',0+i*1,none⟩=some u:=by
   rw[ZI (hw.bx (b',.cells (cs++rest).toArray e (0,0)) (hm _ wz)).1,aW,fV,aR,if_pos hi];exact hu
  have hrun:=Z3 (P:=P) ht hc;simp only[execOp,ha.ev hx,eV,eI,ew,eu,bD,hrun]
end
def hd(q:Nat):List UInt8:=if q=0 then[]else af q
def uO(h:0<n):hd n=hd (n/10^18)++(if n/10^18=0 then af (n%10^18)else H6 18 (af (n%10^18))):=by
 unfold hd;rw[if_neg O];split
 ·rename_i h0;rw[ek];congr 1;omega
 rename_i h0;rw[<-Wr O 18 _ wu (Nat.mod_lt _ wu)];congr 1;rw[fO];exact(Nat.div_add_mod n (10^18)).symm
theorem qu{l:List Int}(hd:DG W l)(hn:NZ l)(h:dv W l<W):(l=[]\/l=[dv W l]):=by
 cases l with
 |nil=>exact .inl rfl
 |cons x r =>
  cases r with
  |nil=>right;simp
  |cons y r =>
   exfalso;have:=R3 (by decide:(0:Int)<W) hd hn wz;have h2:=X0 (b:=W) wu (show 1<=(x::y::r).length-1 by simp);rw[Int.pow_one]at h2;omega
structure ji(n:Nat) where
 l:List Int
 r:Sr
 ps:List (List UInt8)
 v:Value
 ob:List (Nat×Obj)
 dg:DG W l
 nz:NZ l
 le:(dv W l).toNat<=n
 hr:Q7 9 1 v ps.length (ps.map tx) ob
 ne:∀p∈ps,p≠[]
 inv:hd (dv W l).toNat++ps.reverse.flatten=hd n
def IK:∀ {ps:List (List UInt8)},(∀p∈ps,p≠[])->ps.length<=ps.flatten.length
 |[],_=>wz
 |p::ps,h=>by
  have h1:=IK (ps:=ps) (λq hq=>h q (by simp[hq]));have h2:0<p.length:=by
   have:=h p wz;cases p with | nil=>exact absurd rfl this | cons=>simp
  simp[fY]at h1 ⊢;omega
def kP(h:n<2^k):(hd n).length<=k:=by
 unfold hd;split
 ·simp
 rename_i h0;rw[aT];have hk:0<k:=by rcases iB k with e | e;subst e;simp at h;omega;exact e
 exact Kj (aB h (eR wu k)) hk
def UQ(ps:List (List UInt8)):ps.reverse.flatten.length=ps.flatten.length:=by
 induction ps with
 |nil=>rfl
 |cons p ps ih=>simp[bR];simp[fY]at ih ⊢;omega
def ji.few(i:ji n)(h:n<2^k):i.ps.length<=k:=by
 have h1:=IK i.ne;have h2:=congrArg fe i.inv;rw[ar,UQ]at h2;have h3:=kP h;omega
def QBj(h:l≠[]):H6 18 l≠[]:=by
 unfold H6;simp[h]
def ji.next{n:Nat}(i:ji n)(hl:i.l≠[])(q:List Int)(rq:Sr)(v':Value)(ob':List (Nat×Obj))(s:List UInt8)(hdq:DG W q)(hnq:NZ q)(hq:(dv W q).toNat=(dv W i.l).toNat/10^18)
  (hs:s=if(dv W q).toNat=0 then af ((dv W i.l).toNat%10^18)else H6 18 (af ((dv W i.l).toNat%10^18)))
  (hr:Q7 9 1 v' (i.ps.length+1) (i.ps.map tx++[tx s]) ob'):ji n where
 l:=q
 r:=rq
 ps:=i.ps++[s]
 v:=v'
 ob:=ob'
 dg:=hdq
 nz:=hnq
 le:=by have:=i.le;have:=Nat.div_le_self (dv W i.l).toNat (10^18);omega
 hr:=by simpa using hr
 ne:=by
  intro p hp;rcases List.mem_append.1 hp with h | h
  ·exact i.ne p h
  rw[List.mem_singleton.1 h,hs];split
  ·exact V5 _
  exact QBj (V5 _)
 inv:=by
  have h0:0<(dv W i.l).toNat:=by
   have h1:=JJ (by decide:(0:Int)<W) i.dg;have h2:=mt (W9 (by decide:(1:Int)<W) i.dg i.nz).1 hl;omega
  rw[<-i.inv,uO h0,<-hq,hs];simp[bR]
def kf{q l:List Int}{b:Int}(hb:b=1000000000000000000)(h:dv W q=dv W l/b)(h0:0<=dv W l):(dv W q).toNat=(dv W l).toNat/10^18:=by
 subst hb;rw[h];omega
def ud{r l:List Int}{b:Int}(hb:b=1000000000000000000)(h:dv W r=dv W l%b)(h0:0<=dv W l):(dv W r).toNat=(dv W l).toNat%10^18/\dv W r<1000000000000000000/\0<=dv W r:=by
 subst hb;rw[h];omega
structure vf(b:Nat)(pre:List UInt8)(ps:List (List UInt8)) where
 k:Nat
 cQ:List (Nat×Obj)
 le:k<=ps.length
 bl:LP b (pre++(ps.drop k).reverse.flatten) cQ
def pN(h:a≠0):(if a<0 then[45]else[])++hd a.natAbs=Zn a:=by
 have h0:a.natAbs≠0:=O;unfold hd;rw[if_neg h0];by_cases h1:a<0
 ·rw[if_pos h1,Ki h1];rfl
 rw[if_neg h1,XO O];rfl
theorem Va.base{x:Int}(h:F b=some ([ao .u64 x].toArray,289))(h0:0<x)(h1:x<W):Va F ⟨some ⟨b,0,none⟩,1,1⟩ [x]:=by
 refine⟨λw hw=>?_,?_,?_⟩
 ·obtain⟨fr,e⟩:=hw b _ _ h;refine⟨_,1,rfl,wz,wu,λi hi=>?_⟩;have hi0:i=0:=by simp at hi;omega
  subst hi0;exact⟨b,0,rfl,⟨_,_,e⟩,by simp[eH,e];rfl⟩
 ·intro y hy;rw[List.mem_singleton.1 hy];omega
 simp[NZ];omega
theorem EK(hF:Fits F w)(hG:JC F)(h:XC F g a)(hza:sz a<=100000000):Qe prog 278 [g.v] w F (tx (Zn a)):=by
 have hk:=KB.kind (h w hF.r);have hn2:a.natAbs<2^sz a:=MH a;refine QT.intro (G:=λF=>JC F/\XC F g a) func278 rfl wy rfl rfl hF (λF' hF'=>⟨hG.le hF',h.le hF'⟩)<|QKO<|Qu rfl (vs:=[_,_]) rfl λb1=>wQ rfl<|QG<|QKO<|QA (QH rfl Mh Ha)<|QA (Qf rfl Ha .here (.skip .h1))<|QA (GL rfl rfl WU)<|QE<|QC ?_
 refine QO I (λhc=>?_) λhc=>?_
 ·refine QKO<|QA (QH rfl Rq JO)<|QA (Qf rfl JO .here .h1)<|QI rfl (λw F hF ⟨hGl,hB⟩=>kL hF hGl (by rcases hk with hk | hk;omega;rw[hk.1]at hc;cases hc) (by rcases hk with hk | hk;omega;rw[hk.1]at hc;cases hc)) λ_=>wQ rfl<|QW ?_
  exact QQ () rfl (wN rfl) (by rcases hk with hk | hk;rw[hk.2.1];rfl;rw[hk.1]at hc;cases hc) w8
 refine QKr 4 I<|QA (wH I Qn .here) ?_
 refine QI I (λw F hF ⟨hGl,hB⟩=>N7 hF (by assumption)) (λc20=>?_);rcases c20 with ⟨v20,l20⟩;dsimp only;refine JN _ (λw F hF ⟨⟨hGl,hB⟩,⟨h20,h20p⟩⟩=>bJ h20.2 h20p) (λp20=>?_);have ha0:a≠0:=by rcases hk with hk | hk;rw[hk.1]at hc;cases hc;omega
 have hn20:(dv W l20).toNat=a.natAbs:=by rw[p20.2,VJ];rfl
 refine QKq 9 I<|Qb I (Qz WU) Py QD9 I I λb23=>QKq 10 I ?_
 refine YA (ι:=ji a.natAbs) (λi=>[(3,.bool (decide (a<0))),(4,.slice i.r.q i.r.n i.r.cap),(5,.slice (some ⟨b23,0,none⟩) 1 1),(6,i.v)]) (λi=>i.ob) (λi F=>JC F/\Va F ⟨some ⟨b23,0,none⟩,1,1⟩ [1000000000000000000]/\Va F i.r i.l) (λi=>(dv W i.l).toNat)
  ⟨l20,v20,[],.slice none 0 0,[],p20.1.1,p20.1.2,O,.nil,wz,by rw[hn20];simp⟩ wV tD (λF h9=>⟨h9.1.1.1,Va.base h9.2 wu wu,h9.1.2.1⟩) λi=>?_
 refine XQ _ (λ_ _ f h=>h.2.2.len f) (λhil=>wA 4 I<|QA (Qg I WU)<|QKq 3 I ?_);refine QO I (λhc=>?_) λhc=>?_
 ·have hne:i.l≠[]:=by intro e;rw[e]at hil;simp at hc;simp at hil;omega
  have h0i:=JJ (by decide:(0:Int)<W) i.dg;have hposi:0<(dv W i.l).toNat:=by
   have:=mt (W9 (by decide:(1:Int)<W) i.dg i.nz).1 hne;omega
  have hlen:i.l.length<=10000000000:=by
   have hle:=i.le;have h3:=ZE (z:=dv W i.l) i.dg i.nz (by unfold Jm;split<;>omega) (ae (KZ (by omega:(dv W i.l).natAbs<=a.natAbs)) (ae hza wu));omega
  refine QKr 7 I ?_;refine QI I (λ_ _ f k=>IT (r:=i.r) (r':=⟨some ⟨b23,0,none⟩,1,1⟩) (la:=i.l) (lb:=[1000000000000000000]) f k.2.2 k.2.1 (List.cons_ne_nil _ _) hlen (fT I)) (λc30=>?_);rcases c30 with ⟨⟨v30,l30⟩,v30_,l30_⟩;dsimp only;refine JN _ (λw F hF ⟨⟨hGl,⟨hbase,hL⟩⟩,⟨⟨h30,h30_⟩,h30p⟩⟩=>bJ h30.2 (bJ h30_.2 h30p)) (λp30=>?_);have hb1:dv W [1000000000000000000]=1000000000000000000:=wz;have hq:=kf hb1 p30.2.2.1 h0i;have hr:=ud hb1 p30.2.2.2 h0i;have h1d:=qu p30.2.1.1 p30.2.1.2 (by have hW:W=18446744073709551616:=rfl;omega);refine JN _ (λw F hF ⟨_,⟨⟨h30,h30_⟩,_⟩⟩=>bJ (h30.len hF) (h30_.len hF)) (λpl=>QJD rfl<|QA (QX rfl rfl)<|QA (QX rfl rfl)<|QJE rfl<|wQ rfl<|QKO<|QJE rfl<|QE<|QC ?_);refine Bh (ι:=Unit) (λ_=>[(3,.bool (decide (a<0))),(5,.slice (some ⟨b23,0,none⟩) 1 1),(6,i.v),(7,.slice v30.q v30.n v30.cap),(9,tx (af ((dv W i.l).toNat%10^18)))]) (λ_=>i.ob) (λ_ F=>JC F/\Va F ⟨some ⟨b23,0,none⟩,1,1⟩ [1000000000000000000]/\Va F v30 l30) ?_ ?_
  ·refine wR I<|QA (Qg I WU)<|QKq 3 I ?_
   refine QO I (λhc=>?_) λhc=>?_
   ·have hl1:l30_=[dv W l30_]:=by
     rcases h1d with e | e
     ·exfalso;rw[e]at pl;simp at hc;simp at pl;omega
     exact e
    have hll:l30_.length=1:=by rw[hl1];rfl
    have hg0:l30_.getD 0 0=(((dv W i.l).toNat%10^18:Nat):Int):=by
     have:l30_.getD 0 0=dv W l30_:=by rw[hl1];simp
     rw[this];omega
    refine XQ _ (λw F hF ⟨_,⟨_,h⟩,_⟩=>(h.at hF (by intro e;rw[e]at hll;simp at hll)).2) (λhqb=>wA 2 I ?_);obtain⟨qb,qo,hqb⟩:=hqb;obtain⟨vq,vn,vcap⟩:=v30_;dsimp only at hqb pl;subst hqb;refine QA (JL (i:=0) rfl rfl WU Py (by dsimp only;omega))<|QA (CL (l:=l30_) rfl Py (λF h9=>h9.2.1.2) O) ?_
    rw[hg0];refine QI I (λ_ _ f k=>Uw f k.1.1 O) (λ_=>wB 2 I ?_);exact ZQ () wW QJZ λF h9=>⟨h9.1.1.1,h9.1.1.2.1,h9.1.2.1.1⟩
   refine QN ?_;have e0:(dv W i.l).toNat%10^18=0:=by
    rcases h1d with e | e
    ·rw[e]at hr;simp at hr;omega
    have:=congrArg fe e;simp at this;simp at hc;omega
   exact ZQ () ⟨rfl,rfl,rfl,rfl,(by show some (tx _)=some (tx _);rw[e0,YZ]),trivial⟩ QJZ λF h9=>⟨h9.1.1,h9.1.2.1,h9.2.1.1⟩
  intro xg9;refine Bh (ι:=Unit) (λ_=>[(3,.bool (decide (a<0))),(5,.slice (some ⟨b23,0,none⟩) 1 1),(6,i.v),(7,.slice v30.q v30.n v30.cap),(9,tx ((if(dv W l30).toNat=0 then af ((dv W i.l).toNat%10^18)else H6 18 (af ((dv W i.l).toNat%10^18)))))]) (λ_=>i.ob) (λ_ F=>JC F/\Va F ⟨some ⟨b23,0,none⟩,1,1⟩ [1000000000000000000]/\Va F v30 l30) ?_ ?_
  ·refine wR I<|QA (Qg I WU)<|QKq 3 I ?_
   refine QO I (λhc=>?_) λhc=>?_
   ·have hq0:(dv W l30).toNat≠0:=by
     have h1:=JJ (by decide:(0:Int)<W) p30.1.1;have h2:l30≠[]:=by intro e;rw[e]at pl;simp at hc;simp at pl;omega
     have:=mt (W9 (by decide:(1:Int)<W) p30.1.1 p30.1.2).1 h2;omega
    have hd18:(af ((dv W i.l).toNat%10^18)).length<=18:=by rw[aT];exact Kj (Nat.mod_lt _ wu) wu
    refine wA 2 I<|QA (X7 I Zo)<|QA (X6 I I O) ?_
    rw[show(18:Int)-((af ((dv W i.l).toNat%10^18)).length:Int)=((18-(af ((dv W i.l).toNat%10^18)).length:Nat):Int) by omega];refine QI I (λ_ _ f _=>zw f w6 O) (λ_=>QJD I<|QA (Ye I I (by rw[Lib.repeatL_length];simp only[eF];omega))<|wB 2 I ?_);exact ZQ () ⟨rfl,rfl,rfl,rfl,(by show some (tx _)=some (tx _);rw[if_neg hq0];rfl),trivial⟩ QJZ tA
   refine QN ?_;have hq0:(dv W l30).toNat=0:=by
    have h2:l30=[]:=aJ (by simp at hc;omega);rw[h2];rfl
   exact ZQ () ⟨rfl,rfl,rfl,rfl,(by show some (tx _)=some (tx _);rw[if_pos hq0]),trivial⟩ QJZ w9
  intro xg11;refine wA 4 I<|VN I (Qz Kx) Dk z_9 I I λb51=>?_
  have hfew:=i.few hn2;refine Ys (bs1:=[_]) (ob:=i.ob) (k:=1) (sz:=1) (news:=[tx (if(dv W l30).toNat=0 then af ((dv W i.l).toNat%10^18)else H6 18 (af ((dv W i.l).toNat%10^18)))]) I I Kx Dk z_9 I QH2 i.hr (Src.zu (b:=b51) (T:=9) (fr:=(0,0)) (c:=1) List.mem_cons_self I) O O (λu hu=>by rw[List.mem_singleton.1 hu];rfl) (λv' ob' hr'=>QKq 7 I<|Qk ?_);exact Ql (i.next hne l30 v30 v' ob' (if(dv W l30).toNat=0 then af ((dv W i.l).toNat%10^18)else H6 18 (af ((dv W i.l).toNat%10^18))) p30.1.1 p30.1.2 hq rfl hr') (by show(dv W l30).toNat<(dv W i.l).toNat;rw[hq];exact Nat.div_lt_self hposi wu) wV (.cons _ QJZ) w9
 refine Q2 ?_
 repeat first|refine QY ?_|refine QP wy ?_
 refine QZ<|QC ?_
 have hi0:i.l=[]:=aJ (by simp at hc;omega);have hfl:i.ps.reverse.flatten=hd a.natAbs:=by have:=i.inv;rw[hi0]at this;simpa[hd]using this
 have hfew:=i.few hn2;have hflen:i.ps.reverse.flatten.length<=100000000:=by rw[hfl];exact ae (kP hn2) hza
 refine QKO<|Qc cP λb10=>QE<|QC ?_
 refine Bh (ι:=vf b10 (if a<0 then[45]else[]:List UInt8) i.ps) (λj=>[(6,i.v),(10,.pointer (some ⟨b10,0,none⟩))]) (λj=>j.cQ++i.ob) (λj F=>j.k=i.ps.length/\JC F) ?_ ?_
 ·refine wA 5 I ?_;refine QO I (λhc=>?_) λhc=>?_
  ·refine QB ?_;have hneg:a<0:=QKc hc;refine XS (bs1:=[_]++i.ob) rfl (bO _) (W6 (s:=[45]) (LP.fresh (b:=b10)) wz) (λcQ=>JN _ (λ_ _ f h=>h.2) λhbl=>QE ?_);exact ZQ (⟨i.ps.length,cQ,aF _,by rw[if_pos hneg];simpa using hbl⟩:vf b10 (if a<0 then[45]else[]:List UInt8) i.ps) wT QJZ λF h=>⟨rfl,h.1.1⟩
  refine QN ?_;exact ZQ (⟨i.ps.length,[_],aF _,by rw[if_neg (QKd hc)];simpa using(LP.fresh (b:=b10))⟩:vf b10 (if a<0 then[45]else[]:List UInt8) i.ps) wT QJZ λF h=>⟨rfl,h.1⟩
 intro xg16;refine XQ _ (λ_ _ f h=>h.1) (λhk16=>?_);have hv6:∃q c6,i.v = .slice q i.ps.length c6:=by have:=i.hr;generalize i.v=v at this;generalize i.ps.map tx=q at this;generalize i.ps.length=n at this;generalize i.ob=o at this;cases this<;>exact⟨_,_,rfl⟩
 obtain⟨q6,c6,hv6⟩:=hv6;rw[hv6];refine wA 4 I<|QA (Qg I Kx)<|QA (X6 I I O)<|wQ I<|QV<|YA (ι:=vf b10 (if a<0 then[45]else[]:List UInt8) i.ps) (λj=>[(6,.slice q6 i.ps.length c6),(10,.pointer (some ⟨b10,0,none⟩)),(11,.int .i64 ((j.k:Int)-1))]) (λj=>j.cQ++i.ob) (λ_ F=>JC F) (λj=>j.k) xg16 ⟨rfl,rfl,(by rw[hk16];rfl),trivial⟩ QJZ tB λj=>?_
 have hjl:=j.le;refine wA 7 I ?_;refine QO I (λhc=>?_) λhc=>?_
 ·have hj0:0<j.k:=by simp at hc;omega
  obtain⟨b6,hb6⟩:∃b6,q6=some ⟨b6,0,none⟩:=by
   have:=i.hr;rw[hv6]at this;generalize i.ps.map tx=q at this;generalize i.ob=o at this;generalize hnn:i.ps.length=n at this;cases this with
   |nil=>omega
   |some=>exact⟨_,rfl⟩
  subst hb6;have hlt:j.k-1<i.ps.length:=O;have hjj:(j.k:Int)-1=((j.k-1:Nat):Int):=O;refine QKr 7 I<|QA (JL (i:=j.k-1) rfl (congrArg (λz:Int=>some (ao .i64 z)) hjj) Kx Dk hlt)<|QA (qh (i:=j.k-1) (u:=tx (i.ps[j.k-1])) (by have:=i.hr;rw[hv6]at this;exact this) (λk hk=>List.mem_append_right _ hk) rfl rfl Dk (by simp[hlt])) ?_
  have hdrop:(i.ps.drop (j.k-1)).reverse.flatten=(i.ps.drop j.k).reverse.flatten++i.ps[j.k-1]:=by
   rw[bw hlt,show j.k-1+1=j.k by omega];simp[bR]
  have hbound:((i.ps.drop (j.k-1)).reverse.flatten).length<=100000000:=by
   have e:i.ps.reverse.flatten=(i.ps.drop (j.k-1)).reverse.flatten++(i.ps.take (j.k-1)).reverse.flatten:=by
    rw[<-bR,<-List.reverse_append,aX]
   rw[e,ar]at hflen;omega
  rw[hdrop,ar]at hbound;refine XS I (bO _) (W6 j.bl (by rw[ar];have hp:(if a<0 then[45]else[]:List UInt8).length<=1:=(by split<;>simp);omega)) (λcQ=>JN _ (λ_ _ f h=>h.2) λhbl=>QE<|Qk<|QKs 3 I<|QA (X6 I I O)<|wB 2 I ?_);exact Ql (⟨j.k-1,cQ,O,by rw[hdrop,<-bc];exact hbl⟩:vf b10 (if a<0 then[45]else[]:List UInt8) i.ps) (by show j.k-1<j.k;omega) ⟨rfl,rfl,(by show some (ao .i64 ((j.k:Int)-1-1))=some (ao .i64 (((j.k-1:Nat):Int)-1));rw[hjj]),trivial⟩ QJZ tA
 refine Q2 ?_
 repeat first|refine QY ?_|refine QP wy ?_
 refine QZ<|QKs 3 I ?_
 have hj0:j.k=0:=by simp at hc;omega
 have hbl:=j.bl;rw[hj0,aQ,hfl,pN ha0]at hbl;refine Nb (v:=tx (Zn a)) hF rfl (enters_of func305 wy rfl) (λw' hw'=>Builder_String_any w.heap.size b10 (Zn a) w' (hbl.is hw') (by obtain⟨F',h'⟩:=hw';exact h'.ext.size))<|wQ I<|QW ?_
 exact QQ () I (wN I) rfl w8
def Yl(c:UInt8)(s:List UInt8):List UInt8×List UInt8×Bool:=if s.contains c then(s.takeWhile (· != c),(s.dropWhile (· != c)).drop 1,true)else(s,[],false)
theorem Ur(c:UInt8)(s:List UInt8):iZ s c=if s.contains c then((s.takeWhile (· != c)).length:Int)else -1:=by
 induction s with
 |nil=>rfl
 |cons b s ih =>
  unfold iZ;by_cases h:b=c
  ·subst h;simp
  have h1:(b==c)=false:=beq_eq_false_iff_ne.2 h;have h2:(b != c)=true:=by simp[bne,h1]
  have h3:(c==b)=false:=beq_eq_false_iff_ne.2 (λe=>h e.symm);rw[ih];simp only[h1,bW,if_false,ir,h3,fB,fX,h2,if_true];by_cases h4:s.contains c=true
  ·simp only[h4,if_true];have:(((s.takeWhile (· != c)).length:Int)==-1)=false:=by
    apply beq_eq_false_iff_ne.2;omega
   simp only[this,bW,if_false,aN];omega
  have h5:¬c∈s:=by simpa using h4
  simp[h5]
theorem WM(p:UInt8->Bool)(s:List UInt8):s.take (s.takeWhile p).length=s.takeWhile p/\s.drop (s.takeWhile p).length=s.dropWhile p:=by
 induction s with
 |nil=>simp
 |cons b s ih =>
  simp only[fX,fZ];split<;>simp[ih]
def k6(c:UInt8)(s:List UInt8):fq s [c]=Yl c s:=by
 have h:Lib.index s [c]=if s.contains c then((s.takeWhile (· != c)).length:Int)else -1:=by
  rw[<-Ur];exact Lib.index_one s c
 unfold fq Yl;rw[h];by_cases h4:s.contains c=true
 ·simp only[h4,if_true];rw[if_pos O,bh,(WM _ s).1];have:=(WM (· != c) s).2;rw[<-List.drop_drop,this];rfl
 simp only[h4,bW,if_false];rw[if_neg O]
theorem Et{a b:List UInt8}(h:a.contains c=false):Yl c (a++c::b)=(a,b,true):=by
 have h1:∀x∈a,(x != c)=true:=λx hx=>by
  simp only[bne_iff_ne,ne_eq];rintro rfl;have:a.contains x=true:=by simpa using hx
  rw[this]at h;cases h
 unfold Yl;rw[if_pos wz];have h2:(a++c::b).takeWhile (· != c)=a:=by
  rw[List.takeWhile_append_of_pos h1];simp
 have h3:(a++c::b).dropWhile (· != c)=c::b:=by
  rw[List.dropWhile_append_of_pos h1];simp
 rw[h2,h3];rfl
def To{a:List UInt8}(h:a.contains c=false):Yl c a=(a,[],false):=by
 unfold Yl;rw[h];simp
def C3(h:ZJ l=true)(hc:LO c=false):l.contains c=false:=by
 cases hx:l.contains c with
 |false=>rfl
 |true =>
  have:c∈l:=by simpa using hx
  rw[ZJ,iH]at h;rw[h c this]at hc;cases hc
def Mx(z:Int)(hc:LO c=false)(h:c≠45):(Zn z).contains c=false:=by
 by_cases hz:z<0
 ·rw[Ki hz,ir,C3 (Jx _) hc];simp[h]
 rw[XO O];exact C3 (Jx _) hc
def kz(r:Rat):fq (Jh r) [47]=if r.den=1 then(Zn r.num,[],false)else(Zn r.num,af r.den,true):=by
 rw[k6];unfold Jh;split
 ·exact To (Mx _ wu wu)
 exact Et (Mx _ wu wu)
def Hm(z:Int):ah (Zn z) [45]=af z.natAbs:=by
 unfold ah;by_cases h:z<0
 ·rw[Ki h];simp[aC,ep]
 rw[XO O,Vh (Jx _)];simp
def WL(h:ZJ l=true):ah l [45]=l:=by
 unfold ah;rw[Vh h];simp
def YN(h:ZJ l=true):Y7 l=Jb l:=by
 unfold Y7;rw[Vh h];simp
def lim:Nat:=10^600
def Ca(u:Nat):(600<(af u).length)↔lim<=u:=by unfold lim;rw[aT];exact OA wu
def xJ:2^1800<lim:=by
 decide +kernel
def Rb(z:Int):Bool:=decide (lim<=z.natAbs)
def Jo(r:Rat):Bool:=Rb r.num||Rb r.den
theorem y8(hF:Fits F w)(hG:JC F)(h:XC F g a)(hza:sz a<=100000000):Qe prog 210 [g.v] w F (.bool (Rb a)):=by
 refine QT.intro (G:=λF=>JC F/\XC F g a) func210 rfl wy rfl rfl hF (λF' hF'=>⟨hG.le hF',h.le hF'⟩)<|QKO<|Qu rfl (vs:=[_,_]) rfl λb1=>wQ rfl<|QKO<|QA (wH I Qn .here)<|QI rfl (λ_ _ f k=>QCb f k.2 (ae hza wu)) λ_=>QA (QU rfl rfl rfl)<|QJD rfl ?_
 refine Qs (t:=6) rfl (λhb6=>?_) λhb6=>?_
 ·refine QL I I<|QA (wH I Qn .here)<|QL I I<|QI I (λ_ _ f k=>EK f k.1.1 k.1.2 hza) λ_=>QL I I<|QI I (λ_ _ f k=>ED f ) λ_=>QL I I<|QA (X7 I Zo)<|QKq 7 I ?_
  exact QQ () I (wN I) (congrArg ai (by rw[Hm];exact decide_eq_decide.2 (Iff.trans (b:=600<(af a.natAbs).length) (Ca a.natAbs).symm (by constructor<;>intro h<;>omega)))) w8
 refine QKq 10 I ?_;exact QQ () I (wN I) (congrArg ai (by have h1:=QKd hb6;have h2:sz a<=1800:=O;have h3:=(XE a 1800).1 h2;exact decide_eq_false (Nat.not_le.2 (Nat.lt_trans h3 xJ)))) w8
theorem Db{x:Fr}{r:Rat}(hF:Fits F w)(hG:JC F)(h:JP F x r)(hz:JQ r<=100000000):Qe prog 96 [x.v] w F (.bool (Jo r)):=by
 refine QT.intro (G:=λF=>JC F/\JP F x r) func96 rfl wy rfl rfl hF (λF' hF'=>⟨hG.le hF',h.le hF'⟩)<|QKO<|Qu rfl (vs:=[_,_,_,_]) rfl λb1=>wQ rfl<|QKO<|QA (QH rfl Yq Qn)<|QA (wH I Qn .here)<|QI rfl (λ_ _ f k=>y8 (g:=x.n) f k.1 k.2.1 (ae (Jw r) hz)) λ_=>QJD rfl ?_
 refine Qs (t:=6) rfl (λhb6=>?_) λhb6=>?_
 ·refine QKq 8 I ?_;exact QQ () I (wN I) (congrArg ai (by unfold Jo;rw[hb6,Bool.true_or])) w8
 refine QL I I<|QA (QH I Yp Qn)<|QL I I<|QA (QJ (vs:=[_,_]) I Qn .here (.skip (.skip .h2)) I)<|QL I I<|QI I (λ_ _ f k=>y8 (g:=x.d) f k.1.1 k.1.2.2 (ae (Jp r) hz)) λ_=>QKq 5 I ?_
 exact QQ () I (wN I) (congrArg ai (by unfold Jo;rw[hb6,fB])) w8
def Fc(h:sz z<=k):(Zn z).length<=k+2:=by
 have h2:=MH z;have h1:(af z.natAbs).length<=k+1:=by
  rw[aT];exact Kj (aB h2 (ae (bM wu (show sz z<=k+1 by omega)) (eR wu _))) O
 by_cases hz:z<0
 ·rw[Ki hz,aN];omega
 rw[XO O];omega
def CU(n:Nat):Zn (n:Int)=af n:=by rw[XO O];rfl
theorem PF{x:Fr}{r:Rat}(hF:Fits F w)(hG:JC F)(h:JP F x r)(hz:JQ r<=100000000):Qe prog 193 [x.v] w F (tx (Jh r)):=by
 have hl1:=Fc (ae (Jw r) hz);have hl2:=Fc (ae (Jp r) hz);refine QT.intro (G:=λF=>JC F/\JP F x r) func193 rfl wy rfl rfl hF (λF' hF'=>⟨hG.le hF',h.le hF'⟩)<|QKO<|Qu rfl (vs:=[_,_,_,_]) rfl λb1=>wQ rfl<|QG<|QKO<|QA (wJ I Qa .here)<|QI rfl (λ_ _ f k=>Mb (x:=x) (r:=r) f ⟨k.2.1,k.2.2⟩) λ_=>QE<|QC ?_
 refine QO I (λhc=>?_) λhc=>?_
 ·refine QKO<|QA (QH I Yq Qn)<|QA (wH I Qn .here)<|QI I (λ_ _ f k=>EK (g:=x.n) f k.1.1 k.1.2.1 (ae (Jw r) hz)) λ_=>wQ I<|QW ?_
  exact QQ () I (wN I) (congrArg tx (by unfold Jh;rw[if_pos (by simp at hc;omega)])) w8
 refine QKr 3 I<|JK QJZ mixed wm<|QK (QH I Yq Qn)<|QK (wH I Qn .here)<|QM I (λ_ _ f k=>EK (g:=x.n) f k.1.1 k.1.2.1 (ae (Jw r) hz)) λ_=>QK (Ye I I w6)<|QK (QH I Yp Qn)<|QK (QJ (vs:=[_,_]) I Qn .here (.skip (.skip .h2)) I)<|QM I (λ_ _ f k=>EK (g:=x.d) f k.1.1.1 k.1.1.2.2 (ae (Jp r) hz)) λ_=>QK (Ye I I w6)<|QK (QF I)<|Q5<|QC<|QW ?_
 exact QQ () I (wN I) (congrArg tx (by unfold Jh;rw[if_neg (by simp at hc;omega),CU];simp)) w8
theorem Yw{r:Rat}(hF:Fits F w)(hG:JC F)(hs:s=Jh r)(hl:s.length<=10000000):X1 prog 91 [tx s] w F r:=by
 have hcut:=kz r;rw[<-hs]at hcut;refine QT.intro (G:=λF=>JC F) func91 rfl wy rfl rfl hF (λF' hF'=>hG.le hF')<|QKO<|Qc XZ λb2=>QJC<|wR rfl<|QI rfl (λ_ _ f k=>QAk f k O) λ_=>?_
 rw[hcut];refine QKq 13 I<|QA (XJ I)<|QE<|QC ?_
 refine QO I (λhc=>?_) λhc=>?_
 ·refine wR I<|QI I (λ_ _ f k=>RL f (by have h1:r.den=1:=(by by_cases h:r.den=1;exact h;rw[if_neg h]at hc;cases hc);rw[if_pos h1,Hm];exact Jx _) (by have h1:r.den=1:=(by by_cases h:r.den=1;exact h;rw[if_neg h]at hc;cases hc);rw[if_pos h1];have e:s=Zn r.num:=(by rw[hs];unfold Jh;rw[if_pos h1]);rw[<-e];exact hl)) λg15=>QI I (λ_ _ f k=>EB f k.2) λx16=>QR (vs:=[_,_,_,_]) I I I Qa I .here .h4 wV<|QJC<|QW ?_
  exact QQ (_) rfl (.JZ (c:=[_,_,_,_]) I Qa .here .nil) rfl λF ⟨⟨⟨hGl,_⟩,h15⟩,⟨h16,h16_⟩⟩=>(by have h1:r.den=1:=(by by_cases h:r.den=1;exact h;rw[if_neg h]at hc;cases hc);have e:((r.num:Int):Rat)=r:=(by apply Rat.ext;rfl;simp[h1]);rw[if_pos h1]at h16 h16_;rw[Kt]at h16 h16_;rw[e]at h16 h16_;exact⟨h16,h16_⟩)
 refine QN<|QC<|wR rfl<|QI rfl (λw F hF ⟨hGl,_⟩=>RL hF (by have h1:¬r.den=1:=(by intro h;rw[if_pos h]at hc;cases hc);rw[if_neg h1,Hm];exact Jx _) (by have h1:¬r.den=1:=(by intro h;rw[if_pos h]at hc;cases hc);rw[if_neg h1];have e:s=Zn r.num++47::af r.den:=(by rw[hs];unfold Jh;rw[if_neg h1]);rw[e,ar]at hl;show(Zn r.num).length<=_;omega)) λg18=>QJD rfl<|QI rfl (λw F hF ⟨⟨hGl,_⟩,h18⟩=>RL hF (by have h1:¬r.den=1:=(by intro h;rw[if_pos h]at hc;cases hc);rw[if_neg h1];show ZJ (ah (af r.den) [45])=true;rw[WL (Jx _)];exact Jx _) (by have h1:¬r.den=1:=(by intro h;rw[if_pos h]at hc;cases hc);rw[if_neg h1];have e:s=Zn r.num++47::af r.den:=(by rw[hs];unfold Jh;rw[if_neg h1]);rw[e,ar,aN]at hl;show(af r.den).length<=_;omega)) λg20=>QA (Qx I TL XZ (.cons (vs:=[_,_]) I I I .h2 (.cons (vs:=[_,_]) I I I (.skip (.skip .h2)) .nil)))<|QR (vs:=[_,_,_,_]) I I I Qa I .here .h4 wV<|QJC<|QW ?_
 exact QQ (⟨g18,g20⟩:Fr) rfl (.JZ (c:=[_,_,_,_]) rfl Qa .here .nil) rfl λF ⟨⟨⟨hGl,_⟩,h18⟩,h20⟩=>(by have h1:¬r.den=1:=(by intro h;rw[if_pos h]at hc;cases hc);rw[if_neg h1]at h18 h20;rw[Kt]at h18;have e:Y7 (af r.den)=(r.den:Int):=(by rw[YN (Jx _),Xd]);exact⟨h18,e ▸ h20⟩)
def Qw(F:Gs)(q:Option Addr)(n sz:Nat)(cs:List Value):Prop :=
 cs.length=n*sz/\(0<n->∃b off arr T,q=some ⟨b,off,none⟩/\F b=some (arr,T)/\∀j u,cs[j]?=some u->arr[off+j]?=some u)
theorem Qw.le{q:Option Addr}{sz:Nat}(h:Qw F q n sz cs)(k:Gs.le F F'):Qw F' q n sz cs :=
 ⟨h.1,λhn=>by obtain⟨b,off,arr,T,e1,e2,e3⟩:=h.2 hn;exact⟨b,off,arr,T,e1,k _ _ e2,e3⟩⟩
theorem Qw.of{sz:Nat}(h:F b=some (cs.toArray,T))(hl:cs.length=n*sz):Qw F (some ⟨b,0,none⟩) n sz cs :=
 ⟨hl,λ_=>⟨b,0,_,T,rfl,h,λj u hu=>by rw[aW];simpa using hu⟩⟩
def Qw.nil(F:Gs)(q:Option Addr)(sz:Nat):Qw F q 0 sz []:=⟨wz,λh=>absurd h (Nat.lt_irrefl 0)⟩
def Qw.ptr{q:Option Addr}{sz:Nat}(h:Qw F q n sz cs)(hn:0<n):∃b off,q=some ⟨b,off,none⟩:=by
 obtain⟨b,off,_,_,e,_⟩:=h.2 hn;exact⟨b,off,e⟩
section
variable[Dr][df:Df]{P:Program}{Q:Exit->Act->World->Prop}{N:Nat}{m:Sl}{E E0:Env}{ops:Array Oper}{l:List Oper}{w0:World}{F0:Gs}{bs:List (Nat×Obj)}{G:Gs->Prop}
theorem W2(hw:St ⟨w0,F0,bs,G⟩ w){b off n sz j:Nat}{cs:List Value}{u:Value}(hr:∀F,G F->Qw F (some ⟨b,off,none⟩) n sz cs)(hn:0<n)(hu:cs[j]?=some u):w.cell? ⟨b,off+j,none⟩=some u:=by
 obtain⟨F,hw⟩:=hw;obtain⟨b',off',arr,T,e,hF,ha⟩:=(hr F hw.hG).2 hn;simp only[bQ,fm]at e;obtain⟨rfl,rfl,_⟩:=e;obtain⟨fr,e⟩:=hw.fits.row _ _ _ hF;simp[eH,e,ha j u hu]
theorem Yj{ty:TypeId}{sz:Nat}{u:Value}(hx:ev m x=some (.pointer (some ⟨b,off+j,none⟩)))(ht:Z1 P T=some (false,k))(hr:∀F,G F->Qw F (some ⟨b,off,none⟩) n sz cs)(hn:0<n)(hu:cs[j]?=some u):
  Qt P N m (St ⟨w0,F0,bs,G⟩) (.load T x) ty u:=λa w _ _ _ _ ha hw=>by
 have hrun:=Z3 (P:=P) ht (W2 hw hr hn hu);simp only[execOp,ha.ev hx,eV,eI,ew,eu,bD,hrun]
theorem qi{ty:TypeId}{sz:Nat}{vs:List Value}(hx:ev m x=some (.pointer (some ⟨b,off+j,none⟩)))(ht:Z1 P T=some (true,k))(hr:∀F,G F->Qw F (some ⟨b,off,none⟩) n sz cs)(hn:0<n)(hl:vs.length=k)(hu:∀i v,vs[i]?=some v->cs[j+i]?=some v):
  Qt P N m (St ⟨w0,F0,bs,G⟩) (.load T x) ty (.agg vs.toArray):=λa w _ _ _ _ ha hw=>by
 have hrun:=Kb (P:=P) ht hl (w:=w) (b:=b) (off:=off+j) (λi v hv=>by rw[eT];exact W2 hw hr hn (hu i v hv));simp only[execOp,ha.ev hx,eV,eI,ew,eu,bD,hrun]
theorem Qo{d:Nat}{ty:TypeId}{pos:String}{bs0:List (Nat×Obj)}{e:TypeId}{sz:Nat}{z:List Value}{g:Bool}{parts:Array (Nat×Operand)}{ps:List (Nat×Value)}(hp:WY m parts.toList=some ps)(ht:P.underlying t=some (.slice e))(hs:Z1 P e=some (g,sz))(hz:J8 P e=some z)
  (hc:Yu sz 0 ps=some cs) (hl:cs.length=n*sz) (k:∀b,JD P ops Q ⟨w0,F0,bs0,G0⟩ l N ((d,.slice (some ⟨b,0,none⟩) n n)::m) ⟨w0,F0,bs,λF=>G F/\F b=some (cs.toArray,e)⟩) (hE:∀w,St ⟨w0,F0,bs,G⟩ w->St ⟨w0,F0,bs0,G0⟩ w) (h24:lB (n*sz) 16777216=true:=by rfl) (hn:Nat.beq (n*sz) 0=false:=by rfl)
  (hd:J2 N (some d)=true:=by rfl):JD P ops Q ⟨w0,F0,bs0,G0⟩ (⟨some d,.buildSlice t n parts,ty,pos,aft,none⟩::l) N m ⟨w0,F0,bs,G⟩:=λ_ a w ha hw=>by
 have hS:=hw.vQ cs.toArray e;have sub:∀w' b,St ⟨w0,F0,bs,λF=>G F/\F b=some (cs.toArray,e)⟩ w'->St ⟨w0,F0,bs0,G0⟩ w':=λw' b h=>hE w' (h.DJ λ_ h=>h.1);refine .inr ⟨rfl,?_⟩;rw[if_pos (by simp[fp])];exact upon_value (KF ha hp ht hs hz hc hl h24 hn) ⟨sub _ _ hS,k _ (λw' h=>sub w' _ h) _ _ (ha.put hd _) hS⟩
end
section
variable[Dr][df:Df]{P:Program}{Q:Exit->Act->World->Prop}{N:Nat}{m:Sl}{E E0:Env}{ops:Array Oper}{l:List Oper}{ty:TypeId}{pos:String}{aft:Array Edge}{o:Op}{g t:Nat}{want:Bool}
theorem SY{a:Act}(ha:JH N m a){g t:Nat}(hg:(ops[g]?).bind (·.dst)=some t)(hb:look m t=some undef):yielded ops a.tmps g=none:=by
 unfold yielded;rw[hg];have:=ha.get t _ hb;simp[this,undef]
theorem J0{d:Nat}(hg:(ops[g]?).bind (·.dst)=some t)(hb:look m t=some undef)(hf:JS P ops Q l N ((d,undef)::m) E)(hd:J2 N (some d)=true:=by rfl):JS P ops Q (⟨some d,o,ty,pos,aft,some (g,want)⟩::l) N m E:=by
 intro a w ha hw;unfold wpList;have hy:=SY ha hg hb;rw[if_neg (by simp[fp,hy])];exact hf _ w (ha.put hd undef) hw
end
def Qp:List Int->Int
 |[]=>0
 |x::l=>if x=0 then Qp l else x
def Ww{l:List Int}(hi:i<l.length)(h:l[i]=0):Qp (l.drop i)=Qp (l.drop (i+1)):=by
 rw[bw hi,Qp,if_pos h]
def Dx{l:List Int}(hi:i<l.length)(h:l[i]≠0):Qp (l.drop i)=l[i]:=by
 rw[bw hi,Qp,if_neg h]
def Jn(x:Int):Value:=.int .i64 x
structure AQ(n:Nat)(p:Nat->Prop) where
 i:Nat
 le:i<=n
 h:p i
theorem Px{b:Bool}{e:Int}(hF:Fits F w):Qe prog 148 [.bool b,.int .i64 e] w F (.int .i64 (if b=true then e else 0)):=by
 refine QT.intro (G:=λ_=>True) func148 rfl wy rfl rfl hF w8<|QKO<|wQ rfl<|QG<|wR rfl<|QE<|QC ?_
 refine QO I (λhc=>?_) λhc=>?_
 ·refine wA 7 I ?_;exact QQ () I (wN I) (by rw[if_pos hc]) w8
 refine QKr 8 I ?_;exact QQ () I (wN I) (by rw[if_neg (by rw[hc];decide)]) w8
theorem Ck{q:Option Addr}{c:Nat}{l:List Int}(hF:Fits F w)(hR:Qw F q n 1 (l.map Jn))(hn:n<=1000000000):Qe prog 147 [.slice q n c] w F (.int .i64 (Qp l)):=by
 have hln:l.length=n:=by have:=hR.1;simpa using this
 refine QT.intro (G:=λF=>Qw F q n 1 (l.map Jn)) func147 rfl wy rfl rfl hF (λF' hF'=>hR.le hF')<|QKO<|wQ rfl<|QG<|wR rfl<|QA (Qg rfl ZL)<|QJD rfl<|QJC<|QV<|YA (ι:=AQ n λi=>Qp (l.drop i)=Qp l) (λi=>[(5,.slice q n c),(6,.int .i64 n),(7,.int .i64 i.i)]) (λ_=>[]) (λ_ F=>Qw F q n 1 (l.map Jn)) (λi=>n-i.i) ⟨0,eK _,rfl⟩ wU QJZ w9 λi=>?_
 have hle:=i.le;refine wA 6 I ?_;refine QO I (λhc=>?_) λhc=>?_
 ·have hi:i.i<n:=by simp at hc;omega
  have hil:i.i<l.length:=O;refine XQ _ (λ_ _ f h=>h.ptr O) (λhq=>?_);obtain⟨qb,qo,rfl⟩:=hq;refine QKr 6 I<|QA (JL I I ZL YT hi)<|QA (Yj I YT w9 O (u:=.int .i64 l[i.i]) (by simp[hil,Jn]))<|QKq 9 I ?_
  refine QO I (λhc=>?_) λhc=>?_
  ·refine wA 7 I ?_
   repeat first|refine Q4 ?_|refine Qy ?_
   exact QQ () I (wN I) (congrArg (ao .i64) (i.h.symm.trans (Dx hil (by simpa using hc)))) w8
  refine QN<|Qk<|QC<|QB<|QA (Qv I I O)<|wB 2 I ?_
  exact Ql (⟨i.i+1,O,by rw[<-Ww hil (by simpa using hc)];exact i.h⟩:AQ n λi=>Qp (l.drop i)=Qp l) (by show n-(i.i+1)<n-i.i;omega) wU QJZ w9
 refine Q2 ?_
 repeat first|refine QY ?_|refine QP wy ?_
 refine QZ<|QKs 7 I ?_
 exact QQ () I (wN I) (by rw[<-i.h,fI (by simp at hc;omega)];rfl) w8
def zE(hi:i<s.length)(h:ZJ (s.take i)=true)(hd:LO s[i]=true):ZJ (s.take (i+1))=true:=by
 rw[eW hi,VV,h];simp[ZJ,hd]
def Uc(hi:i<s.length)(hd:LO s[i]=false):ZJ s=false:=by
 cases h:ZJ s with
 |false=>rfl
 |true=>rw[ZJ,iH]at h;rw[h _ (fb hi)]at hd;cases hd
def NM(s:List UInt8):Bool:=ZJ s&&!s.isEmpty
theorem ki(hF:Fits F w)(hl:s.length<=1000000000):Qe prog 281 [tx s] w F (.bool (NM s)):=by
 refine QT.intro (G:=λ_=>True) func281 rfl wy rfl rfl hF w8<|QKO<|wQ rfl<|QG<|wR rfl<|QA (X7 rfl Zo)<|QJD rfl<|QJC<|QV<|YA (ι:=AQ s.length λi=>ZJ (s.take i)=true) (λi=>[(0,tx s),(5,.int .i64 s.length),(6,.int .i64 i.i)]) (λ_=>[]) (λ_ _=>True) (λi=>s.length-i.i) ⟨0,eK _,rfl⟩ wU QJZ w9 λi=>?_
 have hle:=i.le;refine wA 6 I ?_;refine QO I (λhc=>?_) λhc=>?_
 ·have hi:i.i<s.length:=by simp at hc;omega
  refine QKr 14 I<|QA (Hq I I Zo (hi))<|wB 2 I ?_
  refine Qs (t:=13) rfl (λhb13=>?_) λhb13=>?_
  ·refine QKq 7 I ?_;refine QO I (λhc=>?_) λhc=>?_
   ·refine wA 6 I ?_
    repeat first|refine Q4 ?_|refine Qy ?_
    exact QQ () I (wN I) (congrArg ai (by unfold NM;rw[Uc hi (by have h1:=QKc hb13;cases hd:LO s[i.i]with | false=>rfl | true=>(have:=Km.1 hd;omega))];rfl)) w8
   refine QN<|Qk<|QC<|QB<|QA (Qv I I O)<|wB 2 I ?_
   cases hc
  refine wB 5 I<|QA (Hq I I Zo (hi))<|QKq 5 I ?_
  refine QO I (λhc=>?_) λhc=>?_
  ·refine wA 6 I ?_
   repeat first|refine Q4 ?_|refine Qy ?_
   exact QQ () I (wN I) (congrArg ai (by unfold NM;rw[Uc hi (by have h1:=QKc hc;cases hd:LO s[i.i]with | false=>rfl | true=>(have:=Km.1 hd;omega))];rfl)) w8
  refine QN<|Qk<|QC<|QB<|QA (Qv I I O)<|wB 2 I ?_
  exact Ql (⟨i.i+1,O,zE hi i.h (Km.2 (by have h1:=QKd hb13;have h2:=QKd hc;constructor<;>omega))⟩:AQ s.length λi=>ZJ (s.take i)=true) (by show s.length-(i.i+1)<s.length-i.i;omega) wU QJZ w9
 refine Q2 ?_
 repeat first|refine QY ?_|refine QP wy ?_
 refine QZ<|QC<|wR I<|QA (L1 I I)<|wQ I<|QW ?_
 exact QQ () I (wN I) (congrArg ai (by have h1:=i.h;rw[aq (by simp at hc;omega)]at h1;unfold NM;rw[h1];cases s<;>rfl)) w8
theorem head_ne(h:0<s.length):((s[0].toNat:Int) != 48)=!(s.head?==some 48):=by
 cases s with
 |nil=>simp at h
 |cons c s =>
  simp only[List.getElem_cons_zero,List.head?_cons];by_cases e:c=48
  ·subst e;rfl
  have e1:c.toNat≠48:=λh=>e (eQ (by rw[h];rfl));have e2:((c.toNat:Int) != 48)=true:=by simp only[bne_iff_ne,ne_eq];omega
  have e3:(some c==some 48)=false:=by simp[e]
  rw[e2,e3];rfl
def IU(h:NM s=true):0<s.length:=by
 cases s with
 |nil=>cases h
 |cons=>simp
theorem Rs(hF:Fits F w)(hl:s.length<=1000000000):Qe prog 203 [tx s] w F (.bool (Xu s)):=by
 refine QT.intro (G:=λ_=>True) func203 rfl wy rfl rfl hF w8<|QKO<|wQ rfl<|wR rfl<|QI rfl (λ_ _ f _=>ki f hl) λ_=>QJD rfl ?_
 refine Qs (t:=5) rfl (λhb5=>?_) λhb5=>?_
 ·refine wB 3 I<|QA (VD I I)<|wB 2 I ?_
  refine Qs (t:=8) rfl (λhb8=>?_) λhb8=>?_
  ·refine QKq 10 I ?_;exact QQ () I (wN I) (congrArg ai (by have h:=hb5;unfold NM at h;unfold Xu;rw[h,hb8];rfl)) w8
  refine wB 3 I<|QA (Hq (i:=0) rfl rfl Zo (IU hb5))<|QKq 9 I ?_
  exact QQ () I (wN I) (congrArg ai (by have h:=hb5;unfold NM at h;unfold Xu;rw[h,hb8,head_ne (IU hb5)];rfl)) w8
 refine wB 3 I<|J0 I I<|J0 I I<|J0 I I<|QKq 6 I ?_
 exact QQ () I (wN I) (congrArg ai (by have h:=hb5;unfold NM at h;unfold Xu;rw[h];rfl)) w8
def LX(size d:List UInt8)(neg fr:Bool):Bool:=!Xu size||(neg&&size==[48])||(fr&&(!Xu d||d==[48]||d==[49]))
def Ht(n d:List UInt8)(fr:Bool):Int :=
 if LX (ah n [45]) d (aC n [45]) fr=true then 1
 else if(decide (600<(ah n [45]).length)||decide (600<d.length))=true then 4
 else if(fr&&!(lA (Jb (ah n [45])) (Jb d)==1))=true then 1 else 0
def Jd(s:List UInt8):Int:=Ht (Yl 47 s).1 (Yl 47 s).2.1 (Yl 47 s).2.2
theorem k7(c:UInt8)(s:List UInt8):(Yl c s).1.length<=s.length/\(Yl c s).2.1.length<=s.length:=by
 have h:=WM (· != c) s;have h1:=congrArg fe h.1;have h2:=congrArg fe h.2;simp at h1 h2;unfold Yl;split
 ·refine⟨?_,?_⟩
  ·show(s.takeWhile (· != c)).length<=_;exact(List.takeWhile_sublist _).length_le
  show((s.dropWhile (· != c)).drop 1).length<=_;rw[bm];have:=(List.dropWhile_sublist (l:=s) (· != c)).length_le;omega
 exact⟨aF _,wz⟩
def WT(h:Xu s=true):ZJ s=true:=by
 simp only[Xu,aA]at h;exact h.1.1
def Ak(s p:List UInt8):(ah s p).length<=s.length:=by unfold ah;split<;>simp
theorem B5(hF:Fits F w)(hG:JC F)(hl:s.length<=1000000):Qe prog 90 [tx s] w F (.int .i64 (Jd s)):=by
 have hcl:=k7 47 s;unfold Jd;refine QT.intro (G:=λF=>JC F) func90 rfl wy rfl rfl hF (λF' hF'=>hG.le hF')<|QKO<|wQ rfl<|wR rfl<|QI rfl (λ_ _ f k=>QAk f k O) λ_=>?_
 rw[k6];generalize Yl 47 s=cp at hcl ⊢;obtain⟨n,d,fr⟩:=cp;dsimp only at hcl ⊢;have htl:=Ak n [45];refine QKq 12 I<|QI I (λ_ _ f k=>IW f ) λ_=>QKq 8 I ?_
 refine E6 46 (.bool (LX (ah n [45]) d (aC n [45]) fr)) ?_ ?_
 ·refine wA 2 I<|QI I (λ_ _ f k=>Rs f O) λ_=>QA (XJ I)<|QJD I ?_
  refine Qs (t:=24) rfl (λhb24=>?_) λhb24=>?_
  ·refine wB 2 I<|J0 I I<|J0 I I<|wB 5 I<|J0 I I<|J0 I I<|J0 I I<|J0 I I<|J0 I I<|J0 I I<|J0 I I<|J0 I I<|J0 I I<|J0 I I<|J0 I I<|wB 3 I ?_
   exact ZY (exd 27 rfl rfl) (congrArg (λb=>some (ai b)) (by rw[av];simp_all [LX])) QJZ tA
  refine wB 4 I ?_;refine Qs (t:=26) rfl (λhb26=>?_) λhb26=>?_
  ·refine wB 3 I<|QA (VD I I)<|wB 4 I ?_
   refine Qs (t:=31) rfl (λhb31=>?_) λhb31=>?_
   ·refine wB 2 I<|J0 I I<|J0 I I<|J0 I I<|J0 I I<|J0 I I<|J0 I I<|J0 I I<|J0 I I<|J0 I I<|J0 I I<|J0 I I<|wB 3 I ?_
    exact ZY (exd 29 rfl rfl) (congrArg (λb=>some (ai b)) (by rw[av];simp_all [LX])) QJZ tA
   refine wB 4 I ?_;refine Qs (t:=33) rfl (λhb33=>?_) λhb33=>?_
   ·refine wB 3 I<|QI I (λ_ _ f k=>Rs f O) λ_=>QL I I<|QA (XJ I)<|wB 2 I ?_
    refine Qs (t:=37) rfl (λhb37=>?_) λhb37=>?_
    ·refine wB 14 I ?_;exact ZY (exd 31 rfl rfl) (congrArg (λb=>some (ai b)) (by rw[av];simp_all [LX])) QJZ λ_ h=>h.1.1
    refine wB 3 I<|QA (VD I I)<|wB 4 I ?_
    refine Qs (t:=41) rfl (λhb41=>?_) λhb41=>?_
    ·refine wB 8 I ?_;exact ZY (exd 32 rfl rfl) (congrArg (λb=>some (ai b)) (by rw[av];simp_all [LX])) QJZ λ_ h=>h.1.1
    refine wB 3 I<|QA (VD I I)<|wB 6 I ?_
    exact ZY (exd 32 rfl rfl) (congrArg (λb=>some (ai b)) (by rw[av];simp_all [LX])) QJZ λ_ h=>h.1.1
   refine wB 4 I<|J0 I I<|J0 I I<|wB 2 I<|J0 I I<|J0 I I<|wB 5 I ?_
   exact ZY (exd 30 rfl rfl) (congrArg (λb=>some (ai b)) (by rw[av];simp_all [LX])) QJZ tA
  refine wB 10 I ?_;refine Qs (t:=33) rfl (λhb33=>?_) λhb33=>?_
  ·refine wB 3 I<|QI I (λ_ _ f k=>Rs f O) λ_=>QL I I<|QA (XJ I)<|wB 2 I ?_
   refine Qs (t:=37) rfl (λhb37=>?_) λhb37=>?_
   ·refine wB 14 I ?_;exact ZY (exd 30 rfl rfl) (congrArg (λb=>some (ai b)) (by rw[av];simp_all [LX])) QJZ λ_ h=>h.1.1
   refine wB 3 I<|QA (VD I I)<|wB 4 I ?_
   refine Qs (t:=41) rfl (λhb41=>?_) λhb41=>?_
   ·refine wB 8 I ?_;exact ZY (exd 31 rfl rfl) (congrArg (λb=>some (ai b)) (by rw[av];simp_all [LX])) QJZ λ_ h=>h.1.1
   refine wB 3 I<|QA (VD I I)<|wB 6 I ?_
   exact ZY (exd 31 rfl rfl) (congrArg (λb=>some (ai b)) (by rw[av];simp_all [LX])) QJZ λ_ h=>h.1.1
  refine wB 4 I<|J0 I I<|J0 I I<|wB 2 I<|J0 I I<|J0 I I<|wB 5 I ?_
  exact ZY (exd 29 rfl rfl) (congrArg (λb=>some (ai b)) (by rw[av];simp_all [LX])) QJZ tA
 refine QO I (λhc46=>?_) λhc46=>?_
 ·refine wA 6 I ?_;exact QQ () I (wN I) (congrArg (ao .i64) (by unfold Ht;rw[if_pos hc46])) w8
 refine QKr 3 I ?_;refine E6 54 (.bool (decide (600<(ah n [45]).length)||decide (600<d.length))) ?_ ?_
 ·refine wA 2 I<|QA (X7 I Zo)<|wB 2 I ?_
  refine Qs (t:=50) rfl (λhb50=>?_) λhb50=>?_
  ·refine wB 5 I ?_;exact ZY (exd 9 rfl rfl) (congrArg (λb=>some (ai b)) (by simp at *;first | omega | (rw[av];simp;omega))) QJZ w9
  refine wB 3 I<|QA (X7 I Zo)<|wB 4 I ?_
  exact ZY (exd 9 rfl rfl) (congrArg (λb=>some (ai b)) (by simp at *;first | omega | (rw[av];simp;omega))) QJZ w9
 refine QO I (λhc54=>?_) λhc54=>?_
 ·refine wA 6 I ?_;exact QQ () I (wN I) (congrArg (ao .i64) (by unfold Ht;rw[if_neg (by rw[hc46];decide),if_pos hc54])) w8
 refine QKr 8 I ?_;refine QO I (λhc55=>?_) λhc55=>?_
 ·have hl54:(ah n [45]).length<=600/\d.length<=600:=by simp at hc54;omega
  have hwh:Xu (ah n [45])=true/\Xu d=true:=by
   subst hc55;simp only[LX,bL,fA,eU]at hc46;exact⟨hc46.1.1,hc46.2.1.1⟩
  have hsa:=WT hwh.1;have hda:=WT hwh.2;have hz1:=EF hsa;have hz2:=EF hda;refine wR I<|QI I (λ_ _ f k=>RL f (by rw[WL hsa];exact hsa) O) λg58=>QJD I<|QI I (λ_ _ f k=>RL f (by rw[WL hda];exact hda) O) λg60=>QI I (λ_ _ f k=>QAa f k.1.2 k.2 (by rw[YN hsa];omega) (by rw[YN hda];omega)) λg61=>QI I (λw F hF ⟨⟨⟨⟨⟨hGl,_⟩,_⟩,h58⟩,h60⟩,h61⟩=>de hF (by assumption)) λc62=>JN _ (λ_ _ f h=>h.2) λhsm=>?_
  rw[YN hsa,YN hda,Int.gcd_natCast_natCast]at hsm;refine QKq 7 I ?_;refine E6 70 (.bool (!(lA (Jb (ah n [45])) (Jb d)==1))) ?_ ?_
  ·refine wA 2 I<|QA (XJ I)<|QJD I ?_
   refine Qs (t:=67) rfl (λhb67=>?_) λhb67=>?_
   ·refine wB 4 I ?_;exact ZY (exd 7 rfl rfl) (congrArg (λb=>some (ai b)) (by rcases hsm with ⟨e1,e2,e3⟩ | ⟨e1,e2⟩<;>rw[av]<;>simp_all<;>omega)) QJZ w9
   refine wB 6 I ?_;exact ZY (exd 7 rfl rfl) (congrArg (λb=>some (ai b)) (by rcases hsm with ⟨e1,e2,e3⟩ | ⟨e1,e2⟩<;>rw[av]<;>simp_all<;>omega)) QJZ w9
  refine QO I (λhc70=>?_) λhc70=>?_
  ·refine wA 6 I ?_;exact QQ () I (wN I) (congrArg (ao .i64) (by unfold Ht;rw[if_neg (by rw[hc46];decide),if_neg (by rw[hc54];decide),if_pos (by rw[hc55,hc70];rfl)])) w8
  refine QKr 8 I ?_;exact QQ () I (wN I) (congrArg (ao .i64) (by unfold Ht;rw[if_neg (by rw[hc46];decide),if_neg (by rw[hc54];decide),if_neg (by rw[hc55,hc70];decide)])) w8
 refine QKr 8 I ?_;exact QQ () I (wN I) (congrArg (ao .i64) (by unfold Ht;rw[if_neg (by rw[hc46];decide),if_neg (by rw[hc54];decide),if_neg (by rw[hc55];simp)])) w8
def Qh(s:List UInt8):Rat:=if(Yl 47 s).2.2=true then mkRat (Y7 (Yl 47 s).1) (Jb (Yl 47 s).2.1)else((Y7 (Yl 47 s).1:Int):Rat)
theorem M0(h:c∈s):∃r,s.dropWhile (· != c)=c::r:=by
 induction s with
 |nil=>cases h
 |cons b s ih =>
  simp only[fZ];by_cases e:b=c
  ·subst e;exact⟨s,wz⟩
  have h1:(b != c)=true:=by simp[e]
  rw[if_pos h1];exact ih (by rcases List.mem_cons.1 h with h | h;exact absurd h.symm e;exact h)
def jR(c:UInt8)(s:List UInt8):((Yl c s).2.2=true->s=(Yl c s).1++c::(Yl c s).2.1)/\((Yl c s).2.2=false->s=(Yl c s).1/\(Yl c s).2.1=[]):=by
 unfold Yl;by_cases h:s.contains c=true
 ·rw[if_pos h];refine⟨λ_=>?_,λe=>(by cases e)⟩;obtain⟨r,hr⟩:=M0 (c:=c) (s:=s) (by simpa using h);have hh:s.dropWhile (· != c)=c::(s.dropWhile (· != c)).drop 1:=by rw[hr];rfl
  show s=s.takeWhile (· != c)++c::(s.dropWhile (· != c)).drop 1;rw[<-hh,List.takeWhile_append_dropWhile]
 rw[if_neg h];exact⟨λe=>(by cases e),λ_=>⟨rfl,rfl⟩⟩
def S2(h:Xu l=true)(h0:l≠[48]):0<Jb l:=by
 simp only[Xu,aA,iP,beq_iff_eq,iF,fu]at h;rcases h.2 with h1 | h1
 ·exact absurd h1 h0
 exact(Er h.1.1 h.1.2 (by simpa using h1)).2
theorem qG(h:Xu l=true)(h0:l≠[48])(h1:l≠[49]):2<=Jb l:=by
 have hp:=S2 h h0;have hd:=Es h;rcases aS (Jb l) 2 with g | g
 ·have:Jb l=1:=O;rw[this]at hd;exact absurd (hd.symm.trans (by rw[af];rfl)) h1
 exact g
theorem pM{n:List UInt8}(h:Xu (ah n [45])=true)(h0:(aC n [45]&&ah n [45]==[48])=false):Zn (Y7 n)=n/\(Y7 n).natAbs=Jb (ah n [45]):=by
 unfold Y7;by_cases hp:aC n [45]=true
 ·have hn:n=45::n.drop 1:=by
   cases n with
   |nil=>cases hp
   |cons c r =>
    have h45:(45==c)=true:=by simpa[aC,ep]using hp
    have:45=c:=by simpa using h45
    rw[<-this];rfl
  have ht:ah n [45]=n.drop 1:=by unfold ah;rw[if_pos hp];rfl
  rw[ht]at h h0 ⊢;rw[hp,fA]at h0;have hpos:=S2 h (by simpa using h0);rw[if_pos hp];refine⟨?_,O⟩;rw[Ki O,show(-(Jb (n.drop 1):Int)).natAbs=Jb (n.drop 1) by omega,Es h,<-hn]
 have ht:ah n [45]=n:=by unfold ah;rw[if_neg hp]
 rw[ht]at h ⊢;rw[if_neg hp];refine⟨?_,O⟩;rw[XO O,show((Jb n:Nat):Int).natAbs=Jb n by omega,Es h]
theorem FN(h:ZJ l=true)(hl:l.length<=600):Jb l<lim:=by
 have h1:=He h;have h2:10^l.length<=lim:=by have key:∀k,l.length<=k->10^l.length<=10^k:=λk h=>bM wu h;unfold lim;exact key 600 hl
 omega
theorem XI(h:Jd s=0):s=Jh (Qh s)/\Jo (Qh s)=false:=by
 unfold Jd at h;have hj:=jR 47 s;unfold Qh;generalize Yl 47 s=c at h hj ⊢;obtain⟨n,d,fr⟩:=c;dsimp only at h hj ⊢;unfold Ht at h;split at h
 ·cases h
 rename_i h1;split at h
 ·cases h
 rename_i h2;split at h
 ·cases h
 rename_i h3;have h1':=eq_false_of_ne_true h1;simp only[LX,bL,eU]at h1';obtain⟨⟨hw,hz⟩,hf⟩:=h1';have hsa:=WT hw;have hl:(ah n [45]).length<=600/\d.length<=600:=by simp at h2;omega
 obtain⟨hn1,hn2⟩:=pM hw hz;have hlim:=FN hsa hl.1;cases fr with
 |false =>
  rw[if_neg wu];obtain⟨hs,_⟩:=hj.2 rfl;refine⟨?_,?_⟩
  ·unfold Jh;rw[eC,if_pos rfl,eB,hn1];exact hs
  unfold Jo Rb;rw[eB,eC,hn2];rw[decide_eq_false O,fB];refine decide_eq_false ?_;have:((1:Nat):Int).natAbs<lim:=wv;omega
 |true =>
  rw[if_pos rfl];simp only[fA,bL,eU]at hf;obtain⟨⟨hwd,hd0⟩,hd1⟩:=hf;have hd2:=qG hwd (by simpa using hd0) (by simpa using hd1);have hda:=WT hwd;have hg:lA (Jb (ah n [45])) (Jb d)=1:=by simpa using h3
  have hco:Nat.Coprime (Y7 n).natAbs (Jb d):=by rw[hn2];exact hg
  have hmk:=Rat.mk_eq_mkRat (Y7 n) (Jb d) O hco;rw[<-hmk];refine⟨?_,?_⟩
  ·unfold Jh;show s=if Jb d=1 then _ else Zn (Y7 n)++47::af (Jb d)
   rw[if_neg O,hn1,Es hwd];exact hj.1 I
  unfold Jo Rb;show(decide (lim<=(Y7 n).natAbs)||decide (lim<=((Jb d:Nat):Int).natAbs))=false;have:=FN hda hl.2;rw[hn2,decide_eq_false O,decide_eq_false O];rfl
theorem Gk{r:Rat}(h:Jo r=false):JQ r<=2400:=by
 unfold Jo Rb at h;rw[bL]at h;have h1:=QKd h.1;have h2:=QKd h.2;have e:lim<=2^2400:=by
  decide +kernel
 unfold JQ;have a:=(XE r.num 2400).2 (aB (iM h1) e);have b:=(XE (r.den:Int) 2400).2 (aB (iM h2) e);omega
def YM(h:Jd s=0):JQ (Qh s)<=2400:=Gk (XI h).2
theorem jL{q:Option Addr}{c f:Nat}{vs:Nat->Value}{es:List Int}{c1 c2:List Value}(hF:Fits F w)(hg:∀F F',Gs.le F F'->G0 F->G0 F')(h0:G0 F)(hR:Qw F q n 1 cs)(hn:es.length=n)(hb:n<=1000000000)
  (hv:∀i,i<n->cs[i*1]?=some (vs i)) (hc:∀i (hi:i<es.length) w F,Fits F w->G0 F->Qe prog f (c1++[vs i]++c2) w F (.int .i64 es[i])) :
  Qe prog 299 [.slice q n c,.func (.func f) c1.toArray c2.toArray] w F (.int .i64 (Qp es)):=by
 refine QT.intro (G:=λF=>G0 F/\Qw F q n 1 cs) func299 rfl wy rfl rfl hF (λF' hF'=>⟨hg F F' hF' h0,hR.le hF'⟩)<|QKO<|wQ rfl<|QG<|wR rfl<|QA (Qg rfl Z6)<|QJD rfl<|QJC<|QV<|YA (ι:=AQ n λi=>Qp (es.drop i)=Qp es) (λi=>[(1,.func (.func f) c1.toArray c2.toArray),(8,.slice q n c),(9,.int .i64 n),(10,.int .i64 i.i)]) (λ_=>[]) (λ_ F=>G0 F/\Qw F q n 1 cs) (λi=>n-i.i) ⟨0,eK _,rfl⟩ wV QJZ w9 λi=>?_
 have hle:=i.le;refine wA 6 I ?_;refine QO I (λhc1=>?_) λhc1=>?_
 ·have hi:i.i<n:=by simp at hc1;omega
  have hil:i.i<es.length:=O;refine XQ _ (λ_ _ f h=>h.2.ptr O) (λhq=>?_);obtain⟨qb,qo,rfl⟩:=hq;refine QKr 6 I<|QA (JL I I Z6 JR hi)<|QA (Yj I JR tB O (hv i.i hi))<|QKq 7 I<|Gb I I (λw F f h=>hc i.i hil w F f h.1) λ_=>QKq 9 I ?_
  refine QO I (λhc1=>?_) λhc1=>?_
  ·refine wA 7 I ?_
   repeat first|refine Q4 ?_|refine Qy ?_
   exact QQ () I (wN I) (congrArg (ao .i64) (i.h.symm.trans (Dx hil (by simpa using hc1)))) w8
  refine QN<|Qk<|QC<|QB<|QA (Qv I I O)<|wB 2 I ?_
  exact Ql (⟨i.i+1,O,by rw[<-Ww hil (by simpa using hc1)];exact i.h⟩:AQ n λi=>Qp (es.drop i)=Qp es) (by show n-(i.i+1)<n-i.i;omega) wV QJZ tA
 refine Q2 ?_
 repeat first|refine QY ?_|refine QP wy ?_
 refine QZ<|QKs 7 I ?_
 exact QQ () I (wN I) (by rw[<-i.h,fI (by simp at hc1;omega)];rfl) w8
theorem vK{q:Option Addr}{c:Nat}{l:List (List UInt8)}(hF:Fits F w)(hG:JC F)(hR:Qw F q n 1 (l.map tx))(hl:n<=1000000/\∀s∈l,s.length<=1000000):Qe prog 221 [.slice q n c] w F (.int .i64 (Qp (l.map Jd))):=by
 have hln:l.length=n:=by have:=hR.1;simpa using this
 refine QT.intro (G:=λF=>JC F/\Qw F q n 1 (l.map tx)) func221 rfl wy rfl rfl hF (λF' hF'=>⟨hG.le hF',hR.le hF'⟩)<|QKO<|wQ rfl<|QKO<|QJD rfl ?_
 refine QI I (λw F hF ⟨hGl,hR⟩=>jL (c1:=[]) (c2:=[]) (vs:=λi=>tx (l.getD i [])) (es:=l.map Jd) (G0:=JC) hF (λ_ _ h k=>k.le h) hGl hR (by simpa using hln) O (λi hi=>by
  have:i<l.length:=O;simp[this]) (λi hi w F hF hG=>by
  have hi':i<l.length:=by simpa using hi
  have e:l.getD i []=l[i]:=by simp[hi']
  have:=B5 hF hG (hl.2 l[i] (fb hi'));rw[List.getElem_map];show Qe _ _ [tx (l.getD i [])] _ _ _;rw[e];exact this)) λc4=>?_
 refine wQ I<|QW ?_
 exact QQ () I (wN I) rfl w8
def Mg{b:Int}(h:Qp [a,b]=0):a=0/\b=0:=by
 simp only[Qp]at h;by_cases h1:a=0
 ·rw[if_pos h1]at h;by_cases h2:b=0
  ·exact⟨h1,h2⟩
  rw[if_neg h2]at h;exact absurd h h2
 rw[if_neg h1]at h;exact absurd h h1
def two(b:Int):Int:=2^b.toNat
def zH{b:Int}(h1:b<=64):sz (two b)<=129:=by
 have:=Dl 2 b.toNat;have e:sz 2=2:=wu;rw[e]at this;unfold two;omega
def UE(b:Int):two b≠0:=Int.ne_of_gt (Int.pow_pos wu)
theorem zF{n b:Int}(h:sz n<=k)(h1:b<=64):JQ (aG n (two b))<=max k 129:=by
 have:=VA (a:=n) (UE b);have:=zH h1;omega
def Xc(lo hi:List UInt8):Int:=if Qp [Jd lo,Jd hi]=0 then(if Z7 (Qh lo) (Qh hi)>0 then 11 else 0)else Qp [Jd lo,Jd hi]
def B6{lo hi:List UInt8}(h:Xc lo hi=0):Jd lo=0/\Jd hi=0/\¬Z7 (Qh lo) (Qh hi)>0:=by
 unfold Xc at h;split at h
 ·rename_i h0;have:=Mg h0;refine⟨this.1,this.2,?_⟩;split at h
  ·cases h
  assumption
 rename_i h0;exact absurd h h0
theorem W1{lo hi:List UInt8}(hF:Fits F w)(hG:JC F)(hl:lo.length<=1000000/\hi.length<=1000000):Qe prog 120 [.agg #[tx lo,tx hi]] w F (.int .i64 (Xc lo hi)):=by
 refine QT.intro (G:=λF=>JC F) func120 rfl wy rfl rfl hF (λF' hF'=>hG.le hF')<|QKO<|Qu rfl (vs:=[_,_]) rfl λb1=>wQ rfl<|QG<|QKO<|QA (QH rfl Sn JR)<|QA (Qf rfl JR .here .h1)<|QA (QH rfl Sm JR)<|QA (Qf rfl JR .here (.skip .h1))<|Qb rfl (Qz Z6) JR Ow rfl rfl λb8=>QI rfl (λw F hF ⟨hGl,hs8⟩=>vK (l:=[lo,hi]) hF hGl (Qw.of (cs:=List.map tx [lo,hi]) hs8 rfl) ⟨wu,λs hs=>by simp at hs;rcases hs with rfl | rfl;exact hl.1;exact hl.2⟩) λ_=>QKq 9 I ?_
 refine QO I (λhc=>?_) λhc=>?_
 ·refine wA 7 I ?_;exact QQ () I (wN I) (by unfold Xc;rw[if_neg (by simpa using hc)];rfl) w8
 have h0:Qp [Jd lo,Jd hi]=0:=by simpa using hc
 have h1:=Mg h0;have hz1:=YM h1.1;have hz2:=YM h1.2;refine QKr 3 I<|JK QJZ mixed wm<|QK (QH I Sn JR)<|QK (Qf I JR .here .h1)<|QM I (λ_ _ f k=>Yw f k.1.1 (XI h1.1).1 O) λx15=>QK (QH I Sm JR)<|QK (Qf I JR .here (.skip .h1))<|QM I (λ_ _ f k=>Yw f k.1.1.1 (XI h1.2).1 O) λx18=>QM I (λ_ _ f k=>GU (r:=Qh lo) (s:=Qh hi) f ⟨k.1.2.1,k.1.2.2⟩ ⟨k.2.1,k.2.2⟩ O O) λ_=>QK (QU I I I)<|QM I (λ_ _ f k=>Px f ) λ_=>QK (QF I)<|Q5<|QC<|QW ?_
 exact QQ () I (wN I) (congrArg (ao .i64) (by unfold Xc;rw[if_pos h0];simp)) w8
structure Sp where
 lo:Fr
 hi:Fr
@[reducible] def Sp.v (x:Sp):Value:=.agg #[.int .i64 x.lo.n.s,.slice x.lo.n.q x.lo.n.n x.lo.n.cap,.int .i64 x.lo.d.s,.slice x.lo.d.q x.lo.d.n x.lo.d.cap,.int .i64 x.hi.n.s,.slice x.hi.n.q x.hi.n.n x.hi.n.cap,.int .i64 x.hi.d.s,.slice x.hi.d.q x.hi.d.n x.hi.d.cap]
def Jj(F:Gs)(x:Sp)(r:Rat×Rat):Prop:=JP F x.lo r.1/\JP F x.hi r.2
def Jj.le{x:Sp}{r:Rat×Rat}(h:Jj F x r)(k:Gs.le F F'):Jj F' x r:=⟨h.1.le k,h.2.le k⟩
abbrev Xn(P:Program)(f:FuncId)(args:List Value)(w:World)(F:Gs)(r:Rat×Rat):Prop:=QT P f args w F Sp.v λx F=>Jj F x r
def Xe(r:Rat×Rat)(b:Int):Rat×Rat:=(aG (r.1*((two b:Int):Rat)).floor (two b),aG (-(-(r.2*((two b:Int):Rat))).floor) (two b))
def ZN(s:Rat×Rat)(x:Rat):Rat×Rat:=(if Z7 x s.1<0 then x else s.1,if Z7 x s.2>0 then x else s.2)
def Yf(r:Rat)(l:List Rat):Rat×Rat:=l.foldl ZN (r,r)
def KV(x:Fr):List Value:=[.int .i64 x.n.s,.slice x.n.q x.n.n x.n.cap,.int .i64 x.d.s,.slice x.d.q x.d.n x.d.cap]
def Cj{f:α->List Value}(hf:∀x,(f x).length=k):∀(l:List α) (i j:Nat) (h:i<l.length),j<k->(l.flatMap f)[i*k+j]?=(f l[i])[j]?
 |[],_,_,h,_=>by simp at h
 |x::l,0,j,_,hj=>by
  rw[eX,fN,aW,aR,if_pos (by rw[hf];exact hj)];rfl
 |x::l,i+1,j,h,hj=>by
  rw[eX,aR,if_neg (by rw[hf,bN];omega),hf];have:=Cj hf l i j (by simpa using h) hj;rw[show(i+1)*k+j-k=i*k+j by rw[bN];omega,this];rfl
def D6{f:α->List Value}(hf:∀x,(f x).length=k)(l:List α):(l.flatMap f).length=l.length*k:=by
 induction l with
 |nil=>simp
 |cons x l ih=>rw[eX,ar,hf,ih,aN,bN];omega
def JE(a b:Rat×Rat):Rat×Rat:=Yf (a.1*b.1) [a.1*b.2,a.2*b.1,a.2*b.2]
section
variable[Dr][df:Df]{P:Program}{Q:Exit->Act->World->Prop}{N:Nat}{m:Sl}{ops:Array Oper}{l:List Oper}{w0:World}{F0:Gs}{bs:List (Nat×Obj)}{G:Gs->Prop}{d:Nat}{ty:TypeId}{pos:String}{aft:Array Edge}
theorem Iv(hx:ev m x=some (tx s))(hT:Bo P T=true)(k:∀b,JS P ops Q l N ((d,.pointer (some ⟨b,0,none⟩))::m) ⟨w0,F0,(b,.stringIter ⟨s.toArray⟩ 0)::bs,G⟩)(hd:J2 N (some d)=true:=by rfl):
  JS P ops Q (⟨some d,.range T x,ty,pos,aft,none⟩::l) N m ⟨w0,F0,bs,G⟩:=λa w ha hw=>by
 unfold Bo at hT;split at hT
 ·rename_i hu;have hrun:(execOp a.eval ⟨some d,.range T x,ty,pos,aft,none⟩).run P w = .ok (.value (.pointer (some ⟨w.heap.size,0,none⟩))) (w.alloc (.stringIter ⟨s.toArray⟩ 0)):=by
   simp[execOp,ha.ev hx,Instr.range,run_underlying hu,run_newObj,tx]
  exact wpList_plain rfl λK hK=>upon_value hrun (hK _ _ (k _ _ _ (ha.put hd _) (hw.alloc _ λc fr e=>by cases e)))
 cases hT
theorem Om{p:Nat}(hx:ev m x=some (.pointer (some ⟨b,0,none⟩)))(ho:Own bs b (.stringIter ⟨s.toArray⟩ p) f)(hp:p<s.length){c width:Nat}(hdec:bK ⟨s.toArray⟩ p=(c,width))
  (k:JS P ops Q l N ((d,.tuple #[.bool true,.int .i64 p,.int .i32 c])::m) ⟨w0,F0,f (.stringIter ⟨s.toArray⟩ (p+width)),G⟩) (hd:J2 N (some d)=true:=by rfl) :
  JS P ops Q (⟨some d,.next x true,ty,pos,aft,none⟩::l) N m ⟨w0,F0,bs,G⟩:=λa w ha hw=>by
 have hb:=hw.own ho;obtain⟨pre,post,e1,e2⟩:=ho.split;subst e1;rw[e2]at k;have hsz:p<(⟨s.toArray⟩:ByteArray).size:=by rw[Y3];exact hp
 have hrun:(execOp a.eval ⟨some d,.next x true,ty,pos,aft,none⟩).run P w = .ok (.value (.tuple #[.bool true,.int .i64 p,.int .i32 c])) { w with heap:=w.heap.setIfInBounds b (.stringIter ⟨s.toArray⟩ (p+width)) }:=by
  simp[execOp,ha.ev hx,lI,getObj,setObj,Sem.run,hb,hsz,hdec,goInt]
 exact wpList_plain rfl λK hK=>upon_value hrun (hK _ _ (k _ _ (ha.put hd _) (hw.write pre ⟨rfl,rfl,rfl,rfl,rfl⟩ λc fr e=>by cases e)))
theorem Oq{p:Nat}(hx:ev m x=some (.pointer (some ⟨b,0,none⟩)))(ho:Own bs b (.stringIter ⟨s.toArray⟩ p) f)(hp:s.length<=p)
  (k:JS P ops Q l N ((d,.tuple #[.bool false])::m) ⟨w0,F0,bs,G⟩) (hd:J2 N (some d)=true:=by rfl) :
  JS P ops Q (⟨some d,.next x true,ty,pos,aft,none⟩::l) N m ⟨w0,F0,bs,G⟩:=λa w ha hw=>by
 have hb:=hw.own ho;have hsz:¬p<(⟨s.toArray⟩:ByteArray).size:=by rw[Y3];omega
 have hrun:(execOp a.eval ⟨some d,.next x true,ty,pos,aft,none⟩).run P w = .ok (.value (.tuple #[.bool false])) w:=by
  simp[execOp,ha.ev hx,lI,getObj,Sem.run,hb,hsz]
 exact wpList_plain rfl λK hK=>upon_value hrun (hK _ _ (k _ _ (ha.put hd _) hw))
end
theorem decode_high{p:Nat}(hp:p<s.length)(h:¬s[p].toNat<128):128<=(bK ⟨s.toArray⟩ p).1:=by
 have h0:((⟨s.toArray⟩:ByteArray).get! (p+0)).toNat=s[p].toNat:=by
  simp[iq,hp]
 unfold bK;simp only[h0];rw[if_neg h];split
 ·split
  ·rename_i g;exact g
  decide
 split
 ·split
  ·rename_i g;simp only[aA,decide_eq_true_eq]at g;exact ae wu g.1
  decide
 split
 ·split
  ·rename_i g;simp only[aA,decide_eq_true_eq]at g;exact ae wu g.1
  decide
 decide
def jP{p:Nat}(hp:p<s.length):∃c width,bK ⟨s.toArray⟩ p=(c,width)/\((s[p].toNat<128/\c=s[p].toNat/\width=1)\/(128<=s[p].toNat/\128<=c)):=by
 have h0:((⟨s.toArray⟩:ByteArray).get! (p+0)).toNat=s[p].toNat:=by
  simp[iq,hp]
 by_cases h:s[p].toNat<128
 ·exact⟨_,_,by unfold bK;simp only[h0];rw[if_pos h],.inl ⟨h,rfl,rfl⟩⟩
 exact⟨(bK ⟨s.toArray⟩ p).1,(bK ⟨s.toArray⟩ p).2,rfl,.inr ⟨O,decode_high hp h⟩⟩
def Yk(c:Nat):Bool:=(decide (97<=c)&&decide (c<=122))||(decide (65<=c)&&decide (c<=90))
section
variable{P:Program}{N:Nat}{m:Sl}{Y:World->Prop}{ty:TypeId}
def Su(a:Addr):a.add 0=a:=by simp[Addr.add]
theorem Nh{e:TypeId}{q:Option Addr}{c sz:Nat}{g:Bool}(h:Nat)(hx:ev m x=some (.slice q n c))(eh:OS m hi=some vh)(hh:vh=some (.int .i64 (h:Int)))(hT:Hc P T=some e)(hs:Z1 P e=some (g,sz))(hc:h<=c):
  Qt P N m Y (.slice T x none hi none) ty (.slice q h c):=λa w _ _ _ _ ha _=>by
 subst hh;have e1:q.map (λa=>a.add 0)=q:=by cases q<;>simp[Su]
 have hrun:(lf T (.slice q n c) none (some (.int .i64 (h:Int))) none).run P w = .ok (.slice q h c) w:=by
  simp[lf,run_underlying (Qz hT),Instr.sliceBounds,Instr.sliceBound,asIntOf,hc,KX hs,e1]
 simp[execOp,ha.ev hx,ha.OS eh,iT,run_underlying (Qz hT),hrun]
end
def XD(F:Gs)(r:Sr)(l:List Int):Prop:=Qw F r.q r.n 1 (l.map Jn)/\l.length=r.n/\r.n<=r.cap
def XD.le{r:Sr}{l:List Int}(h:XD F r l)(k:Gs.le F F'):XD F' r l:=⟨h.1.le k,h.2⟩
theorem Q7.fix{w0:World}{F0:Gs}{bs1:List (Nat×Obj)}{G:Gs->Prop}{sz:Nat}{v:Value}(hr:Q7 T sz v n cs ob):
  ∃r:Sr,v=r.v/\r.n=n/\n<=r.cap/\∀w,St ⟨w0,F0,bs1++ob,G⟩ w->St ⟨w0,F0,bs1,λF=>G F/\Qw F r.q n sz cs⟩ w:=by
 cases hr with
 |nil=>exact⟨⟨eY,0,0⟩,rfl,rfl,aF _,λw hw=>by
   have:=hw.DJ (G':=λF=>G F/\Qw F eY 0 sz []) (λF h=>⟨h,Qw.nil F eY sz⟩);simpa using this⟩
 |some h1 h2 h3 h4 =>
  rename_i b cap rest;refine⟨⟨Option.some ⟨b,0,eY⟩,n,cap⟩,rfl,rfl,h3,λw hw=>?_⟩;have:=St.freeze (pre:=bs1) (post:=[]) (b:=b) hw;rw[ff]at this;refine this.DJ λF h=>⟨h.1,h1,λ_=>⟨b,0,_,T,rfl,h.2,λj u hu=>?_⟩⟩;have hj:j<cs.length:=by rcases aS j cs.length with g | g;exact g;rw[aY g]at hu;cases hu
  rw[aW];simp only[List.getElem?_toArray];rw[aR,if_pos hj];exact hu
theorem QDQ{Q:Exit->Act->World->Prop}{e:Exit}{m:Sl}{E:Env}(h:∀w,St E w->St E' w)(k:Fin Q e N m E'):Fin Q e N m E:=λa w ha hw=>k a w ha (h w hw)
def B9:Int:=1000000000
theorem jy{Q:Exit->Act->World->Prop}{c:Code}{m:Sl}{E:Env}(h:∀w,St E w->St E' w)(k:J P c Q N m E'):J P c Q N m E:=λa w ha hw=>k a w ha (h w hw)
theorem VF.one{l:List Value}{v:Value}:∀ {n:Nat},n<l.length->VF l n [v] (l.set n v):=by
 induction l with
 |nil=>intro n h;simp at h
 |cons x l ih =>
  intro n h;cases n with
  |zero=>exact .here .nil
  |succ n=>exact .skip (ih (by simpa using h))
def Tr(h:k<o.length):(o.map Jn)[0+k*1]?=some (.int .i64 (Qm o k)):=by
 rw[YR h];simp[h,Jn]
def J6(h:k<o.length):(o.map Jn)[k*1]?=some (.int .i64 (Qm o k)):=by
 rw[YR h];simp[h,Jn]
theorem SQ(h:k<o.length)(x:Int):VF (o.map Jn) (0+k*1) [.int .i64 x] ((o.set k x).map Jn):=by
 have:=VF.one (l:=o.map Jn) (n:=0+k*1) (v:=.int .i64 x) (by simpa using h);simpa[List.map_set,Jn]using this
def WQ(h:k<o.length):(o.map Jn++rest)[0+k*1]?=some (.int .i64 (Qm o k)):=by
 rw[aR,if_pos w6];exact Tr h
def pD{l vs l':List Value}(h:VF l n vs l'):VF (l++rest) n vs (l'++rest):=by
 induction h with
 |nil=>exact .nil
 |here h ih=>exact .here ih
 |skip h ih=>exact .skip ih
def DV(h:k<o.length)(x:Int):VF (o.map Jn++rest) (0+k*1) [.int .i64 x] ((o.set k x).map Jn++rest):=pD (SQ h x)
end Go.Proofs.YtpmehagnedbkhaaGreatDoor
namespace Ig
structure I4(b:Int)(U v:List Int)(j n i:Nat)(U':List Int)(c:Int):Prop where
 len:U'.length=U.length
 dg:DG b (U'.set (j+n) 0)
 lo:U'.take j=U.take j
 hi:U'.drop (j+i)=U.drop (j+i)
 c0:0<=c
 c1:c<=1
 h:dv b U'+b^(j+i)*c=dv b U+b^j*dv b (v.take i)
end Ig
namespace Go.Proofs.YtpmehagnedbkhaaGreatDoor
variable{ds o post u:List Int}{B N b cap i j k m n off:Nat}{c:UInt8}{w w':World}{a z:Int}{α γ ι:Type}{x y:Operand}{l s:List UInt8}{T t yT:TypeId}{F F':Gs}{P:Program}{f:Obj->List (Nat×Obj)}{args cs olds rest:List Value}{hi:Option Operand}{vh:Option Value}{bs' ob:List (Nat×Obj)}{G0:Gs->Prop}{fn:Func}{fr:Nat×Nat}{aft:Array Edge}{E':Env}{g g':Bg}
open Go.RowKit Ig
def el{α:Type}[Inhabited α](l:List α)(i:Nat):α:=l.getD i default
def Ja[Inhabited α]{l:List α}{i:Nat}(h:i<l.length):el l i=l[i]:=by simp[el,h]
def Q3[Inhabited α]{l:List α}{i:Nat}(h:i<l.length):el l i∈l:=by rw[Ja h];exact fb h
theorem Jc[Inhabited α]{f:α->List Value}{k:Nat}(hf:∀x,(f x).length=k){l:List α}{i j:Nat}{u:Value}(h:i<l.length)(hj:(f (el l i))[j]?=some u):(l.flatMap f)[i*k+j]?=some u:=by
 have hlt:j<k:=by
  rcases aS j k with g | g
  ·exact g
  rw[aY (by rw[hf];exact g)]at hj;cases hj
 rw[Cj hf l i j h hlt,<-Ja h];exact hj
def Xa[Inhabited α]{f:α->Value}{l:List α}{i:Nat}(h:i<l.length):(l.map f)[i*1]?=some (f (el l i)):=by
 rw[fV,List.getElem?_map,fz h,Ja h];rfl
def XV[Inhabited α]{l:List α}{i:Nat}(h:i<l.length):l.take (i+1)=l.take i++[el l i]:=by
 rw[eW h,Ja h]
def Hy[Inhabited α]{l:List α}{i:Nat}(h:i<l.length):l.drop i=el l i::l.drop (i+1):=by
 rw[bw h,Ja h]
def Yy{l:List Int}(h:i<l.length):Qm l i=el l i:=by rw[YR h,Ja h]
def QBW(q:Option Addr):Nat:=(q.getD ⟨0,0,none⟩).block
def QBV(q:Option Addr):Nat:=(q.getD ⟨0,0,none⟩).off
section
variable[Dr][df:Df]{P:Program}{Q:Exit->Act->World->Prop}{N:Nat}{m:Sl}{E E0:Env}{ops:Array Oper}{l:List Oper}{w0:World}{F0:Gs}{bs:List (Nat×Obj)}{G:Gs->Prop}{ty:TypeId}
theorem Q6{e:TypeId}{q:Option Addr}{c sz sz':Nat}{g:Bool}(i:Nat)(hr:∀F,G F->Qw F q n sz' cs)(hx:ev m x=some (.slice q n c))(hy:ev m y=some (.int .i64 (i:Int)))(hT:Hc P T=some e)(hs:Z1 P e=some (g,sz))(hi:i<n):
  Qt P N m (St ⟨w0,F0,bs,G⟩) (.indexAddr T x y) ty (.pointer (some ⟨QBW q,QBV q+i*sz,none⟩)):=λa w _ _ _ _ ha hw=>by
 obtain⟨F,hF⟩:=id hw;obtain⟨b,off,rfl⟩:=(hr F hF.hG).ptr O;exact JL hx hy hT hs hi a w _ _ _ _ ha hw
theorem JA{q:Option Addr}{sz:Nat}(j:Nat){u:Value}(hr:∀F,G F->Qw F q n sz cs)(hn:0<n)(hx:ev m x=some (.pointer (some ⟨QBW q,QBV q+j,none⟩)))(ht:Z1 P T=some (false,k))(hu:cs[j]?=some u):
  Qt P N m (St ⟨w0,F0,bs,G⟩) (.load T x) ty u:=λa w _ _ _ _ ha hw=>by
 obtain⟨F,hF⟩:=id hw;obtain⟨b,off,rfl⟩:=(hr F hF.hG).ptr hn;exact Yj hx ht hr hn hu a w _ _ _ _ ha hw
theorem JX{q:Option Addr}{sz:Nat}{vs:List Value}(j:Nat)(hr:∀F,G F->Qw F q n sz cs)(hn:0<n)(hx:ev m x=some (.pointer (some ⟨QBW q,QBV q+j,none⟩)))(ht:Z1 P T=some (true,k))(hl:vs.length=k)(hu:∀i v,vs[i]?=some v->cs[j+i]?=some v):
  Qt P N m (St ⟨w0,F0,bs,G⟩) (.load T x) ty (.agg vs.toArray):=λa w _ _ _ _ ha hw=>by
 obtain⟨F,hF⟩:=id hw;obtain⟨b,off,rfl⟩:=(hr F hF.hG).ptr hn;exact qi hx ht hr hn hl hu a w _ _ _ _ ha hw
theorem Y8.append{m:Sl}:∀ {k l:Sl},Y8 m k->Y8 m l->Y8 m (k++l)
 |[],_,_,h=>h
 |(_,_)::_,_,⟨h1,h2⟩,h=>⟨h1,Y8.append h2 h⟩
theorem JW{c:Code}(K:Sl)(M:ι->Sl)(B:ι->List (Nat×Obj))(R:ι->Gs->Prop)(μ:ι->Nat)(i0:ι)
  (hk:Y8 m K) (hm:Y8 m (M i0)) (hb:(B i0).Sublist bs) (hg:∀F,G F->R i0 F)
  (round:∀i,J P c (Exit.then (qC N w0 F0 (λi=>K++M i) B (λi F=>G F/\R i F) μ i) Q) N (K++M i) ⟨w0,F0,B i,λF=>G F/\R i F⟩):J P (.loop c) Q N m ⟨w0,F0,bs,G⟩ :=
 YA (λi=>K++M i) B (λi F=>G F/\R i F) μ i0 (hk.append hm) hb (λF h=>⟨h,hg F h⟩) round
theorem XM{c:Code}(K:Sl)(M:ι->Sl)(μ:ι->Nat)(i0:ι)(hk:Y8 m K)(hm:Y8 m (M i0))
  (round:∀i,J P c (Exit.then (qC N w0 F0 (λi=>K++M i) (λ_=>bs) (λ_=>G) μ i) Q) N (K++M i) ⟨w0,F0,bs,G⟩):J P (.loop c) Q N m ⟨w0,F0,bs,G⟩ :=
 YA (λi=>K++M i) (λ_=>bs) (λ_=>G) μ i0 (hk.append hm) QJZ w9 round
theorem YS{x y:Code}(K M:Sl)(hk:Y8 m K)(h1:J P x (ZD λa w=>JH N (K++M) a/\St ⟨w0,F0,bs,G⟩ w) N m ⟨w0,F0,bs,G⟩)(h2:J P y Q N (K++M) ⟨w0,F0,bs,G⟩):J P (.seq x y) Q N m ⟨w0,F0,bs,G⟩ :=
 QA2 _ _ _ h1 h2
theorem SV{x y:Code}(K:Sl)(M:ι->Sl)(B:ι->List (Nat×Obj))(R:ι->Gs->Prop)(hk:Y8 m K)(h1:J P x (ZD λa w=>∃i,JH N (K++M i) a/\St ⟨w0,F0,B i,λF=>G F/\R i F⟩ w) N m ⟨w0,F0,bs,G⟩)
  (h2:∀i,J P y Q N (K++M i) ⟨w0,F0,B i,λF=>G F/\R i F⟩):J P (.seq x y) Q N m ⟨w0,F0,bs,G⟩ :=
 Bh (λi=>K++M i) B (λi F=>G F/\R i F) h1 h2
end
def Td:(1:Int)<B9:=wu
end Go.Proofs.YtpmehagnedbkhaaGreatDoor
