/- Steps of the proof of the theorem in the last file. -/
import Derived.Test.YtbpmnjieoncbcaaGreatDoorP0
import Derived.BigRegion
import Derived.StillTailTactics
import Derived.Deep.DeepCutAuto
import Derived.Deep.CutBlock
import Derived.Lib.AppendStr
import Derived.Lib.Builder
import Derived.Shelf.Strings.Builder1
import Derived.Test.YtbpmnjieoncbcaaGreatDoorChecked
import Derived.Lib.Walk
import Derived.Lib.ItoaMem
import Derived.WalkKit
import Derived.BigCall
import Derived.BigGuard
import Derived.Lib.ItoaNum
import Derived.Lib.Atoi
import Derived.Lib.Repeat
import Derived.Lib.IndexMore
import Derived.Lib.IndexBytes
set_option linter.all false
set_option maxHeartbeats 4000000
open Go.Proofs.Tryz
open Go.Lib renaming hid → aa,decDigits → ae,trimPrefix → ag,run_eql_slice_nil → ar,byteCells → ax,hasPrefix → aB,nDigits → aN,decDigits_length → aS,bitLen → bF,zeros24 → eM,decDigits_one → eY,repeatL → ff,cut → fm,strCells → fQ,itoa → ib,decFrom → ic,byteCells_length → ig,byteCells_append → ij,lt_pow_nDigits → iB,TabIs → iM,strCells_eq → iQ,atoi → iV,indexByte → iX,pow10Tab → lB
open Nat renaming le_trans → ab,lt_of_lt_of_le → aA,le_refl → aE,mul_le_mul_left → aL,lt_or_ge → aR,zero_add → aV,pow_le_pow_right → bK,add_mul → bL,pow_succ → bR,zero_le → eH,pow_le_pow_left → eP,add_assoc → eQ,mul_assoc → fA,add_sub_cancel_left → fF,zero_mul → fL,mul_comm → fM,le_of_ble_eq_true → fR,mul_one → fT,mul_le_mul_right → fU,eq_zero_or_pos → iz,add_sub_cancel → iA,lt_of_not_le → iK,le_max_right → iL,strongRecOn → iO,le_max_left → iP,sub_zero → j7,gcd → j8,ble → j9,pow_one → lH,pow_mul → lI,pow_add → lJ,mul_add → lK
open Int renaming mul_le_mul_of_nonneg_left → af,mul_le_mul_of_nonneg_right → ai,mul_comm → aj,le_of_lt → aC,mul_ediv_add_emod → aD,mul_nonneg → aG,emod_lt_of_pos → aH,emod_nonneg → aK,toNat_natCast → ba,add_mul → bc,pow_succ → bm,natAbs_ediv_le_natAbs → bw,ediv_lt_of_lt_mul → bD,neg_mul → bN,ediv_nonneg → bQ,add_zero → bS,tmod_lt_of_pos → bV,lt_trichotomy → bY,gcd → bZ,mul_zero → ek,mul_ne_zero → eE,sub_mul → eK,one_mul → fe,natCast_pow → fg,natCast_mul → fh,le_antisymm → fi,mul_ediv_cancel_left → fB,eq_ofNat_of_zero_le → fI,ediv_eq_zero_of_lt → fO,add_comm → fP,pow_add → fY,natAbs_of_nonneg → fZ,emod_eq_of_lt → iG,pow_zero → lf,neg_tmod → lk,gcd_comm → lz,emod_one → lA,mul_one → lN,mul_neg → lO,mul_add → lP,le_refl → lQ
open Go.Value renaming bool → ah,int → ak,pointer → av,ownBlock → fj
open List renaming take_of_length_le → ao,length_append → aq,eq_nil_of_length_eq_zero → aI,length_cons → aM,replicate → aO,drop_zero → aP,getElem?_append → aQ,take_succ_cons → aT,drop_succ_cons → aU,take_append_drop → aW,getElem?_eq_none → aX,perm_append_comm_assoc → aY,append_assoc → aZ,length_drop → bh,drop_eq_getElem_cons → bj,take_zero → bC,flatten_append → bP,getElem?_append_left → bX,append_cons → ee,nil_append → ef,isPrefixOf → ei,singleton_append → eB,perm_append_comm → eC,length_singleton → eD,getD → eI,take_succ_eq_append_getElem → eU,flatMap_cons → eV,length_take → e8,getElem_mem → e9,cons_append → fa,length → fb,append_nil → fc,isEmpty_eq_false_iff → fp,getLast?_eq_getElem? → fq,getElem?_eq_getElem → fu,drop_of_length_le → fG,drop_eq_nil_of_le → fH,set_append_right → fN,replicate_succ' → fS,takeWhile_cons → fV,length_flatten → fW,dropWhile_cons → fX,contains_cons → im,drop → iE,all_eq_true → iF,map_cons → iU
open Bool renaming eq_iff_iff → au,and_eq_true → ay,or_eq_false_iff → bJ,false_eq_true → bU,not_eq_false' → eR,true_and → fy,false_or → fz,not_eq_true' → iD,or_eq_true → iN
open Rat renaming divInt → aF,num_intCast → ew,den_intCast → ey,sub_eq_add_neg → iw,neg_divInt_neg → ix,lt_iff → iy,divInt_ofNat → iJ,num_divInt → iS,den_divInt → iT,floor_def → iW,add_def' → iZ,num_pow → lE,inv_def → lF,den_pow → lG
open Go.Builtin renaming zeroCells → aJ,append_ → ir
open Go.Value.slice renaming injEq → bz
open Go.IntWalk renaming i64_in → bA
open Go.Result renaming andThen_ok → bB
open Array renaming size_replicate → bG,ext' → bT,getElem?_eq_none → fD,getElem?_append → fJ,replicate → iI
open And renaming intro → bH
open Go.Utf8 renaming decode → bI
open List.Perm renaming refl → bM
open Option.some renaming injEq → bO
open ByteArray renaming toList → bW,size → eZ,get! → il,ext → iu
open Go.Sem renaming run_pure → ep,run_bind → er
open Go.Proofs renaming enters_of → eu
open Go.World renaming cell? → eF,ownsRow_nil → iq
open Go.Instr renaming sureAddr → eG,loadAt → eT,sliceAt → iR,slice → iY,next → lD
open Go.Obj renaming cells → eN
open UInt8.toNat renaming inj → eO
open Option renaming none → eW
open Go.RowKit.Below renaming heap_alloc → eX,heap_setCell → hJ
open Go.Addr.mk renaming injEq → fk
open Go.Region renaming wanted → fl
open Go.Sort renaming grow → fC
open UInt8 renaming ofNat → fK
open Go.Program renaming arrayLen → ia
open Go.Ending renaming returned → iC
open Go.Extern.AbiNoEscape renaming same → iH
open Go.Lib.decDigits renaming eq_1 → lC
open List.Sublist renaming cons_cons → lL,cons → lM
namespace Go.Proofs.YtbpmnjieoncbcaaGreatDoor
variable{ds o post u:List Int}{B N b cap i j k m n off:Nat}{c:UInt8}{w w':World}{a z:Int}{α γ ι:Type}{x y:Operand}{l s:List UInt8}{F F':Gs}{P:Program}{f:Obj->List (Nat×Obj)}{args cs olds rest:List Value}{T yT:TypeId}{hi:Option Operand}{vh:Option Value}{bs' ob:List (Nat×Obj)}{G0:Gs->Prop}{fn:Func}{fr:Nat×Nat}{aft:Array Edge}{E':Env}
open Go.RowKit Ig
def Yc(u v:List Int)(n:Nat)(q r over:Int):Prop :=
 (0<=q/\q<W)/\(0<=r/\r<W)/\(0<=over/\over<=1)/\q*Qn v (n+1)+r+W*over=Qn u (n+2)*W+Qn u (n+1)/\dv W u<(q+1)*dv W v
abbrev Wu(u v:List Int)(n:Nat):Prop:=Hu W u v n
theorem Hu.qd{v:List Int}(h:Wu u v n)(hge:Qn v (n+1)<=Qn u (n+2)):
  Yc u v n (W-1) (XV (Qn u (n+1)) (Qn v (n+1)) 0) (Xx (Qn u (n+1)) (Qn v (n+1)) 0):=by
 have e:Qn u (n+2)=Qn v (n+1):=fi (Hu.top Ni h) hge;obtain⟨a,b,c⟩:=G4 (Jf h.hu (n+1)) (Jf h.hv (n+1)) (by decide:(0:Int)<=0/\(0:Int)<=1);refine⟨wu,b,c,?_,?_⟩
 ·rw[e];grind
 have:=h.lt;rw[show W-1+1=W from by omega];exact this
theorem Hu.qf{v:List Int}(h:Wu u v n)(hlt:Qn u (n+2)<Qn v (n+1)):
  Yc u v n (OE (Qn u (n+2)) (Qn u (n+1)) (Qn v (n+1))) (qp (Qn u (n+2)) (Qn u (n+1)) (Qn v (n+1))) 0:=by
 obtain⟨a1,a2,a3⟩:=Kv Ni h.hu h.lu;obtain⟨b1,b2,b3⟩:=Wd Ni h.hv h.lv;have d0:=Jf h.hu (n+2);have d1:=Jf h.hu n;have d2:=Jf h.hu (n+1);have d3:=Jf h.hv n;have d4:=Jf h.hv (n+1);have hp:=pow_pos Ju n;have hz:=h.nz;have hW:=Ju;unfold OE qp;unfold Yc;rw[a1,b1];generalize W^n=D at *
 generalize dv W (v.take n)=v' at *
 generalize dv W (u.take n)=u' at *
 generalize Qn u (n+2)=u0 at *
 generalize Qn u (n+1)=u1 at *
 generalize Qn u n=u2 at *
 generalize Qn v (n+1)=v1 at *
 generalize Qn v n=v2 at *
 have m0:0<=u0*W:=aG d0.1 O;have m1:(u0+1)*W<=v1*W:=ai O O;have q1:=aD (u0*W+u1) v1;have q2:=aK (u0*W+u1) (by omega:v1≠0);have q3:=aH (u0*W+u1) hz;have q4:0<=(u0*W+u1)/v1:=bQ O O;have q5:(u0*W+u1)/v1<W:=by
  refine bD hz ?_;rw[bc]at m1;rw[aj W v1];omega
 generalize (u0*W+u1)/v1=q at *
 generalize (u0*W+u1)%v1=r at *
 refine⟨⟨q4,q5⟩,⟨q2,O⟩,O,by rw[aj q v1];omega,?_⟩;have k1:(u0*W+u1+1)<=(q+1)*v1:=by rw[bc,aj q v1];omega
 have k2:(u0*W+u1+1)*(W*D)<=(q+1)*v1*(W*D):=ai k1 (aG O O);have k3:0<=(q+1)*(v2*D):=aG O (aG d3.1 O);have k4:0<=(q+1)*v':=aG O b2;have k5:(u2+1)*D<=W*D:=ai O O
 grind
theorem Yc.less{v:List Int}{q r:Int}(h:Wu u v n)(g:Yc u v n q r 0)(hb:r*W+Qn u n<q*Qn v n):
  Yc u v n (q-1) (XV r (Qn v (n+1)) 0) (Xx r (Qn v (n+1)) 0):=by
 obtain⟨g1,g2,g3,g4,g5⟩:=g;obtain⟨a1,a2,a3⟩:=Kv Ni h.hu h.lu;obtain⟨b1,b2,b3⟩:=Wd Ni h.hv h.lv;obtain⟨a,b,c⟩:=G4 g2 (Jf h.hv (n+1)) (by decide:(0:Int)<=0/\(0:Int)<=1);have hp:=pow_pos Ju n;have d1:=Jf h.hu n;have d3:=Jf h.hv n;have q1:1<=q:=by
  refine Int.not_lt.1 λhc=>?_;have:q=0:=O;subst this;have:0<=r*W:=aG g2.1 wu;omega
 refine⟨O,b,c,?_,?_⟩
 ·have:(q-1)*Qn v (n+1)=q*Qn v (n+1)-Qn v (n+1):=by grind
  omega
 rw[show q-1+1=q from by omega,a1,b1];refine FX b2 a3 hp O ?_;generalize Qn u (n+2)=u0 at *
 generalize Qn u (n+1)=u1 at *
 generalize Qn u n=u2 at *
 generalize Qn v (n+1)=v1 at *
 generalize Qn v n=v2 at *
 have e:q*(v1*W+v2)=(q*v1+r)*W-r*W+q*v2:=by grind
 have e2:q*v1+r=u0*W+u1:=O;rw[e,e2];omega
theorem Yc.fin{v:List Int}{q r over:Int}(h:Wu u v n)(g:Yc u v n q r over)(hb:over=0->q*Qn v n<=r*W+Qn u n):
  (q-1)*dv W v<=dv W u/\dv W u<(q+1)*dv W v:=by
 obtain⟨g1,g2,g3,g4,g5⟩:=g;refine⟨?_,g5⟩;obtain⟨a1,a2,a3⟩:=Kv Ni h.hu h.lu;obtain⟨b1,b2,b3⟩:=Wd Ni h.hv h.lv;have hp:=pow_pos Ju n;have d1:=Jf h.hu n;have d3:=Jf h.hv n;have d4:=Jf h.hv (n+1);have hz:=h.nz;rw[a1,b1];have hR:q*Qn v n<=(r+W*over)*W+Qn u n:=by
  have:over=0\/over=1:=O;rcases this with rfl | rfl
  ·simpa using hb rfl
  have k1:q*Qn v n<=W*W:=Int.mul_le_mul O O d3.1 wu;have k2:0<=r*W:=aG g2.1 wu;have e:(r+W*1)*W=r*W+W*W:=by grind
  rw[e];omega
 refine CL hp b3 a2 g1.1 ?_ ?_ b2
 ·generalize Qn u (n+2)=u0 at *
  generalize Qn u (n+1)=u1 at *
  generalize Qn u n=u2 at *
  generalize Qn v (n+1)=v1 at *
  generalize Qn v n=v2 at *
  rw[<-g4]
  grind
 have k1:1*W<=Qn v (n+1)*W:=ai O wu;omega
def Es(u v:List Int)(q:Int)(k:Nat)(ds:List Int)(b c:Int):Prop :=
 ds.length=k/\DG W ds/\(0<=b/\b<=1)/\(0<=c/\c<W)/\dv W ds-W^k*(b+c)=dv W (u.take k)-q*dv W (v.take k)
def Es.start(u v:List Int)(q:Int):Es u v q 0 [] 0 0:=⟨rfl,DG.nil _,wu,wu,wz⟩
theorem Es.step{v:List Int}{q b c:Int}(h:Es u v q k ds b c)(hu:DG W u)(hv:DG W v)(hq:0<=q/\q<W):
  Es u v q (k+1) (ds++[Zf (Qn u k) (XV (XC q (Qn v k)) c 0) b]) (Vi (Qn u k) (XV (XC q (Qn v k)) c 0) b)
   (X4 q (Qn v k)+Xx (XC q (Qn v k)) c 0):=by
 obtain⟨h1,h2,h3,h4,h5⟩:=h;obtain⟨_,m1,m2,m3,m4,_,_⟩:=Ny hq (Jf hv k) h4 (by decide:(0:Int)<=0/\(0:Int)<W);obtain⟨a1,_,_⟩:=G4 m1 h4 (by decide:(0:Int)<=0/\(0:Int)<=1);obtain⟨s1,s2,s3⟩:=D6 (Jf hu k) m2 h3;have e1:XC q (Qn v k)+W*X4 q (Qn v k)=q*Qn v k:=by unfold XC X4;rw[fP];exact aD _ _
 refine⟨by simp[h1],h2.append (DG.cons s2.1 s2.2 (DG.nil _)),s3,m3,?_⟩;rw[X6,h1,XQ,XQ,bm];generalize XC q (Qn v k)=lo at *
 generalize X4 q (Qn v k)=hi at *
 generalize Xx lo c 0=ch at *
 generalize XV lo c 0=cl at *
 generalize Vi (Qn u k) cl b=sh at *
 generalize Zf (Qn u k) cl b=sl at *
 generalize Qn u k=a at *
 generalize Qn v k=x at *
 have e2:W^k*(sl-W*sh)=W^k*(a-cl-b):=by rw[s1]
 have e3:W^k*(cl+W*ch)=W^k*(lo+c+0):=by rw[a1]
 have e4:W^k*(lo+W*hi)=W^k*(q*x):=by rw[e1]
 grind
theorem yI{v:List Int}{q b c:Int}(h:Wu u v n)(m:Es u v q (n+2) ds b c)(hq:(q-1)*dv W v<=dv W u/\dv W u<(q+1)*dv W v)
  (hb:Vi (Qn u (n+2)) c b=0) :
  DG W (ds++[Zf (Qn u (n+2)) c b])/\q=dv W u/dv W v/\dv W (ds++[Zf (Qn u (n+2)) c b])=dv W u%dv W v:=by
 obtain⟨h1,h2,h3,h4,h5⟩:=m;obtain⟨s1,s2,s3⟩:=D6 (Jf h.hu (n+2)) h4 h3;rw[ao (by have:=h.lv;omega:v.length<=n+2)]at h5;have e:=XQ u (n+2);rw[ao (by have:=h.lu;omega:u.length<=n+2+1)]at e;have hD:DG W (ds++[Zf (Qn u (n+2)) c b]):=h2.append (DG.cons s2.1 s2.2 (DG.nil _));have h0:=JG Ju hD;have hvp:0<dv W v:=by
  have:=h.lt;have:=JG Ju h.hu;refine Int.not_le.1 λhc=>?_;have:W*dv W v<=W*0:=af hc wu;omega
 have hv:dv W (ds++[Zf (Qn u (n+2)) c b])=dv W u-q*dv W v:=by
  rw[X6,h1,e];rw[hb]at s1;generalize Zf (Qn u (n+2)) c b=sl at *
  have:W^(n+2)*(sl-W*0)=W^(n+2)*(Qn u (n+2)-c-b):=by rw[s1]
  grind
 rw[hv]at h0 ⊢;refine⟨hD,(YD hvp O hq.2).symm,(YT O hq.2).symm⟩
def dZ{v es:List Int}{q b c k:Int}(h:Wu u v n)(m:Es u v q (n+2) ds b c)(hq:(q-1)*dv W v<=dv W u/\dv W u<(q+1)*dv W v)
  (hb:Vi (Qn u (n+2)) c b=1) (ha:Ml ds v (n+2) es k) :
  q-1=dv W u/dv W v/\dv W es=dv W u%dv W v/\Zf (Qn u (n+2)) c b+k=W:=by
 obtain⟨h1,h2,h3,h4,h5⟩:=m;obtain⟨a1,a2,a3,a4⟩:=ha;obtain⟨s1,s2,s3⟩:=D6 (Jf h.hu (n+2)) h4 h3;rw[ao (by have:=h.lv;omega:v.length<=n+2)]at h5 a4;rw[ao (by omega:ds.length<=n+2)]at a4;have e:=XQ u (n+2);rw[ao (by have:=h.lu;omega:u.length<=n+2+1)]at e;have hvp:0<dv W v:=by
  have:=h.lt;have:=JG Ju h.hu;refine Int.not_le.1 λhc=>?_;have:W*dv W v<=W*0:=af hc wu;omega
 have d1:=Km Ju a2;have d0:=JG Ju a2;have dd0:=JG Ju h2;have dd1:=Km Ju h2;have v1:=Km Ju h.hv;rw[h.lv]at v1;rw[a1]at d1;rw[h1]at dd1;rw[hb]at s1;have hp:=pow_pos Ju (n+2);generalize Zf (Qn u (n+2)) c b=sl at *
 have key:dv W ds+W^(n+2)*(sl-W)=dv W u-q*dv W v:=by
  have s2:W^(n+2)*(sl-W)=W^(n+2)*Qn u (n+2)-W^(n+2)*(b+c):=by
   rw[<-Int.mul_sub];congr 1;omega
  rw[e,s2];omega
 have hneg:dv W u<q*dv W v:=by
  have:W^(n+2)*(sl-W)<=W^(n+2)*(-1):=af O O;omega
 have e1:(q-1)*dv W v=q*dv W v-dv W v:=by rw[eK,fe]
 have e2:(q-1+1)*dv W v=q*dv W v:=by rw[show q-1+1=q from by omega]
 have hR:dv W u-(q-1)*dv W v=dv W es+W^(n+2)*(sl+k-W):=by
  have e3:W^(n+2)*(sl+k-W)=W^(n+2)*(sl-W)+W^(n+2)*k:=by rw[<-lP];congr 1;omega
  omega
 have hk:sl+k=W:=by
  have r0:0<=dv W u-(q-1)*dv W v:=O;have r1:dv W u-(q-1)*dv W v<W^(n+2):=O;rw[hR]at r0 r1;rcases bY (sl+k) W with g | g | g
  ·have:W^(n+2)*(sl+k-W)<=W^(n+2)*(-1):=af O O;omega
  ·exact g
  have:W^(n+2)*1<=W^(n+2)*(sl+k-W):=af O O;omega
 refine⟨(YD hvp O (by rw[e2];exact hneg)).symm,?_,hk⟩;rw[YT (q:=q-1) O (by rw[e2];exact hneg),hR,hk];simp
structure DO(B:Nat)(w w':World):Prop where
 os:w'.os=w.os
 tape:w'.tape=w.tape
 output:w'.output=w.output
 size:w.heap.size<=w'.heap.size
 block:∀k,k<w.heap.size->k≠B->w'.heap[k]?=w.heap[k]?
def DO.refl(B:Nat)(w:World):DO B w w:=⟨rfl,rfl,rfl,aE _,λ_ _ _=>rfl⟩
theorem DO.QBE(B:Nat)(h:Ext w w'):DO B w w':=⟨h.os,h.tape,h.output,h.size,λk hk _=>h.block k hk⟩
theorem DO.trans{a b c:World}(h:DO B a b)(k:DO B b c):DO B a c :=
 ⟨k.os.trans h.os,k.tape.trans h.tape,k.output.trans h.output,ab h.size k.size,λi hi hn=>(k.block i (aA hi h.size) hn).trans (h.block i hi hn)⟩
def DO.ext{a b c:World}(h:DO B a b)(k:Ext b c):DO B a c:=h.trans (DO.QBE B k)
def DO.drew{a b:World}(h:DO B a b):DO B a b.drew:=⟨h.os,h.tape,h.output,h.size,h.block⟩
def DO.setCell{a b:World}(h:DO B a b)(off:Nat)(v:Value):DO B a (b.setCell ⟨B,off,none⟩ v) :=
 h.trans ⟨rfl,rfl,rfl,by simp[World.setCell],λk _ hn=>hJ _ _ _ _ hn⟩
theorem DO.QAf{a b c:World}(h:DO B b c)(k:Ext a b)(hB:a.heap.size<=B):Ext a c :=
 ⟨h.os.trans k.os,h.tape.trans k.tape,h.output.trans k.output,ab k.size h.size,λi hi=>(h.block i (aA hi k.size) O).trans (k.block i hi)⟩
def DO.cell(h:DO B w w'){p:Addr}{v:Value}(hp:p.block≠B)(hv:w.cell? p=some v):w'.cell? p=some v:=by
 rw[World.cell?_of_block (w:=w) (h.block p.block (World.block_lt_of_cell? w p hv) hp)];exact hv
theorem DO.cells[Inhabited α]{B:Nat}{w w':World}(h:DO B w w'){q:Option Addr}{enc:E5 α}{l:List α}(hq:∀a,q=some a->a.block≠B)(hc:Cells w q enc l):Cells w' q enc l:=by
 intro i hi;obtain⟨b,off,h1,h2,h3⟩:=hc i hi;exact⟨b,off,h1,(by obtain⟨c,fr,e⟩:=id h2;exact⟨c,fr,by rw[h.block b h2.lt (show b≠B from hq ⟨b,off,none⟩ h1)];exact e⟩),h.cell (p:=⟨b,off+i,none⟩) (show b≠B from hq ⟨b,off,none⟩ h1) h3⟩
def DO.Hy{E:Nat}(h:DO B w w'){enc:E5 α}{l:List α}(hb:b≠B)(k:Y5 w b E enc l):Y5 w' b E enc l:=by
 unfold Y5;rw[h.block b k.lt hb];exact k
def Lr{pre r:List Int}{x:Int}(hj:pre.length=j)(hk:ds.length=k):(pre++((ds++x::r)++post)).getD (j+k) default=x:=by
 subst hj hk;simp[eI]
def Lq{pre r:List Int}{x:Int}(hj:pre.length=j)(hk:ds.length=k):j+k<(pre++((ds++x::r)++post)).length:=by
 subst hj hk;simp
def Nz{pre r:List Int}{x:Int}(hj:pre.length=j)(hk:ds.length=k)(y:Int):(pre++((ds++x::r)++post)).set (j+k) y=pre++((ds++y::r)++post):=by
 subst hj;rw[fN _ _ O,fF,aZ,fa,Gk _ _ _ _ _ hk,aZ,fa]
theorem Ly{l:List Int}(h:DG W l)(hn:NZ l)(h1:W^n<=dv W l)(h2:dv W l<W^(n+1)):l.length=n+1:=by
 have a:=Km Ju h;have hl:l≠[]:=by rintro rfl;have:=pow_pos Ju n;simp at h1;omega
 have b:=Rs Ju h hn hl;have hlen:0<l.length:=List.length_pos_iff.2 hl;rcases Nat.lt_trichotomy l.length (n+1)with g | g | g
 ·have:=Xz (b:=W) wu (m:=l.length) (n:=n) O;omega
 ·exact g
 have:=Xz (b:=W) wu (m:=n+1) (n:=l.length-1) O;omega
def ub(la:List Int)(y:Int)(k:Nat)(qs:List Int)(r:Int):Prop :=
 qs.length+k=la.length/\DG W qs/\(0<=r/\r<y)/\dv W (la.drop k)=y*dv W qs+r
theorem ub.step{la qs:List Int}{y r:Int}(h:ub la y (k+1) qs r)(ha:DG W la)(hy:0<y/\y<W):
  ub la y k (OE r (Qn la k) y::qs) (qp r (Qn la k) y):=by
 obtain⟨h1,h2,h3,h4⟩:=h;have hd:=Jf ha k;have m0:0<=r*W:=aG h3.1 wu;have m1:(r+1)*W<=y*W:=ai O wu;have q1:=aD (r*W+Qn la k) y;have q2:=aK (r*W+Qn la k) (by omega:y≠0);have q3:=aH (r*W+Qn la k) hy.1;have q4:0<=(r*W+Qn la k)/y:=bQ O O;have q5:(r*W+Qn la k)/y<W:=by
  refine bD hy.1 ?_;rw[bc]at m1;rw[aj W y];omega
 refine⟨w6,DG.cons q4 q5 h2,⟨q2,q3⟩,?_⟩;rw[Xo O,VV,VV,h4];unfold OE qp;generalize (r*W+Qn la k)/y=q at *
 generalize (r*W+Qn la k)%y=t at *
 grind
def WU(U V:Int)(n k m:Nat)(o qs:List Int):Prop :=
 o.length=m+1/\DG W o/\qs.length+k=m-(n+2)+1/\DG W qs/\U=V*(W^k*dv W qs)+dv W o/\dv W o<W^k*V
def WU.start{s:Nat}{A B:Int}(ho:o.length=m+1)(hd:DG W o)(hv:dv W o=A*p2 s)(hs:s<64)(hA:A<W^m)
  (hB:W^(n+1)*9223372036854775808<=B*p2 s) (hm:n+2<=m):WU (A*p2 s) (B*p2 s) n (m-(n+2)+1) m o []:=by
 refine⟨ho,hd,wz,DG.nil _,by simp[hv],?_⟩;rw[hv];have hp:=cG hs;have hp0:=YX s;have k1:A*p2 s<W^m*p2 s:=Int.mul_lt_mul_of_pos_right hA hp0;have k2:W^m*p2 s<=W^m*9223372036854775808:=af (wk G5) (aC (pow_pos Ju m));have k3:W^(m-(n+2)+1)*(W^(n+1)*9223372036854775808)<=W^(m-(n+2)+1)*(B*p2 s):=af hB (aC (pow_pos Ju _));have e:W^(m-(n+2)+1)*(W^(n+1)*9223372036854775808)=W^m*9223372036854775808:=by
  rw[<-Int.mul_assoc,<-fY,show m-(n+2)+1+(n+1)=m from by omega]
 omega
theorem WU.QAN{U V:Int}{qs v:List Int}(h:WU U V n (j+1) m o qs)(hv:DG W v)(lv:v.length=n+2)(nz:0<Qn v (n+1))(hV:dv W v=V)(_hm:n+2<=m):
  ∃pre u post,o=pre++(u++post)/\pre.length=j/\Wu u v n/\dv W post=0/\post.length=m-(j+n+2)/\j+n+2<=m:=by
 obtain⟨h1,h2,h3,h4,h5,h6⟩:=h;have hj:j+n+2<=m:=O;have e1:o=o.take j++((o.drop j).take (n+3)++(o.drop j).drop (n+3)):=by rw[aW,aW]
 have l1:(o.take j).length=j:=by rw[e8];omega
 have l2:((o.drop j).take (n+3)).length=n+3:=by rw[e8,bh];omega
 have l3:((o.drop j).drop (n+3)).length=m-(j+n+2):=by rw[bh,bh];omega
 have d1:DG W (o.take j):=h2.take j;have d2:DG W ((o.drop j).take (n+3)):=(h2.drop j).take _;have d3:DG W ((o.drop j).drop (n+3)):=(h2.drop j).drop _;have e2:dv W o=dv W (o.take j)+W^j*(dv W ((o.drop j).take (n+3))+W^(n+3)*dv W ((o.drop j).drop (n+3))):=by
  rw[Vj W o j O,Vj W (o.drop j) (n+3) (by rw[bh];omega)]
 generalize o.take j=pre at *
 generalize (o.drop j).take (n+3)=u at *
 generalize (o.drop j).drop (n+3)=post at *
 have n1:=JG Ju d1;have n2:=JG Ju d2;have n3:=JG Ju d3;have hp:=pow_pos Ju j;have vlt:=Km Ju hv;rw[lv,hV]at vlt;have e3:W^(j+1)*V=W^j*(W*V):=by rw[bm];grind
 have hU:dv W u+W^(n+3)*dv W post<W*V:=by
  refine Int.not_le.1 λhc=>?_;have:=af hc (aC hp);omega
 have hpost:dv W post=0:=by
  refine fi (Int.not_lt.1 λhc=>?_) n3;have k1:W^(n+3)*1<=W^(n+3)*dv W post:=af O (aC (pow_pos Ju _));have k2:W*V<=W*W^(n+2):=af O wu;have k3:W^(n+3)=W*W^(n+2):=by rw[bm];grind
  omega
 refine⟨pre,u,post,e1,l1,⟨d2,hv,l2,lv,nz,?_⟩,hpost,l3,hj⟩;rw[hpost]at hU;rw[hV];simpa using hU
theorem WU.step{U V:Int}{pre u qs v u':List Int}(h:WU U V n (j+1) m (pre++(u++post)) qs)(lj:pre.length=j)(lu:u.length=n+3)
  (hd':DG W u') (lu':u'.length=n+3) (hV:dv W v=V) (hVp:0<V) (hpost:dv W post=0) (hq:dv W u/dv W v<W) (hu0:0<=dv W u) (hval:dv W u'=dv W u%dv W v) :
  WU U V n j m (pre++(u'++post)) (dv W u/dv W v::qs):=by
 obtain⟨h1,h2,h3,h4,h5,h6⟩:=h;rw[hV]at *
 have q0:0<=dv W u/V:=bQ hu0 O;have q1:=aD (dv W u) V;have r0:=aK (dv W u) (by omega:V≠0);have r1:=aH (dv W u) hVp;have dpre:DG W pre:=h2.left;have dpost:DG W post:=h2.right.right;have p1:=Km Ju dpre;rw[lj]at p1;have hp:=pow_pos Ju j;rw[YC,YC,lj,hpost]at h5 h6;refine⟨by simp at h1 ⊢;omega,dpre.append (hd'.append dpost),w6,DG.cons q0 hq h4,?_,?_⟩
 ·rw[YC,YC,lj,hpost,VV,hval,h5,bm];generalize dv W u/V=q at *
  generalize dv W u%V=r at *
  have e:W^j*(V*q+r)=W^j*dv W u:=by rw[q1]
  grind
 rw[YC,YC,lj,hpost,hval];have k1:W^j*(dv W u%V+1)<=W^j*V:=af O O;rw[lP]at k1;simp only[ek,bS];omega
def Vh(o:List Int)(s k:Nat)(ds:List Int):Prop :=
 ds.length=k/\DG W ds/\dv W ds*p2 s+Qn o 0%p2 s=dv W (o.take k)+W^k*(Qn o k%p2 s)
def Vh.start(o:List Int)(s:Nat):Vh o s 0 []:=⟨rfl,DG.nil _,wz⟩
def Oo{x:Int}{s:Nat}(hs:s<64)(hx:0<=x/\x<W):0<=x/p2 s/\x/p2 s<p2 (64-s):=by
 refine⟨bQ hx.1 (aC (YX s)),bD (YX s) ?_⟩;rw[Gp hs];exact hx.2
theorem Vh.step{s:Nat}(h:Vh o s k ds)(ho:DG W o)(hs:s<64)(hs0:0<s):
  Vh o s (k+1) (ds++[Qn o k/p2 s+Qn o (k+1)*p2 (64-s)%W]):=by
 obtain⟨h1,h2,h3⟩:=h;have hx:=Jf ho k;have b:=Oo hs hx;obtain⟨_,c⟩:=UE (x:=Qn o (k+1)) (s:=64-s) O b.1 b.2;have hy:0<=Qn o (k+1)*p2 (64-s)%W:=aK _ wu;refine⟨by simp[h1],h2.append (DG.cons O c (DG.nil _)),?_⟩;rw[X6,h1,XQ,bm];have e1:Qn o (k+1)*p2 (64-s)%W=p2 (64-s)*(Qn o (k+1)%p2 s):=by
  have:=Oq (x:=Qn o (k+1)) (s:=64-s) O;rw[show 64-(64-s)=s from by omega]at this;exact this
 rw[e1];have e2:=aD (Qn o k) (p2 s);have e3:=Gp hs;generalize Qn o k/p2 s=a at *
 generalize Qn o k%p2 s=b' at *
 generalize Qn o (k+1)%p2 s=c' at *
 have e4:W^k*(p2 s*a+b')=W^k*Qn o k:=by rw[e2]
 have e5:W^k*(p2 (64-s)*p2 s)*c'=W^k*W*c':=by rw[e3]
 grind
def Vh.um(h:Vh o 0 k ds)(ho:DG W o):Vh o 0 (k+1) (ds++[Qn o k/p2 0]):=by
 obtain⟨h1,h2,h3⟩:=h;have hx:=Jf ho k;simp only[UD,lA,Int.ediv_one,lN,ek,bS]at *
 exact⟨by simp[h1],h2.append (DG.cons hx.1 hx.2 (DG.nil _)),by simp only[UD,lA,lN,ek,bS];rw[X6,h1,h3,XQ]⟩
theorem p9{qs:List Int}{s:Nat}{A B:Int}(h:WU (A*p2 s) (B*p2 s) n 0 m o qs)(hs:s<64)(hB:0<B)(hBn:B*p2 s<W^(n+2))(hm:n+2<=m)
  (hr:Vh o s (n+2) ds):dv W qs=A/B/\dv W ds=A%B:=by
 obtain⟨h1,h2,h3,h4,h5,h6⟩:=h;obtain⟨r1,r2,r3⟩:=hr;simp only[lf,fe]at h5 h6;have hp:=YX s;have n0:=JG Ju h2;have e2:=Vj W o (n+2) O;have t0:=JG Ju (h2.take (n+2));have t1:=JG Ju (h2.drop (n+2));have z:dv W (o.drop (n+2))=0:=by
  refine fi (Int.not_lt.1 λhc=>?_) t1;have k1:W^(n+2)*1<=W^(n+2)*dv W (o.drop (n+2)):=af O (aC (pow_pos Ju _));omega
 have zd:Qn o (n+2)=0:=by
  have e3:=Xo (l:=o) (k:=n+2) O;rw[e3,VV]at z;have d0:=Jf h2 (n+2);have d1:=JG Ju (h2.drop (n+2+1));have d2:0<=W*dv W (o.drop (n+2+1)):=aG wu d1;omega
 rw[zd,Int.zero_emod,ek,bS]at r3;rw[z,ek,bS]at e2;have hmod:Qn o 0%p2 s=0:=by
  have f1:dv W o=Qn o 0+W*dv W (o.drop 1):=by
   have:=Xo (l:=o) (k:=0) O;rw[aP]at this;rw[congrArg (dv W) this,VV]
  have f2:dv W o=p2 s*(A-B*dv W qs):=by grind
  have f3:Qn o 0=p2 s*(A-B*dv W qs-p2 (64-s)*dv W (o.drop 1)):=by
   have:=Gp hs;have e:Qn o 0=p2 s*(A-B*dv W qs)-W*dv W (o.drop 1):=O;rw[e,<-this];grind
  rw[f3];exact Int.mul_emod_right _ _
 rw[hmod,bS,<-e2]at r3;have key:A=B*dv W qs+dv W ds:=by
  have:p2 s*A=p2 s*(B*dv W qs+dv W ds):=by rw[aj,h5,<-r3];grind
  exact Int.eq_of_mul_eq_mul_left O this
 have hlt:dv W ds<B:=by
  refine Int.not_le.1 λhc=>?_;have:=ai hc (aC hp);omega
 have hds:=JG Ju r2;have g1:dv W qs*B<=A:=by rw[aj];omega
 have g2:A<(dv W qs+1)*B:=by rw[bc,aj (dv W qs)];omega
 exact⟨(YD hB g1 g2).symm,by rw[YT g1 g2,aj (dv W qs)];omega⟩
def Ux(A B:Int)(r:Value)(w':World):Prop :=
 ∃p p' lq lr,r = .tuple #[p,p']/\SL w' p Jj lq/\SL w' p' Jj lr/\(DG W lq/\NZ lq)/\(DG W lr/\NZ lr)/\dv W lq=A/B/\dv W lr=A%B
def BP{x y:Int}(h:y<=x):0<=YE x y:=by unfold YE;split<;>(try split)<;>omega
theorem F3(v v':Value)(la lb:List Int)(w:World)(ha:DG W la)(hb:DG W lb)(na:NZ la)(nb:NZ lb)(hs:SL w v Jj la)(hs':SL w v' Jj lb)(hlt:dv W la<dv W lb):
  Calls prog 229 #[v,v'] w λe w'=>Zh w (Ux (dv W la) (dv W lb)) e w':=by
 have H3:=aa (Gz hlt);have H0:=aa (JG Ju ha);have HL:=aa hlt;clear hlt;go_enter func229,ntmps229
 go_wp2_with (go_at_call 222;refine(Zu _ _ _ _ _ ha hb na nb hs hs').mono ?_;rw[H3.out];rintro e w' ⟨rfl,hx⟩)
 go_ret2
 exact⟨_,rfl,⟨_,_,[],la,rfl,SL.nil _ _,hs.ext hx,⟨DG.nil _,by simp[NZ]⟩,⟨ha,na⟩,(fO H0.out HL.out).symm,(iG H0.out HL.out).symm⟩,hx⟩
def Ae(x z:α)(k:Nat)(qs:List α):(aO (k+1) z++qs).set k x=aO k z++x::qs:=by
 rw[fS,aZ,fN _ _ wz];simp
set_option maxRecDepth 100000 in
set_option maxHeartbeats 800000 in
theorem OC(v:Value)(q':Option Addr)(cap':Nat)(la:List Int)(y:Int)(w:World)(ha:DG W la)(hy:0<y/\y<W)(na:NZ la)(hs:SL w v Jj la)(hs':SL w (.slice q' 1 cap') Jj [y])(hge:y<=dv W la)(h1:la.length<=100000000000):
  Calls prog 229 #[v,.slice q' 1 cap'] w λe w'=>Zh w (Ux (dv W la) y) e w':=by
 have H3:0<=YE (dv W la) y:=BP hge;have hb:DG W [y]:=DG.cons O hy.2 (DG.nil _);have nb:NZ [y]:=by simp[NZ];omega
 have HS:=aa hs;obtain⟨q,cap,rfl,hcap,hmax,hca⟩:=hs;have HA:=aa hca;have HS':=aa hs';obtain⟨q2,cap2,e2,hcap2,hmax2,hcb⟩:=hs';obtain⟨by1,oy,hq,hby,hcy⟩:=hcb 0 wz;simp only[aM,List.length_nil,bz]at e2;obtain⟨rfl,_,rfl⟩:=e2;subst hq;have hcy:w.cell? ⟨by1,oy,none⟩=some (.int .u64 y):=by simpa[Jj]using hcy
 have hmk:=λw=>Yh la.length O w;clear hca hcb;go_enter func229,ntmps229
 go_wp2_with (go_at_call 222;refine(Zu _ _ _ _ _ ha hb na nb HS.out HS'.out).mono ?_;rintro e w1 ⟨rfl,hx1⟩)
 go_loopw [8,7] (λi r wr=>∃(k:Nat) (qs:List Int) (rr:Int),k<=la.length/\i = .int .i64 ((k:Int)-1)/\r = .int .u64 rr/\ub la y k qs rr/\Y5 wr w1.heap.size 256 Jj (aO k 0++qs)/\Ext w1 wr)
  (λi _ _=>(intOf i+1).toNat)
 case atStart=>exact⟨la.length,[],0,aE _,rfl,rfl,⟨wz,DG.nil _,⟨lQ _,hy.1⟩,wz⟩,by rw[fc];exact Y5.made w1 _ Jj 0 _ _ I,(Ext.refl _).alloc _⟩
 case round =>
  obtain⟨k,qs,rr,hk,rfl,rfl,hI,hB,hE⟩:=hrel;clear hmk;cases k with
  |zero =>
   obtain⟨i1,i2,i3,i4⟩:=hI;have hW:=G5;have hdr:DG W [rr]:=DG.cons i3.1 O (DG.nil _);simp only[List.replicate_zero,ef]at hB;have hSL:=SL.BG hB la.length O O;rw[ao O,show qs.length=la.length from by omega]at hSL;have HSL:=aa hSL;have HB:=aa hB;have HF:Hid (dv W qs=dv W la/y/\rr=dv W la%y):=by
    rw[aP]at i4;have g1:dv W qs*y<=dv W la:=by rw[aj];omega
    have g2:dv W la<(dv W qs+1)*y:=by rw[bc,aj (dv W qs)];omega
    exact⟨(YD hy.1 g1 g2).symm,by rw[YT g1 g2,aj (dv W qs)];omega⟩
   clear hSL hB i1 i4 hW;go_wp2_with fail
   refine(VH _ _ _ HSL.out).mono ?_;rintro e w' ⟨⟨v1,rfl,hv1⟩,rfl⟩;go_wp2_with fail
   refine(VH _ [rr] _ ⟨_,1,rfl,aE _,wu,(Y5.new _ 256 Jj [rr] _ I).row.cells (Y5.new _ 256 Jj [rr] _ I).RY⟩).mono ?_;rintro e w' ⟨⟨v2,rfl,hv2⟩,rfl⟩;go_wp2
   go_ret2
   refine⟨_,rfl,⟨_,_,_,_,rfl,hv1.ext ((Ext.refl _).alloc _),hv2,⟨i2.Je,Zv _⟩,⟨hdr.Je,Zv _⟩,by rw[ZE];exact HF.out.1,by rw[ZE];simpa using HF.out.2⟩,(hx1.trans hE).alloc _⟩
  |succ k =>
   have hlt:k<la.length:=O;have hst:=hI.step ha hy;obtain⟨i1,i2,i3,i4⟩:=hI;obtain⟨b,off,rfl,hba,hc⟩:=HA.out k hlt;rw[Z8 hlt]at hc;simp only[Jj]at hc;have hx2:=hx1.trans hE;have hc:=hx2.cell hc;have hcy2:=hx2.cell hcy;have hx:=Jf ha k;have hlen:k<(aO (k+1) 0++qs).length:=w6;have hcell:=hB.cell hlen;have hz:(aO (k+1) (0:Int)++qs).getD k default=0:=by simp[eI,bX]
   rw[hz]at hcell;simp only[Jj]at hcell;have hfr:=hB.frozen k;have HB:=aa hB;have HST:=aa hst;have e1:((k+1:Nat):Int)-1=(k:Int):=O;have hk0:(0:Int)<=(k:Int):=O;have hk1:(k:Int)<(la.length:Int):=O;have hbne:b≠w1.heap.size:=wk<|aA hba.lt hx1.size
   have hyne:by1≠w1.heap.size:=wk<|aA hby.lt hx1.size
   clear hB hlen hz hst i4 i1;rw[e1];clear e1;go_wp2
   go_region_held3 (λw'=>w'.cell? ⟨b,off+k,none⟩=some (.int .u64 (Qn la k))/\w'.cell? ⟨by1,oy,none⟩=some (.int .u64 y))
    (first | exact⟨hdx.cell hc,hdx.cell hcy2⟩ | exact⟨Xw hbne (hdx.cell hc),Xw hyne (hdx.cell hcy2)⟩ | go_keep)
    (first | (go_at_call 256;refine(TV _ _ _ _ i3 hx hy.2).mono ?_;rintro e w' ⟨rfl,hdx⟩;have hcell':=hdx.cell hcell;have hfr':=(HB.out.ext (((Ext.refl _).drewN _).trans hdx)).frozen k))
   have hBs:=(HB.out.ext (((Ext.refl _).drewN _).trans hdx)).set k (OE rr (Qn la k) y);rw[Ae]at hBs;have HBs:=aa hBs;clear hBs;go_wp2
   go_roundw
   case rel=>exact⟨k,_,_,O,by go_num,rfl,HST.out,HBs.out,(hE.trans (((Ext.refl _).drewN _).trans hdx)).X1 (aE _) _⟩
   case measure=>simp[intOf]
structure Wv(w:World)(u v pre post:List Int)(n j B bv ov:Nat):Prop where
 hB:Y5 w B 256 Jj (pre++(u++post))
 hv:Cells w (some ⟨bv,ov,none⟩) Jj v
def Wv.ext{v pre:List Int}{bv ov:Nat}(h:Wv w u v pre post n j B bv ov)(k:Ext w w'):Wv w' u v pre post n j B bv ov :=
 ⟨h.hB.ext k,h.hv.ext k⟩
def Wv.atu{v pre:List Int}{bv ov:Nat}(h:Wv w u v pre post n j B bv ov)(hj:pre.length=j)(i:Nat)(hi:i<u.length):
  w.cell? ⟨B,j+i,none⟩=some (.int .u64 (Qn u i)):=by
 have h1:=h.hB.cell (i:=j+i) w6;have e:(pre++(u++post)).getD (j+i) default=Qn u i:=by
  rw[YM hi];subst hj;simp only[eI];rw[List.getElem?_append_right O,fF,bX hi,fu hi];rfl
 rw[e]at h1;exact h1
theorem Wv.atv{v pre:List Int}{bv ov:Nat}(h:Wv w u v pre post n j B bv ov)(i:Nat)(hi:i<v.length):
  w.cell? ⟨bv,ov+i,none⟩=some (.int .u64 (Qn v i)):=by
 obtain⟨b,o,e,_,hc⟩:=h.hv i hi;cases e;rw[Z8 hi]at hc;exact hc
set_option maxRecDepth 100000 in
set_option maxHeartbeats 4000000 in
theorem Cz(u v pre post:List Int)(n j B capu capv bv ov:Nat)(w:World)(h:Wu u v n)(hj:pre.length=j)(hmax:n<=100000000000)
  (hM:Wv w u v pre post n j B bv ov) (hne:bv≠B) :
  Calls prog 259 #[.slice (some ⟨B,j,none⟩) (n+3) capu,.slice (some ⟨bv,ov,none⟩) (n+2) capv] w λe w' =>
   (e = .returned (.int .u64 (dv W u/dv W v))/\∃u',Y5 w' B 256 Jj (pre++(u'++post))/\u'.length=n+3/\DG W u'/\dv W u'=dv W u%dv W v)/\DO B w w':=by
 have hlu:=aa h.lu;have hlv:=aa h.lv;have HJ:=aa hj;clear hj;have hw1:IntKind.i64.wrap ((n:Int)+2-1)=(n:Int)+1:=by rw[show(n:Int)+2-1=(n:Int)+1 from by omega];exact bA _ O
 have ht1:((n:Int)+1).toNat=n+1:=O;have h01:0<=(n:Int)+1:=O;have h02:(n:Int)+1<(n:Int)+2:=O;have ht2:((n:Int)+2).toNat=n+2:=O;have h03:0<=(n:Int)+2:=O;have h04:(n:Int)+2<(n:Int)+3:=O;have h05:(n:Int)+1<(n:Int)+3:=O;have hu2:=hM.atu HJ.out (n+2) (wk hlu.out);have hu1:=hM.atu HJ.out (n+1) (wk hlu.out);have hv1:=hM.atv (n+1) (wk hlv.out);have du1:=Jf h.hu (n+1);have du2:=Jf h.hu (n+2);have dv1:=Jf h.hv (n+1);go_enter func259,ntmps259
 go_wp2_with fail
 go_quiet (fail)
 go_upto_if 30 with (fail)
 go_cut [6,7,8] λq r o wx=>∃qq rr oo,q = .int .u64 qq/\r = .int .u64 rr/\o = .int .u64 oo/\Yc u v n qq rr oo/\Ext w wx
 case first =>
  by_cases hge:Qn v (n+1)<=Qn u (n+2)
  ·have HG:=aa (Hu.qd h hge);have ha:=λw=>KG (Qn u (n+1)) (Qn v (n+1)) 0 du1.1 dv1.1 wu wu w;go_wp2
   go_quiet (fail)
   go_wp2
   go_meet
   exact⟨_,_,_,rfl,rfl,rfl,HG.out,(((Ext.refl w).drewN _).drewN _)⟩
  have HG:=aa (Hu.qf h O);have hdy:Qn v (n+1)<W:=dv1.2;have hdh:0<=Qn u (n+2)/\Qn u (n+2)<Qn v (n+1):=⟨du2.1,O⟩;go_wp2
  go_region_held3 (λw'=>w'.cell? ⟨B,j+(n+2),none⟩=some (.int .u64 (Qn u (n+2)))/\w'.cell? ⟨B,j+(n+1),none⟩=some (.int .u64 (Qn u (n+1)))/\w'.cell? ⟨bv,ov+(n+1),none⟩=some (.int .u64 (Qn v (n+1))))
   (first | go_keep | exact⟨hx.cell hu2,hx.cell hu1,hx.cell hv1⟩)
   (first | (go_at_call 256;refine(TV _ _ _ _ hdh du1 hdy).mono ?_;rintro e w' ⟨rfl,hx⟩))
  go_wp2
  go_meet
  exact⟨_,_,_,rfl,rfl,rfl,HG.out,((Ext.refl w).drewN _).trans hx⟩
 case rest =>
  obtain⟨q1,r1,o1,rfl,rfl,rfl,hG,hE⟩:=hcut;have HM0:=aa hM;clear hu2 hu1 hv1 du1 du2 hM;go_upto_block 0 with (fail)
  go_cut [6] λq wx=>∃qq,q = .int .u64 qq/\(0<=qq/\qq<W)/\((qq-1)*dv W v<=dv W u/\dv W u<(qq+1)*dv W v)/\Ext w wx
  case first =>
   have hw2:IntKind.i64.wrap ((n:Int)+2-2)=(n:Int):=by rw[show(n:Int)+2-2=(n:Int)from by omega];exact bA _ O
   have hn0:(0:Int)<=(n:Int):=O;go_wp2_with fail
   go_loopw [6,7,8] (λq r o wr=>∃qq rr oo,q = .int .u64 qq/\r = .int .u64 rr/\o = .int .u64 oo/\Yc u v n qq rr oo/\Ext w wr) λ_ r o _=>(2*W-(intOf r+W*intOf o)).toNat
   case atStart=>exact⟨_,_,_,rfl,rfl,rfl,hG,hE⟩
   case round =>
    clear hG hE;obtain⟨qq,rr,oo,rfl,rfl,rfl,hG,hE⟩:=hrel;obtain⟨g1,g2,g3,g4,g5⟩:=id hG;have HG:=aa hG;clear hG g4 g5;by_cases ho:oo=0
    ·subst ho;have hM:=HM0.out.ext hE;have hv0:=hM.atv n (wk hlv.out);have hv1:=hM.atv (n+1) (wk hlv.out);have hu0:=hM.atu HJ.out n (wk hlu.out);have dv0:=Jf h.hv n;have du0:=Jf h.hu n;have e1:XC qq (Qn v n)+W*X4 qq (Qn v n)=qq*Qn v n:=by unfold XC X4;rw[fP];exact aD _ _
     have l0:0<=XC qq (Qn v n)/\XC qq (Qn v n)<W:=⟨aK _ wu,aH _ Ju⟩;have HY:Hid (qq*Qn v n<=rr*W+Qn u n->(qq-1)*dv W v<=dv W u/\dv W u<(qq+1)*dv W v):=λhy=>HG.out.fin h (λ_=>hy);have HN:Hid (rr*W+Qn u n<qq*Qn v n->Yc u v n (qq-1) (XV rr (Qn v (n+1)) 0) (Xx rr (Qn v (n+1)) 0)):=λhy=>HG.out.less h hy;have hq1:Hid (rr*W+Qn u n<qq*Qn v n->1<=qq):=λhy=>by
      have:=(HN.out hy).1;omega
     have hnz:=h.nz;have hq2:qq<=18446744073709551615:=by have:=g1.2;simp only[G5]at this;omega
     have hme:Hid (2*W-(XV rr (Qn v (n+1)) 0+W*Xx rr (Qn v (n+1)) 0)<2*W-(rr+W*0)):=by
      have:=(G4 g2 dv1 (by decide:(0:Int)<=0/\(0:Int)<=1)).1;show _<_;omega
     have hme2:Hid (0<2*W-(rr+W*0)):=by show _<_;omega
     have ha:=λw=>KG rr (Qn v (n+1)) 0 g2.1 dv1.1 wu wu w;generalize hmy:X4 qq (Qn v n)=mh at *
     generalize hml:XC qq (Qn v n)=ml at *
     have HMH:=aa hmy;have HML:=aa hml;have E1:Hid (qq*Qn v n=ml+W*mh):=e1.symm;clear hmy hml e1;have cmpY:Hid (mh<rr->qq*Qn v n<=rr*W+Qn u n):=λhh=>by
      have:W*(mh+1)<=W*rr:=af O wu;rw[E1.out];grind
     have cmpY2:Hid (mh=rr->ml<=Qn u n->qq*Qn v n<=rr*W+Qn u n):=λhh hl=>by
      rw[E1.out,hh];grind
     have cmpN:Hid (rr<mh->rr*W+Qn u n<qq*Qn v n):=λhh=>by
      have:W*(rr+1)<=W*mh:=af O wu;rw[E1.out];grind
     have cmpN2:Hid (mh=rr->Qn u n<ml->rr*W+Qn u n<qq*Qn v n):=λhh hl=>by
      rw[E1.out,hh];grind
     rcases bY mh rr with g | g | g
     ·have HF:=aa (HY.out (cmpY.out g));go_wp2_with (go_at_call 209;refine(KI _ _ _ g1 dv0).mono ?_;rw[HMH.out,HML.out];rintro e w' ⟨rfl,rfl⟩)
      go_meet
      exact⟨_,rfl,HG.out.1,HF.out,hE⟩
     ·have gb:(mh==rr)=true:=by simpa using g
      have gl:rr<=mh:=O;have G:=aa g;clear g;by_cases hl:ml<=Qn u n
      ·have HF:=aa (HY.out (cmpY2.out G.out hl));go_wp2_with (go_at_call 209;refine(KI _ _ _ g1 dv0).mono ?_;rw[HMH.out,HML.out];rintro e w' ⟨rfl,rfl⟩)
       go_meet
       exact⟨_,rfl,HG.out.1,HF.out,hE⟩
      have hl':Qn u n<ml:=O;have HF:=aa (HN.out (cmpN2.out G.out hl'));have hq1:=hq1.out (cmpN2.out G.out hl');clear hl;go_wp2_with (go_at_call 209;refine(KI _ _ _ g1 dv0).mono ?_;rw[HMH.out,HML.out];rintro e w' ⟨rfl,rfl⟩)
      go_roundw
      case rel=>exact⟨_,_,_,rfl,rfl,rfl,HF.out,hE⟩
      case measure=>have:=hme.out;have:=hme2.out;simp only[intOf];omega
     have HF:=aa (HN.out (cmpN.out g));have hq1:=hq1.out (cmpN.out g);have gb:(mh==rr)=false:=w6;go_wp2_with (go_at_call 209;refine(KI _ _ _ g1 dv0).mono ?_;rw[HMH.out,HML.out];rintro e w' ⟨rfl,rfl⟩)
     go_roundw
     case rel=>exact⟨_,_,_,rfl,rfl,rfl,HF.out,hE⟩
     case measure=>have:=hme.out;have:=hme2.out;simp only[intOf];omega
    have ho1:(oo==0)=false:=by simpa using ho
    have HF:=aa (HG.out.fin h λe=>absurd e ho);go_wp2
    go_meet
    exact⟨_,rfl,HG.out.1,HF.out,hE⟩
  case rest =>
   clear hG hE;obtain⟨qq,rfl,hq,hF,hE⟩:=hcut;have HF:=aa hF;have HB0:=aa (HM0.out.ext hE).hB;have HU0:Hid (DO B w _):=(DO.refl B w).ext hE;clear hF hE dv1 h05 h02 h04;go_wp2
   go_loopw [105,11,12] (λi b c wr=>∃(k:Nat) (ds:List Int) (bb cc:Int),k<=n+2/\i = .int .i64 k/\b = .int .u64 bb/\c = .int .u64 cc/\Es u v qq k ds bb cc/\Y5 wr B 256 Jj (pre++((ds++u.drop k)++post))/\DO B w wr)
    (λi _ _ _=>n+2-(intOf i).toNat)
   case atStart=>exact⟨0,[],0,0,O,rfl,rfl,rfl,Es.start u v qq,HB0.out,HU0.out⟩
   case round =>
    clear HB0 HU0;obtain⟨k,ds,bb,cc,hk,rfl,rfl,rfl,hI,hB,hU⟩:=hrel;by_cases hlt:k<n+2
    ·have hst:=hI.step h.hu h.hv hq;obtain⟨hd1,hd2,hd3,hd4,hd5⟩:=hI;have HD1:=aa hd1;have hvk:=hU.cell (p:=⟨bv,ov+k,none⟩) hne (HM0.out.atv k (wk hlv.out));rw[Xo (wk hlu.out)]at hB;have hcell:=hB.cell (Lq HJ.out HD1.out);rw[Lr HJ.out HD1.out]at hcell;simp only[Jj]at hcell;have hfr:=hB.frozen (j+k);have hBs:=hB.set (j+k) (Zf (Qn u k) (XV (XC qq (Qn v k)) cc 0) bb);rw[Nz HJ.out HD1.out,ee ds]at hBs;have HBs:=aa hBs;have HS:=aa hst;have hy:=Jf h.hv k;have hx:=Jf h.hu k;obtain⟨_,g2,g3,g4,g5,_,_⟩:=Ny hq hy hd4 (by decide:(0:Int)<=0/\(0:Int)<W);clear hd1 hd5 hB hBs hst;generalize hmy:X4 qq (Qn v k)=mh at *
     generalize hml:XC qq (Qn v k)=ml at *
     have HMH:=aa hmy;have HML:=aa hml;clear hmy hml;have ha1:=λw=>KG ml cc 0 g2.1 hd4.1 wu wu w;have ha2:=λw=>Bc (Qn u k) (XV ml cc 0) bb hx g3 hd3 w;have b1:0<=mh+Xx ml cc 0:=g4.1;have b2:mh+Xx ml cc 0<=18446744073709551615:=by have:=g4.2;simp only[G5]at this;omega
     go_wp2_with (go_at_call 209;refine(KI _ _ _ hq hy).mono ?_;rw[HMH.out,HML.out];rintro e w' ⟨rfl,rfl⟩)
     go_roundw
     case rel=>exact⟨k+1,_,_,_,O,by go_num,rfl,rfl,HS.out,HBs.out,hU.setCell _ _⟩
     case measure=>simp[intOf];omega
    have hk':k=n+2:=O;subst hk';have HI:=aa hI;obtain⟨hd1,hd2,hd3,hd4,hd5⟩:=hI;have HD1:=aa hd1;rw[Xo (wk hlu.out)]at hB;have hcell:=hB.cell (Lq HJ.out HD1.out);rw[Lr HJ.out HD1.out]at hcell;simp only[Jj]at hcell;have hfr:=hB.frozen (j+(n+2));have hBs:=hB.set (j+(n+2)) (Zf (Qn u (n+2)) cc bb);rw[Nz HJ.out HD1.out,fH (wk hlu.out)]at hBs;have HBs:=aa hBs;have hx:=Jf h.hu (n+2);have hs:=(D6 hx hd4 hd3).2;have ha2:=λw=>Bc (Qn u (n+2)) cc bb hx hd4 hd3 w;clear hd1 hd5 hB hBs;have hs3:=hs.2;have hs2:=hs.1;clear hs;by_cases hb0:Vi (Qn u (n+2)) cc bb=0
    ·have hR:=yI h HI.out HF.out hb0;have HR:=aa hR;have hbb:(Vi (Qn u (n+2)) cc bb==0)=true:=by simpa using hb0
     clear hR hb0;go_wp2
     go_ret
     exact⟨⟨congrArg (λx=>iC (.int .u64 x)) HR.out.2.1,_,HBs.out,by simp[HD1.out],HR.out.1,HR.out.2.2⟩,hU.setCell _ _⟩
    have hb1:Vi (Qn u (n+2)) cc bb=1:=O;have hbb:(Vi (Qn u (n+2)) cc bb==0)=false:=by simpa using hb0
    have HB1:=aa hb1;clear hb0 hb1;have HU1:Hid (DO B w _):=hU.setCell (j+(n+2)) (Jj (Zf (Qn u (n+2)) cc bb));have hdL:DG W (ds++[Zf (Qn u (n+2)) cc bb]):=hd2.append (DG.cons hs2.1 hs2.2 (DG.nil _));go_wp2
    go_loopw [157,17] (λi c wr=>∃(k:Nat) (es:List Int) (c2:Int),k<=n+2/\i = .int .i64 k/\c = .int .u64 c2/\Ml ds v k es c2/\Y5 wr B 256 Jj (pre++((es++(ds++[Zf (Qn u (n+2)) cc bb]).drop k)++post))/\DO B w wr)
     (λi _ _=>n+2-(intOf i).toNat)
    case atStart=>exact⟨0,[],0,O,rfl,rfl,⟨rfl,DG.nil _,wu,wz⟩,HBs.out,HU1.out⟩
    case round =>
     clear HU1 HBs hcell hfr hU ha2;obtain⟨k,es,c2,hk,rfl,rfl,hA,hB,hU⟩:=hrel;have HA:=aa hA;obtain⟨he1,he2,he3,he4⟩:=hA;have HE1:=aa he1;clear he1 he4;have hll:(ds++[Zf (Qn u (n+2)) cc bb]).length=n+3:=by simp[HD1.out]
     rw[Xo O]at hB;have HLL:=aa hll;clear hll;have hcell:=hB.cell (Lq HJ.out HE1.out);rw[Lr HJ.out HE1.out]at hcell;simp only[Jj]at hcell;have hfr:=hB.frozen (j+k);by_cases hlt:k<n+2
     ·have hvk:=hU.cell (p:=⟨bv,ov+k,none⟩) hne (HM0.out.atv k (wk hlv.out));have hek:Hid (Qn (ds++[Zf (Qn u (n+2)) cc bb]) k=Qn ds k):=by
       have h1:k<ds.length:=wk HD1.out;show _=_;rw[YM (wk HLL.out),YM h1,List.getElem_append_left h1]
      rw[hek.out]at hcell hB;have hBs:=hB.set (j+k) (XV (Qn ds k) (Qn v k) c2);rw[Nz HJ.out HE1.out,ee es]at hBs;have HBs:=aa hBs;have HS:=aa (HA.out.step hd2 h.hv);have hx:=Jf hd2 k;have hy:=Jf h.hv k;have ha1:=λw=>KG (Qn ds k) (Qn v k) c2 hx.1 hy.1 he3.1 he3.2 w;have hk0:(0:Int)<=(k:Int):=O;have hk1:(k:Int)<(n:Int)+2:=O;have hk2:(k:Int)<(n:Int)+3:=O;clear hBs hB;go_wp2
      go_region
      go_wp2
      go_roundw
      case rel=>exact⟨k+1,_,_,O,by go_num,rfl,HS.out,HBs.out.drew,(hU.setCell _ _).drew⟩
      case measure=>simp[intOf];omega
     have hk':k=n+2:=O;subst hk';have hR:=dZ h HI.out HF.out HB1.out HA.out;have HR:=aa hR;clear hR;have hek:Hid (Qn (ds++[Zf (Qn u (n+2)) cc bb]) (n+2)=Zf (Qn u (n+2)) cc bb):=by
      show _=_;rw[YM (wk HLL.out)];simp[HD1.out]
     rw[hek.out,fH (wk HLL.out)]at hB;rw[hek.out]at hcell;have hBs:=hB.set (j+(n+2)) 0;rw[Nz HJ.out HE1.out]at hBs;have HBs:=aa hBs;have hq1:1<=qq:=by
      have h0:=JG Ju h.hu;have h1:=JG Ju h.hv;have:=bQ h0 h1;rw[<-HR.out.1]at this;omega
     have hq2:qq<=18446744073709551615:=by have:=hq.2;simp only[G5]at this;omega
     have hwr:IntKind.u64.wrap (Zf (Qn u (n+2)) cc bb+c2)=0:=by
      rw[HR.out.2.2];decide
     clear hB hBs;go_wp2
     go_ret
     exact⟨⟨congrArg (λx=>iC (.int .u64 x)) HR.out.1,_,HBs.out,by simp[HE1.out],he2.append (DG.cons (lQ _) Ju (DG.nil _)),by rw[X6,HR.out.2.1];simp⟩,hU.setCell _ _⟩
theorem Cells.MH{q:Option Addr}{l:List Int}{o:Nat}{v:Value}(h:Cells w q Jj l)(hb:∀a,q=some a->a.block≠b):Cells (w.setCell ⟨b,o,none⟩ v) q Jj l:=by
 intro i hi;obtain⟨b',off,h1,h2,h3⟩:=h i hi;exact⟨b',off,h1,h2.set _ _ _,Xw (hb _ h1) h3⟩
theorem Cells.old{q:Option Addr}{l:List Int}(h:Cells w q Jj l)(hl:l≠[])(b:Nat)(hb:w.heap.size<=b):∀a,q=some a->a.block≠b:=by
 intro a ha;obtain⟨b',off,h1,h2,_⟩:=h 0 (List.length_pos_iff.2 hl);rw[h1]at ha;cases ha;show b'≠b;have:=h2.lt;omega
def Y5.MH{E b' o:Nat}{enc:E5 α}{l:List α}{v:Value}(h:Y5 w b E enc l)(hb:b≠b'):Y5 (w.setCell ⟨b',o,none⟩ v) b E enc l:=by
 unfold Y5;rw[hJ _ _ _ _ hb];exact h
theorem Ln{lb:List Int}{s:Nat}(hb:DG W lb)(hl:lb.length=n+2)(hs:s<64)(h1:Qn lb (n+1)*p2 s<W)(h2:9223372036854775808<=Qn lb (n+1)*p2 s):
  W^(n+1)*9223372036854775808<=dv W lb*p2 s/\dv W lb*p2 s<W^(n+2):=by
 have e:=XQ lb (n+1);rw[ao (by omega:lb.length<=n+1+1)]at e;have t0:=JG Ju (hb.take (n+1));have t1:=Km Ju (hb.take (n+1));rw[e8,Nat.min_eq_left O]at t1;have hp:=pow_pos Ju (n+1);have hp0:=YX s;have top:(Qn lb (n+1)+1)*p2 s<=W:=by
  have e3:=Gp hs;have:Qn lb (n+1)<p2 (64-s):=by
   refine Int.not_le.1 λhc=>?_;have:=ai hc (aC hp0);omega
  have:=ai (show Qn lb (n+1)+1<=p2 (64-s) by omega) (aC hp0);omega
 constructor
 ·have k1:W^(n+1)*9223372036854775808<=W^(n+1)*(Qn lb (n+1)*p2 s):=af h2 (aC hp);have k2:0<=dv W (lb.take (n+1))*p2 s:=aG t0 (aC hp0);have e2:dv W lb*p2 s=dv W (lb.take (n+1))*p2 s+W^(n+1)*(Qn lb (n+1)*p2 s):=by rw[e];grind
  omega
 have k1:(dv W (lb.take (n+1))+1)*p2 s<=W^(n+1)*p2 s:=ai O (aC hp0);have k2:W^(n+1)*((Qn lb (n+1)+1)*p2 s)<=W^(n+1)*W:=af top (aC hp);have e2:dv W lb*p2 s=dv W (lb.take (n+1))*p2 s+W^(n+1)*(Qn lb (n+1)*p2 s):=by rw[e];grind
 rw[bm W (n+1)];have e3:W^(n+1)*((Qn lb (n+1)+1)*p2 s)=W^(n+1)*(Qn lb (n+1)*p2 s)+W^(n+1)*p2 s:=by grind
 rw[bc]at k1;omega
set_option maxRecDepth 100000 in
set_option maxHeartbeats 2000000 in
theorem Fz(v v':Value)(la lb:List Int)(n:Nat)(w:World)(ha:DG W la)(hb:DG W lb)(na:NZ la)(nb:NZ lb)(hs:SL w v Jj la)(hs':SL w v' Jj lb)(hge:dv W lb<=dv W la)
  (hn:lb.length=n+2) (h1:la.length<=10000000000) (h2:lb.length<=10000000000) :
  Calls prog 229 #[v,v'] w λe w'=>Zh w (Ux (dv W la) (dv W lb)) e w':=by
 have H3:0<=YE (dv W la) (dv W lb):=BP hge;have hm:n+2<=la.length:=by
  refine Nat.not_lt.1 λhc=>?_;have:=ZQ Ni ha hb nb O;omega
 have HS:=aa hs;obtain⟨q,cap,rfl,hcap,hmax,hca⟩:=hs;have HA:=aa hca;have HS':=aa hs';obtain⟨q2,cap2,rfl,hcap2,hmax2,hcb⟩:=hs';have HB:=aa hcb;obtain⟨bb,ob,rfl,hbb,hcy⟩:=hcb (n+1) O;rw[Z8 O]at hcy;simp only[Jj]at hcy;clear hca hcb;have hL:=aa hn;rw[hn]at HS' hcap2 ⊢;have hyp:0<Qn lb (n+1)/\Qn lb (n+1)<W:=by
  have:=Jf hb (n+1);have hz:Qn lb (n+1)≠0:=by
   intro e;apply nb;rw[fq,hn];rw[YM O]at e;simp[hn,e]
  omega
 clear hn;have hb1:((n:Int)+2==1)=false:=w6;have e57:(n:Int)+2-1=(n:Int)+1:=O;go_enter func229,ntmps229
 go_wp2_with (first | (go_at_call 222;refine(Zu _ _ _ _ _ ha hb na nb HS.out HS'.out).mono ?_;rintro e w1 ⟨rfl,hx1⟩;have hcy:=hx1.cell hcy) | (go_at_call 257;fail))
 go_wp2_with fail
 refine(yS _ _ hyp).mono ?_;rintro e w' ⟨⟨s,rfl,hs,hs1,hs2⟩,rfl⟩;have hbv:=Ln hb hL.out hs hs1 hs2;have HBV:=aa hbv;clear hs1 hs2 hcy hbv;go_wp2_with fail
 refine(Mv s _ lb _ hs hb (HS'.out.ext hx1) O).mono ?_;rintro e w2 ⟨_,rfl,⟨l1,rfl,hB1,hl1,hd1,hv1⟩,hx2⟩;rw[hL.out]at hl1;have hSL1:=SL.BG hB1 (n+3) O O;rw[ao O,hl1]at hSL1;have HSL1:=aa hSL1;rw[hL.out];clear hSL1 hB1 hl1;go_wp2_with fail
 refine(VH _ _ _ HSL1.out).mono ?_;rintro e w' ⟨⟨_,rfl,qv,capv,rfl,hcv1,hcv2,hcv⟩,rfl⟩;have hlv:(Je l1).length=n+2:=Ly hd1.Je (Zv _) (by rw[ZE,hv1];have:=HBV.out.1;have:=af (show(1:Int)<=9223372036854775808 by decide) (aC (pow_pos Ju (n+1)));omega) (by rw[ZE,hv1];exact HBV.out.2);have hdv:DG W (Je l1):=hd1.Je;have hnv:NZ (Je l1):=Zv _;have HVV:Hid (dv W (Je l1)=dv W lb*p2 s):=by show _=_;rw[ZE,hv1]
 generalize Je l1=lv at *
 rw[hlv]at hcv1 ⊢;have HLV:=aa hlv;have HCV:=aa hcv;clear hv1 hd1 hcv hlv;go_wp2_with fail
 refine(Mv s _ la _ hs ha ((HS.out.ext hx1).ext hx2) O).mono ?_;rintro e w3 ⟨_,rfl,⟨o0,rfl,hB3,hl3,hd3,hv3⟩,hx3⟩;have hmk:=λw=>Yh (la.length-(n+2)+1) O w;have ec:((la.length-(n+2)+1:Nat):Int)=(la.length:Int)-((n:Int)+2)+1:=O;simp only[ec]at hmk;clear ec;have hvne:lv≠[]:=by intro e;have:=HLV.out;rw[e]at this;simp at this
 have hne1:=HCV.out.old hvne w2.heap.size (aE _);have hne2:=HCV.out.old hvne w3.heap.size hx3.size;have HSTART:Hid (WU (dv W la*p2 s) (dv W lb*p2 s) n (la.length-(n+2)+1) la.length o0 []) :=
  WU.start hl3 hd3 hv3 hs (Km Ju ha) HBV.out.1 hm
 have HB3:=aa hB3;have HX2:Hid (Ext w w2):=hx1.trans hx2;have HXB:=aa hx3;have hsz:w2.heap.size<w3.heap.size:=hB3.lt;have HN1:=aa hne1;have HN2:=aa hne2;clear hB3 hl3 hd3 hv3 hx1 hx2 hx3 hge H3 hne1 hne2;go_wp2
 go_loopw [14] (λi wr=>∃(k:Nat) (o qs:List Int),k<=la.length-(n+2)+1/\i = .int .i64 ((k:Int)-1)/\WU (dv W la*p2 s) (dv W lb*p2 s) n k la.length o qs /\
   Y5 wr w2.heap.size 256 Jj o/\Y5 wr w3.heap.size 256 Jj (aO k 0++qs)/\Cells wr qv Jj lv/\Ext w2 wr)
  (λi _=>(intOf i+1).toNat)
 case atStart=>exact⟨la.length-(n+2)+1,o0,[],aE _,by go_num,HSTART.out,HB3.out.ext ((Ext.refl _).alloc _),by rw[fc];exact Y5.made w3 _ Jj 0 _ _ I,(HCV.out.ext HXB.out).ext ((Ext.refl _).alloc _),HXB.out.alloc _⟩
 case round =>
  clear HSTART hmk HB3 HCV HXB;obtain⟨k,o,qs,hk,rfl,hI,hBU,hBQ,hCV,hE⟩:=hrel;cases k with
  |zero =>
   have HI:=aa hI;obtain⟨i1,i2,i3,i4,i5,i6⟩:=hI;have HI1:=aa i1;have HI3:=aa i3;have HBU:=aa hBU;have HBQ:Hid (Y5 _ w3.heap.size 256 Jj qs):=hBQ;clear i1 i3 i5 i6 hBU hBQ hCV;rw[show((0:Nat):Int)-1 = -1 from rfl];go_wp2
   go_loopw [97] (λi wx=>∃(k:Nat) (ds:List Int),k<=n+2/\i = .int .i64 k/\Vh o s k ds/\Y5 wx w2.heap.size 256 Jj (ds++o.drop k)/\Y5 wx w3.heap.size 256 Jj qs/\Ext w2 wx)
    (λi _=>n+2-(intOf i).toNat)
   case atStart=>exact⟨0,[],O,rfl,Vh.start o s,HBU.out,HBQ.out,hE⟩
   case round =>
    clear HBU HBQ hE;obtain⟨k,ds,hk,rfl,hS,hBU,hBQ,hE⟩:=hrel;have HBQ:=aa hBQ;by_cases hlt:k<n+2
    ·have HS:=aa hS;obtain⟨hd1,hd2,hd3⟩:=hS;have HD1:=aa hd1;have hkl:k+1<o.length:=wk HI1.out;rw[Xo O,Xo hkl]at hBU;have hx:=Jf i2 k;have hx1:=Jf i2 (k+1);have hcell:=hBU.cell (i:=k) w6;have hcell1:=hBU.cell (i:=k+1) w6;have g0:(ds++Qn o k::Qn o (k+1)::iE (k+1+1) o).getD k default=Qn o k:=by rw[<-HD1.out];simp[eI]
     have g1:(ds++Qn o k::Qn o (k+1)::iE (k+1+1) o).getD (k+1) default=Qn o (k+1):=by rw[<-HD1.out];simp[eI]
     rw[g0]at hcell;rw[g1]at hcell1;simp only[Jj]at hcell hcell1;have hfr:=hBU.frozen k;have HBU:=aa hBU;clear hd1 hd3 hBU hBQ g0 g1;have hk0:(0:Int)<=(k:Int):=O;have hk1:(k:Int)<(la.length:Int)+1:=O;have hk2:(k:Int)+1<(la.length:Int)+1:=O;have hk3:(0:Int)<=(k:Int)+1:=O;have hk4:IntKind.i64.wrap ((k:Int)+1)=(k:Int)+1:=bA _ O;have hk5:((k:Int)+1).toNat=k+1:=O;have hk6:IntKind.i64.wrap (64-(s:Int))=64-(s:Int):=bA _ O;have hk7:(64-(s:Int)).toNat=64-s:=O;have hk8:¬(64-(s:Int)<0):=O;by_cases hs0:0<s
     ·have hs1:(0:Int)<(s:Int):=O;go_wp2
      go_region
      go_wp2
      go_roundw
      case rel =>
       refine⟨k+1,ds++[Qn o k/p2 s+Qn o (k+1)*p2 (64-s)%W],O,by go_num,HS.out.step i2 hs hs0,?_,(HBQ.out.MH O).MH O,((hE.X1 wz _).X1 wz _).drew⟩;have b:=Oo hs hx;obtain⟨b1,_⟩:=UE (x:=Qn o (k+1)) (s:=64-s) O b.1 b.2;rw[Pj,show Qn o k/2^s=Qn o k/p2 s from rfl,b1];have h1:=HBU.out.set k (Qn o k/p2 s);rw[Gk _ _ _ _ _ HD1.out]at h1;have h2:=h1.set k (Qn o k/p2 s+Qn o (k+1)*p2 (64-s)%W);rw[Gk _ _ _ _ _ HD1.out,ee ds,<-Xo hkl]at h2;exact h2.drew
      case measure=>simp[intOf];omega
     have hs9:s=0:=O;have HS0:Hid (Vh o s (k+1) (ds++[Qn o k/p2 s])):=by subst hs9;exact HS.out.um i2
     clear hs9;go_wp2
     go_roundw
     case rel =>
      refine⟨k+1,ds++[Qn o k/p2 s],O,by go_num,HS0.out,?_,HBQ.out.MH O,hE.X1 wz _⟩;have h1:=HBU.out.set k (Qn o k/p2 s);rw[Gk _ _ _ _ _ HD1.out,ee ds,<-Xo hkl]at h1;exact h1
     case measure=>simp[intOf];omega
    have hk':k=n+2:=O;subst hk';have hvp:0<dv W lb:=by
     have h7:=HBV.out.1;have h8:=pow_pos Ju (n+1);refine Int.not_le.1 λhc=>?_;have:=ai hc (aC (YX s));omega
    have HF:=aa (p9 HI.out hs hvp HBV.out.2 hm hS);obtain⟨hd1,hd2,hd3⟩:=hS;have hq1:qs.length=la.length-(n+2)+1:=wk HI3.out;have hSq:=SL.BG HBQ.out (la.length-(n+2)+1) O O;have hSr:=SL.BG hBU (n+2) w6 (by simp;have:=HI1.out;omega);rw[ao O,hq1]at hSq;rw[List.take_append_of_le_length O,ao O]at hSr;have hol:(ds++iE (n+2) o).length=la.length+1:=by simp;have:=HI1.out;omega
    rw[hol]at hSr;have HSq:=aa hSq;have HSr:=aa hSr;have hn0:(0:Int)<=(n:Int)+2:=O;have hn1:(n:Int)+2<=(la.length:Int)+1:=O;have hn2:((n:Int)+2).toNat=n+2:=O;clear hd1 hd3 hBU hBQ hSq hSr hq1 hol;go_wp2
    go_region_held3 (λ_=>True) (trivial) (first | (go_at_call 245;(with_reducible refine(VH _ _ _ (HSq.out.ext (Ext.refl _).drew)).mono ?_);rintro e w' ⟨⟨v1,rfl,hv1⟩,rfl⟩) | (go_at_call 245;(with_reducible refine(VH _ _ _ (HSr.out.ext (Ext.refl _).drew)).mono ?_);rintro e w' ⟨⟨v2,rfl,hv2⟩,rfl⟩))
    go_wp2
    go_ret2
    exact⟨_,rfl,⟨v1,v2,_,_,rfl,hv1,hv2,⟨i4.Je,Zv _⟩,⟨hd2.Je,Zv _⟩,by rw[ZE];exact HF.out.1,by rw[ZE];exact HF.out.2⟩,(HX2.out.trans hE).drew⟩
  |succ k =>
   obtain⟨pre,u,post,rfl,lj,hst,hpost,lpost,hjm⟩:=hI.QAN hdv HLV.out (by
    have:=Jf hdv (n+1);have hz:Qn lv (n+1)≠0:=by
     intro e;apply hnv;rw[fq,HLV.out];rw[YM (wk HLV.out)]at e;simp[HLV.out,e]
    omega) HVV.out hm
   have HI:=aa hI;have LJ:=aa lj;have HBQ:=aa hBQ;have e1:((k+1:Nat):Int)-1=(k:Int):=O;have hwin:Hid (k+n+2<=la.length):=hjm;have hk3:(k:Int)+((n:Int)+2)+1<=(la.length:Int)+1:=O;obtain⟨bq,oq,rfl,_,_⟩:=hCV 0 (wk HLV.out);have HCV:=aa hCV;have HBU:=aa hBU;clear hI lj hBQ hjm lpost hCV hBU;rw[e1];clear e1;go_wp2_with fail
   rw[show k+(n+2)+1-k=n+3 from by omega];refine(Cz u lv pre post n k _ _ _ bq oq _ hst LJ.out O ⟨HBU.out,HCV.out⟩ (HN1.out _ I)).mono ?_;rintro e w4 ⟨⟨rfl,u',hB',lu',du',vu'⟩,hU⟩;have hBQ4:=hU.Hy O HBQ.out;have hlen:k<(aO (k+1) (0:Int)++qs).length:=w6;have hcell:=hBQ4.cell hlen;have hz:(aO (k+1) (0:Int)++qs).getD k default=0:=by simp[eI,bX]
   rw[hz]at hcell;simp only[Jj]at hcell;have hfr:=hBQ4.frozen k;have hBs:=hBQ4.set k (dv W u/dv W lv);rw[Ae]at hBs;have HBs:=aa hBs;have hvp:0<dv W lb*p2 s:=by have:=HBV.out.1;have:=pow_pos Ju (n+1);omega
   have HQL:Hid (dv W u/dv W lv<W):=by
    refine bD (by rw[HVV.out];exact hvp) ?_;exact hst.lt
   have HST:=aa (HI.out.step LJ.out hst.lu du' lu' HVV.out hvp hpost HQL.out (JG Ju hst.hu) vu');have HB':=aa hB';have HU:=aa hU;clear hBs hBQ4 hB' hU hz hlen vu';go_wp2
   go_roundw
   case rel=>exact⟨k,_,_,O,by go_num,HST.out,HB'.out.MH O,HBs.out,(HU.out.cells HN1.out HCV.out).MH HN2.out,(HU.out.QAf hE (aE _)).X1 w6 _⟩
   case measure=>simp[intOf]
theorem OD(v v':Value)(la lb:List Int)(w:World)(ha:DG W la)(hb:DG W lb)(na:NZ la)(nb:NZ lb)(hs:SL w v Jj la)(hs':SL w v' Jj lb)(hb0:lb≠[])
  (h1:la.length<=10000000000) (h2:lb.length<=10000000000) :
  Calls prog 229 #[v,v'] w λe w'=>Zh w (Ux (dv W la) (dv W lb)) e w':=by
 by_cases hlt:dv W la<dv W lb
 ·exact F3 v v' la lb w ha hb na nb hs hs' hlt
 match lb,hb,nb,hs',hb0,hlt,h2 with
 |[y],hb,nb,hs',_,hlt,_ =>
  have e:dv W [y]=y:=wz;rw[e]at hlt ⊢;have hy:=hb.head;have hy0:y≠0:=by intro e;subst e;exact nb rfl
  obtain⟨q',cap',e',_⟩:=id hs';subst e';exact OC v q' cap' la y w ha ⟨O,hy.2⟩ na hs hs' O O
 |x::y::l,hb,nb,hs',_,hlt,h2=>exact Fz v v' la (x::y::l) l.length w ha hb na nb hs hs' O rfl h1 h2
theorem KC.sign{s:Int}{q:Option Addr}(h:KC w s q n cap z):s<0↔z<0:=by
 rcases h with ⟨_,_,_,rfl,_⟩ | ⟨b,off,l,_,_,_,_,_,_,_,_,h,hz,hb⟩
 ·exact Iff.rfl
 rcases h with rfl | rfl<;>omega
def Bx.cP(w:World)(o:Obj)(T:TypeId)(c:Array Value):Bx ((w.alloc o).alloc (.cells c T)) (w.heap.size+1) T c.toList:=by
 have:=Bx.new (w.alloc o) T c;simpa using this
def Bx.yM(w:World)(o o':Obj)(T:TypeId)(c:Array Value):Bx (((w.alloc o).alloc (.cells c T)).alloc o') (w.heap.size+1) T c.toList:=(Bx.cP w o T c).alloc o'
def Bx.CJ(w:World)(o o':Obj)(T:TypeId)(c:Array Value):Bx (((w.alloc o).alloc o').alloc (.cells c T)) (w.heap.size+1+1) T c.toList:=by
 have:=Bx.new ((w.alloc o).alloc o') T c;simpa using this
def Bx.L5(w:World)(o o':Obj)(T:TypeId)(c:Array Value):Bx (((w.alloc (.cells c T)).alloc o).alloc o') w.heap.size T c.toList:=((Bx.new w T c).alloc o).alloc o'
def Ext.DU{a:World}(h:Ext a w){R:Nat}(hR:a.heap.size<=R)(v0 v1:Value):Ext a ((w.setCell ⟨R,0,none⟩ v0).setCell ⟨R,1,none⟩ v1):=(h.X1 hR v0).X1 hR v1
theorem uQ(v:Value)(z:Int)(w:World)(hv:Xf w v z):
  Calls prog 202 #[v] w λe w'=>Zh w (λv w'=>Xf w' v (Jm z)) e w':=by
 have HV:=aa hv;obtain⟨s,q,n,cap,rfl,hp⟩:=hv;have HP:=aa hp;by_cases hs:s<0
 ·have HI:=aa (EP (hp.sign.1 hs));have HB:=aa (Bx.cP w (.cells #[.int .i64 s,.slice q n cap] 116) 116 IZ);clear hp;go_enter func202,ntmps202
  go_wp2_with fail
  refine(UG _ z _ (HV.out.ext (((Ext.refl _).alloc _).alloc _))).mono ?_;rintro e w1 ⟨_,rfl,⟨s',q',n',cap',rfl,hp'⟩,hx⟩;obtain⟨c0,c1,f0,f1⟩:=(HB.out.ext hx).two;have HB2:=aa (HB.out.ext hx);go_wp2
  refine bodyPost_ret (v:=.agg #[.int .i64 s',.slice q' n' cap']) (by simp[results,results202,go_sem,c0,c1]) I ⟨_,rfl,?_,?_⟩
  ·rw[HI.out];exact⟨_,_,_,_,rfl,hp'.kp ((Kp.refl _).DU HB2.out.RY FA _ _)⟩
  exact(((((Ext.refl w).alloc _).alloc _).trans hx).X1 wz _).X1 wz _
 have HI:=aa (GO (z:=z) (wk hp.sign));clear hp;go_enter func202,ntmps202
 go_wp2
 refine bodyPost_ret (v:=.agg #[.int .i64 s,.slice q n cap]) (by simp[results,results202,go_sem]) I ⟨_,rfl,?_,((Ext.refl _).alloc _).alloc _⟩;rw[HI.out];exact⟨_,_,_,_,rfl,HP.out.ext (((Ext.refl _).alloc _).alloc _)⟩
def ZB{l:List Int}(hd:DG W l)(hn:NZ l)(h:dv W l=Jm z)(hz:sz z<=1000000000):l.length<=1000000000:=by
 have:=QBR hd hn;rw[h,Np]at this;omega
def Ad{b:Int}(h:decide (a<0)=decide (b<0)):sg (decide (a<0)) (Jm a+Jm b)=a+b:=by
 unfold sg Jm;by_cases ha:a<0<;>by_cases hb:b<0<;>simp[ha,hb]at h ⊢<;>omega
def Ac{b:Int}(h:decide (a<0)≠decide (b<0)):sg (decide (a<0)) (Jm a-Jm b)=a+b:=by
 unfold sg Jm;by_cases ha:a<0<;>by_cases hb:b<0<;>simp[ha,hb]at h ⊢<;>omega
def Tu{b:Int}(h:decide (a<0)≠decide (b<0)):sg (decide (b<0)) (Jm b-Jm a)=a+b:=by
 unfold sg Jm;by_cases ha:a<0<;>by_cases hb:b<0<;>simp[ha,hb]at h ⊢<;>omega
theorem Me(s s':Int)(q q':Option Addr)(n n' cap cap':Nat)(a b:Int)(w:World)(hv:KC w s q n cap a)(hv':KC w s' q' n' cap' b)
  (hc:q.isNone=false\/(q.isNone=true/\q'.isNone=false)\/(q.isNone=true/\q'.isNone=true/\(decide (s<wrap64 (s+s'))==decide (0<s'))=false))
  (ha:sz a<=1000000000) (hb:sz b<=1000000000) :
  Calls prog 181 #[.agg #[.int .i64 s,.slice q n cap],.agg #[.int .i64 s',.slice q' n' cap']] w λe w'=>Zh w (λv w'=>Xf w' v (a+b)) e w':=by
 have hn:=λw=>ar (P:=prog) w 114 256 q n cap 0 0 underlying114;have hn':=λw=>ar (P:=prog) w 114 256 q' n' cap' 0 0 underlying114;have HV:Hid (Xf w (.agg #[.int .i64 s,.slice q n cap]) a):=⟨_,_,_,_,rfl,hv⟩;have HV':Hid (Xf w (.agg #[.int .i64 s',.slice q' n' cap']) b):=⟨_,_,_,_,rfl,hv'⟩;have HBb:=aa (Bx.yM w (.cells #[.int .i64 s,.slice q n cap] 116) (.cells IZ 116) 116 #[.int .i64 s',.slice q' n' cap']);have HBr:=aa (Bx.CJ w (.cells #[.int .i64 s,.slice q n cap] 116) (.cells #[.int .i64 s',.slice q' n' cap'] 116) 116 IZ);clear hv hv';rcases hc with h1 | ⟨h1,h2⟩ | ⟨h1,h2,h3⟩
 all_goals
  rw[h1]at hn
  try rw[h2]at hn'
  go_enter func181,ntmps181
  go_wp2_with fail
  refine(KH _ a _ (HV.out.ext ((((Ext.refl _).alloc _).alloc _).alloc _))).mono ?_;rintro e w1 ⟨_,rfl,⟨p,la,rfl,hsa,hda,hna,hva⟩,hx⟩;have HB1:=aa (HBb.out.ext hx);have HR1:=aa (HBr.out.ext hx);obtain⟨c0,c1,f0,f1⟩:=HB1.out.two;have hlea:=ZB hda hna hva ha;have HVA:=aa hva;clear hva;go_wp2_with fail
  refine(KH _ b _ (HV'.out.ext (((((Ext.refl _).alloc _).alloc _).alloc _).trans hx))).mono ?_;rintro e w2 ⟨_,rfl,⟨p',lb,rfl,hsb,hdb,hnb,hvb⟩,hx2⟩;have HR2:=aa (HR1.out.ext hx2);have hleb:=ZB hdb hnb hvb hb;have HVB:=aa hvb;clear hvb c0 c1 f0 f1;have hsa2:=hsa.ext hx2;by_cases hsg:decide (a<0)=decide (b<0)
  ·have hgg:(decide (a<0)==decide (b<0))=true:=by simpa using hsg
   have HSG:Hid (sg (decide (a<0)) (dv W la+dv W lb)=a+b):=by
    show sg _ _=_;rw[HVA.out,HVB.out];exact Ad hsg
   clear hsg;go_wp2_with fail
   refine(Up _ _ la lb _ hda hdb hsa2 hsb O O).mono ?_;rintro e w3 ⟨_,rfl,⟨l3,hs3,hd3,hn3,hv3⟩,hx3⟩;have HV3:=aa hv3;clear hv3;go_wp2_with fail
   refine(WL _ _ l3 _ hs3 hd3 hn3).mono ?_;rw[HV3.out,HSG.out];rintro e w4 ⟨_,rfl,⟨s4,q4,n4,cap4,rfl,hp4⟩,hx4⟩;have HR4:=aa ((HR2.out.ext hx3).ext hx4);obtain⟨c0,c1,f0,f1⟩:=HR4.out.two;go_wp2
   refine bodyPost_ret (v:=.agg #[.int .i64 s4,.slice q4 n4 cap4]) (by simp[results,results181,go_sem,c0,c1]) I ⟨_,rfl,⟨_,_,_,_,rfl,hp4.kp ((Kp.refl _).DU HR4.out.RY FA _ _)⟩,?_⟩;exact(((((((Ext.refl w).alloc _).alloc _).alloc _).trans hx).trans hx2).trans hx3 |>.trans hx4).DU O _ _
  have hgg:(decide (a<0)==decide (b<0))=false:=by simpa using hsg
  have hcl:=BP (x:=dv W la) (y:=dv W lb);have hcg:=Gz (x:=dv W la) (y:=dv W lb);by_cases hge:dv W lb<=dv W la
  ·have HSG:Hid (sg (decide (a<0)) (dv W la-dv W lb)=a+b):=by
    show sg _ _=_;rw[HVA.out,HVB.out];exact Ac hsg
   have hc3:=hcl hge;have hll:lb.length<=la.length:=by
    refine Nat.not_lt.1 λhlt=>?_;have:=ZQ Ni hda hdb hnb hlt;omega
   have HGE:=aa hge;clear hsg hcl hcg hge;go_wp2_with fail
   refine(Zu _ _ la lb _ hda hdb hna hnb hsa2 hsb).mono ?_;rintro e w3 ⟨rfl,hx3⟩;have hsa3:=hsa2.ext hx3;have hsb3:=hsb.ext hx3;go_wp2_with fail
   refine(D7 _ _ la lb _ hda hdb hsa3 hsb3 O hll HGE.out).mono ?_;rintro e w4 ⟨_,rfl,⟨l3,hs3,hd3,hn3,hv3⟩,hx4⟩;have HV3:=aa hv3;clear hv3;go_wp2_with fail
   refine(WL _ _ l3 _ hs3 hd3 hn3).mono ?_;rw[HV3.out,HSG.out];rintro e w5 ⟨_,rfl,⟨s4,q4,n4,cap4,rfl,hp4⟩,hx5⟩;have HR4:=aa (((HR2.out.ext hx3).ext hx4).ext hx5);obtain⟨c0,c1,f0,f1⟩:=HR4.out.two;go_wp2
   refine bodyPost_ret (v:=.agg #[.int .i64 s4,.slice q4 n4 cap4]) (by simp[results,results181,go_sem,c0,c1]) I ⟨_,rfl,⟨_,_,_,_,rfl,hp4.kp ((Kp.refl _).DU HR4.out.RY FA _ _)⟩,?_⟩;exact(((((((Ext.refl w).alloc _).alloc _).alloc _).trans hx).trans hx2).trans hx3 |>.trans hx4 |>.trans hx5).DU O _ _
  have HSG:Hid (sg (decide (b<0)) (dv W lb-dv W la)=a+b):=by
   show sg _ _=_;rw[HVA.out,HVB.out];exact Tu hsg
  have HC3:=aa (hcg O);have hll:la.length<=lb.length:=by
   refine Nat.not_lt.1 λhlt=>?_;have:=ZQ Ni hdb hda hna hlt;omega
  have HGE:Hid (dv W la<=dv W lb):=by show _<=_;omega
  clear hsg hcl hcg hge;go_wp2_with fail
  refine(Zu _ _ la lb _ hda hdb hna hnb hsa2 hsb).mono ?_;rw[HC3.out];rintro e w3 ⟨rfl,hx3⟩;have hsa3:=hsa2.ext hx3;have hsb3:=hsb.ext hx3;go_wp2_with fail
  refine(D7 _ _ lb la _ hdb hda hsb3 hsa3 O hll HGE.out).mono ?_;rintro e w4 ⟨_,rfl,⟨l3,hs3,hd3,hn3,hv3⟩,hx4⟩;have HV3:=aa hv3;clear hv3;go_wp2_with fail
  refine(WL _ _ l3 _ hs3 hd3 hn3).mono ?_;rw[HV3.out,HSG.out];rintro e w5 ⟨_,rfl,⟨s4,q4,n4,cap4,rfl,hp4⟩,hx5⟩;have HR4:=aa (((HR2.out.ext hx3).ext hx4).ext hx5);obtain⟨c0,c1,f0,f1⟩:=HR4.out.two;go_wp2
  refine bodyPost_ret (v:=.agg #[.int .i64 s4,.slice q4 n4 cap4]) (by simp[results,results181,go_sem,c0,c1]) I ⟨_,rfl,⟨_,_,_,_,rfl,hp4.kp ((Kp.refl _).DU HR4.out.RY FA _ _)⟩,?_⟩;exact(((((((Ext.refl w).alloc _).alloc _).alloc _).trans hx).trans hx2).trans hx3 |>.trans hx4 |>.trans hx5).DU O _ _
set_option maxRecDepth 100000 in
set_option maxHeartbeats 800000 in
theorem jJ(s s':Int)(w:World)(h0 : -9223372036854775808<=s)(h1:s<=9223372036854775807)(h0' : -9223372036854775808<=s')(h1':s'<=9223372036854775807)
  (hl : -9223372036854775808<=s+s') (hh:s+s'<=9223372036854775807) :
  Calls prog 181 #[.agg #[.int .i64 s,.slice none 0 0],.agg #[.int .i64 s',.slice none 0 0]] w λe w'=>Zh w (λv w'=>Xf w' v (s+s')) e w':=by
 have hn:=λw=>ar (P:=prog) w 114 256 none 0 0 0 0 underlying114;have hb1:(decide (s<s+s')==decide (0<s'))=true:=beq_iff_eq.2 (decide_eq_decide.2 O);have hb2:(decide (0<s')==decide (0<s'))=true:=wz;go_enter func181,ntmps181
 go_wp2_with fail
 exact bodyPost_ret (v:=.agg #[.int .i64 (s+s'),.slice none 0 0]) (by simp[results,results181,go_sem]) I ⟨_,rfl,Xf.small _ hl hh,((((Ext.refl _).alloc _).alloc _).alloc _)⟩
theorem Ce(v v':Value)(a b:Int)(w:World)(hv:Xf w v a)(hv':Xf w v' b)(ha:sz a<=1000000000)(hb:sz b<=1000000000):
  Calls prog 181 #[v,v'] w λe w'=>Zh w (λv w'=>Xf w' v (a+b)) e w':=by
 obtain⟨s,q,n,cap,rfl,hp⟩:=hv;obtain⟨s',q',n',cap',rfl,hp'⟩:=hv';rcases hp.isNone with ⟨rfl,rfl,rfl,rfl,h0,h1⟩ | ⟨_,_,rfl⟩
 ·rcases hp'.isNone with ⟨rfl,rfl,rfl,rfl,h0',h1'⟩ | ⟨_,_,rfl⟩
  ·by_cases hl : -9223372036854775808<=s+s'/\s+s'<=9223372036854775807
   ·exact jJ s s' w h0 h1 h0' h1' hl.1 hl.2
   refine Me _ _ _ _ _ _ _ _ _ _ w hp hp' (.inr (.inr ⟨rfl,rfl,?_⟩)) ha hb;simp only[wrap64,beq_eq_false_iff_ne,ne_eq,decide_eq_decide];omega
  exact Me _ _ _ _ _ _ _ _ _ _ w hp hp' (.inr (.inl ⟨rfl,rfl⟩)) ha hb
 exact Me _ _ _ _ _ _ _ _ _ _ w hp hp' (.inl rfl) ha hb
theorem Oi(v v':Value)(a b:Int)(w:World)(hv:Xf w v a)(hv':Xf w v' b)(ha:sz a<=1000000000)(hb:sz b<=1000000000):
  Calls prog 216 #[v,v'] w λe w'=>Zh w (λv w'=>Xf w' v (a-b)) e w':=by
 have HV:=aa hv;have HV':=aa hv';obtain⟨s,q,n,cap,rfl,hp⟩:=hv;obtain⟨s',q',n',cap',rfl,hp'⟩:=hv';have HBa:=aa (Bx.L5 w (.cells #[.int .i64 s',.slice q' n' cap'] 116) (.cells IZ 116) 116 #[.int .i64 s,.slice q n cap]);have HBb:=aa (Bx.yM w (.cells #[.int .i64 s,.slice q n cap] 116) (.cells IZ 116) 116 #[.int .i64 s',.slice q' n' cap']);have HBr:=aa (Bx.CJ w (.cells #[.int .i64 s,.slice q n cap] 116) (.cells #[.int .i64 s',.slice q' n' cap'] 116) 116 IZ);have hnb:sz (-b)<=1000000000:=by rw[VZ];exact hb
 have HE:Hid (a + -b=a-b):=(Int.sub_eq_add_neg).symm;clear hp hp';go_enter func216,ntmps216
 go_wp2_with fail
 have hEW:Ext w (((w.alloc (.cells #[.int .i64 s,.slice q n cap] 116)).alloc (.cells #[.int .i64 s',.slice q' n' cap'] 116)).alloc (.cells IZ 116)):=(((Ext.refl w).alloc _).alloc _).alloc _;generalize hW:(((w.alloc (.cells #[.int .i64 s,.slice q n cap] 116)).alloc (.cells #[.int .i64 s',.slice q' n' cap'] 116)).alloc (.cells IZ 116))=W0 at *
 have HW:=aa hW;clear hW;obtain⟨ca0,ca1,fa0,fa1⟩:=HBa.out.two;obtain⟨cb0,cb1,fb0,fb1⟩:=HBb.out.two;clear fa0 fa1 fb0 fb1;go_region_held3 (λw'=>w'.cell? ⟨w.heap.size,0,none⟩=some (.int .i64 s)/\w'.cell? ⟨w.heap.size,1,none⟩=some (.slice q n cap)/\w'.cell? ⟨w.heap.size+1,0,none⟩=some (.int .i64 s')/\w'.cell? ⟨w.heap.size+1,1,none⟩=some (.slice q' n' cap'))
  (first | exact⟨hx1.cell ca0,hx1.cell ca1,hx1.cell cb0,hx1.cell cb1⟩ | exact⟨hx2.cell (hx1.cell ca0),hx2.cell (hx1.cell ca1),hx2.cell (hx1.cell cb0),hx2.cell (hx1.cell cb1)⟩ | exact⟨Xw O (Xw O (hx2.cell (hx1.cell ca0))),Xw O (Xw O (hx2.cell (hx1.cell ca1))),Xw O (Xw O (hx2.cell (hx1.cell cb0))),Xw O (Xw O (hx2.cell (hx1.cell cb1)))⟩ | go_keep)
  (first
   |(go_at_call 207;refine(UG _ b _ (HV'.out.ext (hEW.drew))).mono ?_;rintro e w1 ⟨_,rfl,⟨s1,q1,n1,cap1,rfl,hp1⟩,hx1⟩)
   |(go_at_call 181;refine(Ce _ _ a (-b) _ (HV.out.ext ((hEW.drew).trans hx1)) ⟨_,_,_,_,rfl,hp1⟩ ha hnb).mono ?_;rw[HE.out];rintro e w2 ⟨_,rfl,⟨s2,q2,n2,cap2,rfl,hp2⟩,hx2⟩;obtain⟨c0,c1,f0,f1⟩:=((HBr.out.drew.ext hx1).ext hx2).two))
 go_wp2
 refine bodyPost_ret (v:=.agg #[.int .i64 s2,.slice q2 n2 cap2]) (by simp[results,results216,go_sem,c0,c1]) I ⟨_,rfl,⟨_,_,_,_,rfl,hp2.kp ((Kp.refl _).DU ((HBr.out.drew.ext hx1).ext hx2).RY FA _ _)⟩,?_⟩;exact((hEW.drew.trans hx1).trans hx2).DU O _ _
def IC(a b:Int):MG (a-b)=YE a b:=(kS a b).symm
theorem q8(s s':Int)(w:World):
  Calls prog 166 #[.agg #[.int .i64 s,.slice none 0 0],.agg #[.int .i64 s',.slice none 0 0]] w λe w'=>e = .returned (.int .i64 (YE s s'))/\Ext w w':=by
 have hn:=λw=>ar (P:=prog) w 114 256 none 0 0 0 0 underlying114;rcases bY s s' with g | g | g
 ·have HC:=aa (Gz g);go_enter func166,ntmps166
  go_wp2
  go_ret
  exact⟨by rw[HC.out];rfl,((Ext.refl _).alloc _).alloc _⟩
 ·subst g;have HC:=aa (SM s);go_enter func166,ntmps166
  go_wp2
  go_ret
  exact⟨by rw[HC.out];rfl,((Ext.refl _).alloc _).alloc _⟩
 have HC:=aa (Ej g);have g2:¬s<s':=O;go_enter func166,ntmps166
 go_wp2
 go_ret
 exact⟨by rw[HC.out];rfl,((Ext.refl _).alloc _).alloc _⟩
theorem Ca(v v':Value)(a b:Int)(w:World)(s s':Int)(q q':Option Addr)(n n' cap cap':Nat)(hv:KC w s q n cap a)(hv':KC w s' q' n' cap' b)(e1:v = .agg #[.int .i64 s,.slice q n cap])(e2:v' = .agg #[.int .i64 s',.slice q' n' cap'])
  (hc:q.isNone=false\/(q.isNone=true/\q'.isNone=false)) (ha:sz a<=1000000000) (hb:sz b<=1000000000) :
  Calls prog 166 #[v,v'] w λe w'=>e = .returned (.int .i64 (YE a b))/\Ext w w':=by
 subst e1 e2;have hn:=λw=>ar (P:=prog) w 114 256 q n cap 0 0 underlying114;have hn':=λw=>ar (P:=prog) w 114 256 q' n' cap' 0 0 underlying114;have HV:Hid (Xf w (.agg #[.int .i64 s,.slice q n cap]) a):=⟨_,_,_,_,rfl,hv⟩;have HV':Hid (Xf w (.agg #[.int .i64 s',.slice q' n' cap']) b):=⟨_,_,_,_,rfl,hv'⟩;have HC:=aa (IC a b);clear hv hv';rcases hc with h1 | ⟨h1,h2⟩
 all_goals
  rw[h1]at hn
  try rw[h2]at hn'
  go_enter func166,ntmps166
  go_wp2_with fail
  refine(Oi _ _ a b _ (HV.out.ext (((Ext.refl _).alloc _).alloc _)) (HV'.out.ext (((Ext.refl _).alloc _).alloc _)) ha hb).mono ?_;rintro e w1 ⟨_,rfl,⟨s1,q1,n1,cap1,rfl,hp1⟩,hx1⟩;have HP1:=aa hp1;clear hp1;go_wp2_with fail
  refine(Ab _ (a-b) _ ⟨_,_,_,_,rfl,HP1.out⟩).mono ?_;rw[HC.out];rintro e w2 ⟨rfl,hx2⟩;go_wp2
  go_ret
  exact⟨rfl,((((Ext.refl _).alloc _).alloc _).trans hx1).trans hx2⟩
theorem uE(v v':Value)(a b:Int)(w:World)(hv:Xf w v a)(hv':Xf w v' b)(ha:sz a<=1000000000)(hb:sz b<=1000000000):
  Calls prog 166 #[v,v'] w λe w'=>e = .returned (.int .i64 (YE a b))/\Ext w w':=by
 obtain⟨s,q,n,cap,e1,hp⟩:=hv;obtain⟨s',q',n',cap',e2,hp'⟩:=hv';rcases hp.isNone with ⟨rfl,rfl,rfl,rfl,h0,h1⟩ | ⟨_,_,rfl⟩
 ·rcases hp'.isNone with ⟨rfl,rfl,rfl,rfl,h0',h1'⟩ | ⟨_,_,rfl⟩
  ·subst e1 e2;exact q8 s s' w
  exact Ca _ _ _ _ w _ _ _ _ _ _ _ _ hp hp' e1 e2 (.inr ⟨rfl,rfl⟩) ha hb
 exact Ca _ _ _ _ w _ _ _ _ _ _ _ _ hp hp' e1 e2 (.inl rfl) ha hb
def N1{s:Int}(h0 : -9223372036854775808<=s)(h1:s<=9223372036854775807):0<=Jm s/\Jm s<W:=by
 rw[VD];have:=G5;omega
def yH{x y:Int}:XC x y+W*X4 x y=x*y:=by unfold XC X4;rw[fP];exact aD _ _
def yF{s t:Int}:(if(decide (s<0)==decide (t<0))then Jm s*Jm t else -(Jm s*Jm t))=s*t:=by
 unfold Jm;by_cases h1:s<0<;>by_cases h2:t<0<;>simp[h1,h2,bN,lO]
def xu{s t:Int}:sg (!(decide (s<0)==decide (t<0))) (Jm s*Jm t)=s*t:=by
 rw[<-yF (s:=s) (t:=t)];unfold sg;cases (decide (s<0)==decide (t<0))<;>simp
set_option maxRecDepth 100000 in
set_option maxHeartbeats 2000000 in
theorem qP(s s':Int)(w:World)(h0 : -9223372036854775808<=s)(h1:s<=9223372036854775807)(h0' : -9223372036854775808<=s')(h1':s'<=9223372036854775807)
  (hl:Jm s*Jm s'<=9223372036854775807) :
  Calls prog 160 #[.agg #[.int .i64 s,.slice none 0 0],.agg #[.int .i64 s',.slice none 0 0]] w λe w'=>Zh w (λv w'=>Xf w' v (s*s')) e w':=by
 have hn:=λw=>ar (P:=prog) w 114 256 none 0 0 0 0 underlying114;have b1:=N1 h0 h1;have b2:=N1 h0' h1';have hp0:0<=Jm s*Jm s':=aG b1.1 b2.1;have hhi:X4 (Jm s) (Jm s')=0:=fO hp0 (wk G5);have hlo:XC (Jm s) (Jm s')=Jm s*Jm s':=iG hp0 (wk G5);have HHI:=aa hhi;have HLO:=aa hlo;have HSG:=aa (yF (s:=s) (t:=s'));have HBa:=aa (Bx.L5 w (.cells #[.int .i64 s',.slice none 0 0] 116) (.cells IZ 116) 116 #[.int .i64 s,.slice none 0 0]);have HBb:=aa (Bx.yM w (.cells #[.int .i64 s,.slice none 0 0] 116) (.cells IZ 116) 116 #[.int .i64 s',.slice none 0 0]);generalize Jm s*Jm s'=p at *
 clear hhi hlo;by_cases hsg:(decide (s<0)==decide (s'<0))=true
 all_goals
  have hs2:=HSG.out
  first | rw[if_pos hsg]at hs2 | rw[if_neg hsg]at hs2
  have HS2:=aa hs2
  try have hsg3:(decide (s<0)==decide (s'<0))=false:=by simpa using hsg
  clear hs2;go_enter func160,ntmps160
  go_wp2_with fail
  go_region_held3 (λw'=>w'.cell? ⟨w.heap.size,0,none⟩=some (.int .i64 s)/\w'.cell? ⟨w.heap.size+1,0,none⟩=some (.int .i64 s'))
   (first | go_keep)
   (first
    |(go_at_call 210;(with_reducible refine(BB s _ h0 h1).mono ?_);rintro e w1 ⟨rfl,rfl⟩)
    |(go_at_call 210;(with_reducible refine(BB s' _ h0' h1').mono ?_);rintro e w1 ⟨rfl,rfl⟩)
    |(go_at_call 209;refine(KI _ _ _ b1 b2).mono ?_;rw[HHI.out,HLO.out];rintro e w1 ⟨rfl,rfl⟩))
  go_wp2
  first
   |exact bodyPost_ret (v:=.agg #[.int .i64 (-p),.slice none 0 0]) (by simp[results,results160,go_sem]) I ⟨_,rfl,by rw[<-HS2.out];exact Xf.small _ O O,(((Ext.refl w).alloc _).alloc _).alloc _ |>.drewN 1⟩
   |exact bodyPost_ret (v:=.agg #[.int .i64 p,.slice none 0 0]) (by simp[results,results160,go_sem]) I ⟨_,rfl,by rw[<-HS2.out];exact Xf.small _ O O,(((Ext.refl w).alloc _).alloc _).alloc _ |>.drewN 1⟩
set_option maxRecDepth 100000 in
set_option maxHeartbeats 4000000 in
theorem TF(s s':Int)(q q':Option Addr)(n n' cap cap':Nat)(a b:Int)(w:World)(hv:KC w s q n cap a)(hv':KC w s' q' n' cap' b)
  (hc:q.isNone=false\/(q.isNone=true/\q'.isNone=false)) (ha:sz a<=1000000000) (hb:sz b<=1000000000) :
  Calls prog 160 #[.agg #[.int .i64 s,.slice q n cap],.agg #[.int .i64 s',.slice q' n' cap']] w λe w'=>Zh w (λv w'=>Xf w' v (a*b)) e w':=by
 have hn:=λw=>ar (P:=prog) w 114 256 q n cap 0 0 underlying114;have hn':=λw=>ar (P:=prog) w 114 256 q' n' cap' 0 0 underlying114;have HV:Hid (Xf w (.agg #[.int .i64 s,.slice q n cap]) a):=⟨_,_,_,_,rfl,hv⟩;have HV':Hid (Xf w (.agg #[.int .i64 s',.slice q' n' cap']) b):=⟨_,_,_,_,rfl,hv'⟩;have HBb:=aa (Bx.yM w (.cells #[.int .i64 s,.slice q n cap] 116) (.cells IZ 116) 116 #[.int .i64 s',.slice q' n' cap']);have HBr:=aa (Bx.CJ w (.cells #[.int .i64 s,.slice q n cap] 116) (.cells #[.int .i64 s',.slice q' n' cap'] 116) 116 IZ);clear hv hv';rcases hc with h1 | ⟨h1,h2⟩
 all_goals
  rw[h1]at hn
  try rw[h2]at hn'
  go_enter func160,ntmps160
  go_wp2_with fail
  refine(KH _ a _ (HV.out.ext ((((Ext.refl _).alloc _).alloc _).alloc _))).mono ?_;rintro e w1 ⟨_,rfl,⟨p,la,rfl,hsa,hda,hna,hva⟩,hx⟩;have HB1:=aa (HBb.out.ext hx);have HR1:=aa (HBr.out.ext hx);obtain⟨c0,c1,f0,f1⟩:=HB1.out.two;have hlea:=ZB hda hna hva ha;have HVA:=aa hva;clear hva;go_wp2_with fail
  refine(KH _ b _ (HV'.out.ext (((((Ext.refl _).alloc _).alloc _).alloc _).trans hx))).mono ?_;rintro e w2 ⟨_,rfl,⟨p',lb,rfl,hsb,hdb,hnb,hvb⟩,hx2⟩;have HR2:=aa (HR1.out.ext hx2);have hleb:=ZB hdb hnb hvb hb;have HVB:=aa hvb;clear hvb c0 c1 f0 f1;have hsa2:=hsa.ext hx2;have HSG:Hid (sg (!(decide (a<0)==decide (b<0))) (dv W la*dv W lb)=a*b):=by
   show sg _ _=_;rw[HVA.out,HVB.out];exact xu
  go_wp2_with fail
  refine(EJ _ _ la lb _ hda hdb hsa2 hsb O O).mono ?_;rintro e w3 ⟨_,rfl,⟨l3,hs3,hd3,hn3,hv3⟩,hx3⟩;have HV3:=aa hv3;clear hv3;go_wp2_with fail
  refine(WL _ _ l3 _ hs3 hd3 hn3).mono ?_;rw[HV3.out,HSG.out];rintro e w4 ⟨_,rfl,⟨s4,q4,n4,cap4,rfl,hp4⟩,hx4⟩;have HR4:=aa ((HR2.out.ext hx3).ext hx4);obtain⟨c0,c1,f0,f1⟩:=HR4.out.two;go_wp2
  refine bodyPost_ret (v:=.agg #[.int .i64 s4,.slice q4 n4 cap4]) (by simp[results,results160,go_sem,c0,c1]) I ⟨_,rfl,⟨_,_,_,_,rfl,hp4.kp ((Kp.refl _).DU HR4.out.RY FA _ _)⟩,?_⟩;exact(((((((Ext.refl w).alloc _).alloc _).alloc _).trans hx).trans hx2).trans hx3 |>.trans hx4).DU O _ _
set_option maxRecDepth 100000 in
set_option maxHeartbeats 4000000 in
theorem yG(s s':Int)(w:World)(h0 : -9223372036854775808<=s)(h1:s<=9223372036854775807)(h0' : -9223372036854775808<=s')(h1':s'<=9223372036854775807)
  (hl:9223372036854775808<=Jm s*Jm s') (ha:sz s<=1000000000) (hb:sz s'<=1000000000) :
  Calls prog 160 #[.agg #[.int .i64 s,.slice none 0 0],.agg #[.int .i64 s',.slice none 0 0]] w λe w'=>Zh w (λv w'=>Xf w' v (s*s')) e w':=by
 have hn:=λw=>ar (P:=prog) w 114 256 none 0 0 0 0 underlying114;have b1:=N1 h0 h1;have b2:=N1 h0' h1';have HV:=aa (Xf.small w h0 h1);have HV':=aa (Xf.small w h0' h1');have HBa:=aa (Bx.L5 w (.cells #[.int .i64 s',.slice none 0 0] 116) (.cells IZ 116) 116 #[.int .i64 s,.slice none 0 0]);have HBb:=aa (Bx.yM w (.cells #[.int .i64 s,.slice none 0 0] 116) (.cells IZ 116) 116 #[.int .i64 s',.slice none 0 0]);have HBr:=aa (Bx.CJ w (.cells #[.int .i64 s,.slice none 0 0] 116) (.cells #[.int .i64 s',.slice none 0 0] 116) 116 IZ);have hhl:=yH (x:=Jm s) (y:=Jm s');have hor:X4 (Jm s) (Jm s')≠0\/9223372036854775808<=XC (Jm s) (Jm s'):=by
  by_cases h:X4 (Jm s) (Jm s')=0
  ·right;rw[h]at hhl;omega
  exact .inl h
 have hcase:(X4 (Jm s) (Jm s')==0)=false\/((X4 (Jm s) (Jm s')==0)=true/\9223372036854775808<=XC (Jm s) (Jm s')):=by
  by_cases h:X4 (Jm s) (Jm s')=0
  ·exact .inr ⟨by simpa using h,by rcases hor with g | g;exact absurd h g;exact g⟩
  exact .inl (by simpa using h)
 clear hor hhl hl;generalize hmh:X4 (Jm s) (Jm s')=mh at *
 generalize hml:XC (Jm s) (Jm s')=ml at *
 have HMH:=aa hmh;have HML:=aa hml;clear hmh hml;rcases hcase with g1 | ⟨g1,g2⟩
 all_goals
  go_enter func160,ntmps160
  go_wp2_with fail
  go_region_held3 (λw'=>w'.cell? ⟨w.heap.size,0,none⟩=some (.int .i64 s)/\w'.cell? ⟨w.heap.size+1,0,none⟩=some (.int .i64 s'))
   (first | go_keep)
   (first
    |(go_at_call 210;(with_reducible refine(BB s _ h0 h1).mono ?_);rintro e w1 ⟨rfl,rfl⟩)
    |(go_at_call 210;(with_reducible refine(BB s' _ h0' h1').mono ?_);rintro e w1 ⟨rfl,rfl⟩)
    |(go_at_call 209;refine(KI _ _ _ b1 b2).mono ?_;rw[HMH.out,HML.out];rintro e w1 ⟨rfl,rfl⟩))
  go_wp2_with fail
  refine(KH _ s _ (HV.out.ext (((((Ext.refl _).alloc _).alloc _).alloc _).drew))).mono ?_;rintro e w1 ⟨_,rfl,⟨p,la,rfl,hsa,hda,hna,hva⟩,hx⟩;have HB1:=aa (HBb.out.drew.ext hx);have HR1:=aa (HBr.out.drew.ext hx);obtain⟨c0,c1,f0,f1⟩:=HB1.out.two;have hlea:=ZB hda hna hva ha;have HVA:=aa hva;clear hva;go_wp2_with fail
  refine(KH _ s' _ (HV'.out.ext ((((((Ext.refl _).alloc _).alloc _).alloc _).drew).trans hx))).mono ?_;rintro e w2 ⟨_,rfl,⟨p',lb,rfl,hsb,hdb,hnb,hvb⟩,hx2⟩;have HR2:=aa (HR1.out.ext hx2);have hleb:=ZB hdb hnb hvb hb;have HVB:=aa hvb;clear hvb c0 c1 f0 f1;have hsa2:=hsa.ext hx2;have HSG:Hid (sg (!(decide (s<0)==decide (s'<0))) (dv W la*dv W lb)=s*s'):=by
   show sg _ _=_;rw[HVA.out,HVB.out];exact xu
  go_wp2_with fail
  refine(EJ _ _ la lb _ hda hdb hsa2 hsb O O).mono ?_;rintro e w3 ⟨_,rfl,⟨l3,hs3,hd3,hn3,hv3⟩,hx3⟩;have HV3:=aa hv3;clear hv3;go_wp2_with fail
  refine(WL _ _ l3 _ hs3 hd3 hn3).mono ?_;rw[HV3.out,HSG.out];rintro e w4 ⟨_,rfl,⟨s4,q4,n4,cap4,rfl,hp4⟩,hx4⟩;have HR4:=aa ((HR2.out.ext hx3).ext hx4);obtain⟨c0,c1,f0,f1⟩:=HR4.out.two;go_wp2
  refine bodyPost_ret (v:=.agg #[.int .i64 s4,.slice q4 n4 cap4]) (by simp[results,results160,go_sem,c0,c1]) I ⟨_,rfl,⟨_,_,_,_,rfl,hp4.kp ((Kp.refl _).DU HR4.out.RY FA _ _)⟩,?_⟩;exact((((((((Ext.refl w).alloc _).alloc _).alloc _).drew).trans hx).trans hx2).trans hx3 |>.trans hx4).DU O _ _
theorem dY(v v':Value)(a b:Int)(w:World)(hv:Xf w v a)(hv':Xf w v' b)(ha:sz a<=1000000000)(hb:sz b<=1000000000):
  Calls prog 160 #[v,v'] w λe w'=>Zh w (λv w'=>Xf w' v (a*b)) e w':=by
 obtain⟨s,q,n,cap,rfl,hp⟩:=hv;obtain⟨s',q',n',cap',rfl,hp'⟩:=hv';rcases hp.isNone with ⟨rfl,rfl,rfl,rfl,h0,h1⟩ | ⟨_,_,rfl⟩
 ·rcases hp'.isNone with ⟨rfl,rfl,rfl,rfl,h0',h1'⟩ | ⟨_,_,rfl⟩
  ·by_cases hl:Jm s*Jm s'<=9223372036854775807
   ·exact qP s s' w h0 h1 h0' h1' hl
   exact yG s s' w h0 h1 h0' h1' O ha hb
  exact TF _ _ _ _ _ _ _ _ _ _ w hp hp' (.inr ⟨rfl,rfl⟩) ha hb
 exact TF _ _ _ _ _ _ _ _ _ _ w hp hp' (.inl rfl) ha hb
theorem QBF(n:Int)(w:World)(h0 : -9223372036854775808<=n)(h1:n<=9223372036854775807):
  Calls prog 161 #[.int .i64 n] w λe w'=>Zh w (λv w'=>Xf w' v n) e w':=by
 go_enter func161,ntmps161
 go_wp2
 exact bodyPost_ret (v:=.agg #[.int .i64 n,.slice none 0 0]) (by simp[results,results161,go_sem]) I ⟨_,rfl,Xf.small _ h0 h1,(Ext.refl _).alloc _⟩
def LI{b:Int}(hb:0<b):(0<=a.tmod b->a.tdiv b=a/b/\a.tmod b=a%b)/\(a.tmod b<0->a.tdiv b-1=a/b/\a.tmod b+b=a%b):=by
 have h1:=Int.mul_tdiv_add_tmod a b;have h3:a.tmod b<b/\-b<a.tmod b:=by
  have:=bV a hb;refine⟨this,?_⟩;have h:=bV (-a) hb;rw[lk]at h;omega
 generalize a.tdiv b=q at *
 generalize a.tmod b=r at *
 constructor
 ·intro hr;have g1:q*b<=a:=by rw[aj];omega
  have g2:a<(q+1)*b:=by rw[bc,aj q];omega
  exact⟨(YD hb g1 g2).symm,by rw[YT g1 g2,aj q];omega⟩
 intro hr;have g1:(q-1)*b<=a:=by rw[eK,aj q];omega
 have g2:a<(q-1+1)*b:=by rw[show q-1+1=q from by omega,aj];omega
 exact⟨(YD hb g1 g2).symm,by rw[YT g1 g2,eK,aj q];omega⟩
def QFA(a b:Int)(r:Value)(w':World):Prop:=∃v v',r = .tuple #[v,v']/\Xf w' v (a/b)/\Xf w' v' (a%b)
set_option maxRecDepth 100000 in
set_option maxHeartbeats 400000 in
theorem Uk(s s':Int)(w:World)(h0 : -9223372036854775807<=s)(h1:s<=9223372036854775807)(hb0:0<s')(hb1:s'<=9223372036854775807):
  Calls prog 203 #[.agg #[.int .i64 s,.slice none 0 0],.agg #[.int .i64 s',.slice none 0 0]] w λe w'=>Zh w (QFA s s') e w':=by
 have hn:=λw=>ar (P:=prog) w 114 256 none 0 0 0 0 underlying114;have hm:(s != -9223372036854775808)=true:=w6;have hz:(s'==0)=false:=w6;have hT:=LI (a:=s) hb0;have HT:=aa hT;have hbd : -9223372036854775807<=s.tdiv s'/\s.tdiv s'<=9223372036854775807:=by
  have h:=Int.natAbs_tdiv_le_natAbs s s';omega
 have hrd : -9223372036854775807<=s.tmod s'/\s.tmod s'<=9223372036854775807:=by
  have:=bV s hb0;have h:=bV (-s) hb0;rw[lk]at h;omega
 clear hT;have hqr:Hid (-9223372036854775808<=s/s'/\s/s'<=9223372036854775807/\0<=s%s'/\s%s'<=9223372036854775807):=by
  have r0:=aK s (by omega:s'≠0);have r1:=aH s hb0;by_cases hr:0<=s.tmod s'
  ·have:=HT.out.1 hr;exact⟨O,O,r0,O⟩
  have:=HT.out.2 O;exact⟨O,O,r0,O⟩
 by_cases hr:0<=s.tmod s'
 ·have HR:=aa (HT.out.1 hr);go_enter func203,ntmps203
  go_wp2_with fail
  go_quiet (fail)
  go_wp2
  refine bodyPost_ret (v:=.tuple #[.agg #[.int .i64 (s.tdiv s'),.slice none 0 0],.agg #[.int .i64 (s.tmod s'),.slice none 0 0]]) (by simp[results,results203,go_sem]) I ⟨_,rfl,⟨_,_,rfl,?_,?_⟩,?_⟩
  ·rw[HR.out.1];exact Xf.small _ hqr.out.1 hqr.out.2.1
  ·rw[HR.out.2];exact Xf.small _ (wk hqr.out) hqr.out.2.2.2
  repeat (first | (with_reducible exact Ext.refl _) | (with_reducible refine Ext.drewN ?_ _) | (with_reducible refine Ext.drew ?_) | (with_reducible refine Ext.alloc ?_ _) | (with_reducible refine Ext.X1 ?_ (by dsimp only;omega) _))
 have HR:=aa (HT.out.2 O);have hw1:IntKind.i64.wrap (s.tdiv s'-1)=s.tdiv s'-1:=bA _ (by have:=HR.out;have:=hqr.out;omega);have hw2:IntKind.i64.wrap (s.tmod s'+s')=s.tmod s'+s':=bA _ O;have hr:s.tmod s'<0:=O;go_enter func203,ntmps203
 go_wp2_with fail
 go_quiet (fail)
 go_wp2
 go_quiet (fail)
 go_wp2
 refine bodyPost_ret (v:=.tuple #[.agg #[.int .i64 (s.tdiv s'-1),.slice none 0 0],.agg #[.int .i64 (s.tmod s'+s'),.slice none 0 0]]) (by simp[results,results203,go_sem]) I ⟨_,rfl,⟨_,_,rfl,?_,?_⟩,?_⟩
 ·rw[HR.out.1];exact Xf.small _ hqr.out.1 hqr.out.2.1
 ·rw[HR.out.2];exact Xf.small _ (wk hqr.out) hqr.out.2.2.2
 repeat (first | (with_reducible exact Ext.refl _) | (with_reducible refine Ext.drewN ?_ _) | (with_reducible refine Ext.drew ?_) | (with_reducible refine Ext.alloc ?_ _) | (with_reducible refine Ext.X1 ?_ (by dsimp only;omega) _))
def R9(F:Gs)(w:World):Prop:=∀b c T,F b=some (c,T)->∃fr,w.heap[b]?=some (.cells c T fr)
def Fits.r(h:Fits F w):R9 F w:=h.row
theorem R9.le(h:R9 F' w)(k:Gs.le F F'):R9 F w:=λb c T e=>h b c T (k b _ e)
def IT(w w':World):Prop:=∀(b:Nat) (c:Array Value) (fr:Nat×Nat),w.heap[b]?=some (.cells c 256 fr)->∃fr',w'.heap[b]?=some (.cells c 256 fr')
theorem VR.HH(h:IT w w'){b:Nat}(hb:VR w b 256):VR w' b 256:=by
 obtain⟨c,fr,e⟩:=hb;obtain⟨fr',e'⟩:=h b c fr e;exact⟨c,fr',e'⟩
theorem Cells.HH(h:IT w w'){q:Option Addr}{l:List Int}(hc:Cells w q Jj l):Cells w' q Jj l:=by
 intro i hi;obtain⟨b,off,e,ht,hcell⟩:=hc i hi;refine⟨b,off,e,VR.HH h ht,?_⟩;obtain⟨c,fr,hb⟩:=ht;obtain⟨fr',hb'⟩:=h b c fr hb;have e1:w.cell? ⟨b,off+i,none⟩=c[off+i]?:=by simp[eF,hb]
 have e2:w'.cell? ⟨b,off+i,none⟩=c[off+i]?:=by simp[eF,hb']
 rw[e2,<-e1];exact hcell
theorem SL.HH(h:IT w w'){v:Value}{l:List Int}(hs:SL w v Jj l):SL w' v Jj l:=by
 obtain⟨q,cap,h1,h2,h3,h4⟩:=hs;exact⟨q,cap,h1,h2,h3,h4.HH h⟩
theorem KC.HH(h:IT w w'){s:Int}{q:Option Addr}{n cap:Nat}{z:Int}(hv:KC w s q n cap z):KC w' s q n cap z:=by
 rcases hv with hv | ⟨b,off,l,h1,h2,h3,h4,h5,h6⟩
 ·exact .inl hv
 exact .inr ⟨b,off,l,h1,h2,h3,h4,h5.HH h,h6⟩
theorem QV.lift{f:FuncId}{val:γ->Value}{R:γ->World->Prop}(pr:γ->Prop)(he:Enters P f)(hF:Fits F w)
  (h:Calls P f args.toArray w λe w'=>∃c,e = .returned (val c)/\R c w'/\pr c/\Ext w w') (hR:∀c w' w'',IT w' w''->R c w'->R c w''):QV P f args w F val (λc F=>(∀w,R9 F w->R c w)/\pr c):=by
 refine⟨he,h.mono ?_⟩;rintro e w' ⟨c,rfl,hr,hpr,hx⟩;refine⟨c,λb=>if b<w.heap.size then F b else match w'.heap[b]? with | some (.cells c T _)=>if T=256 then some (c,256)else none | _=>none,rfl,.of hx,?_,?_,⟨?_,?_⟩,?_⟩
 ·intro b x hb;show(if b<w.heap.size then _ else _)=_;rw[if_pos (hF.lt hb)];exact hb
 ·intro b hb;show(if b<w.heap.size then _ else _)=_;rw[if_pos hb]
 ·intro b c T hb;by_cases hlt:b<w.heap.size
  ·rw[if_pos hlt]at hb;obtain⟨fr,e⟩:=hF.row b c T hb;exact⟨fr,by rw[hx.block b hlt];exact e⟩
  rw[if_neg hlt]at hb;split at hb
  ·rename_i c' T' fr heq;split at hb
   ·rename_i hT;cases hb;exact⟨fr,by rw[heq,hT]⟩
   cases hb
  cases hb
 ·intro b c fr hb;show(if b<w.heap.size then _ else _)=_;by_cases hlt:b<w.heap.size
  ·rw[if_pos hlt];rw[hx.block b hlt]at hb;exact hF.all b c fr hb
  rw[if_neg hlt,hb];simp
 intro F'' hle;refine⟨λw'' hw''=>?_,hpr⟩;refine hR c w' w'' (λb c fr hb=>?_) hr;refine hw'' b c _ (hle b _ ?_);show(if b<w.heap.size then _ else _)=_;by_cases hlt:b<w.heap.size
 ·rw[if_pos hlt];rw[hx.block b hlt]at hb;exact hF.all b c fr hb
 rw[if_neg hlt,hb];simp
structure Bg where
 s:Int
 q:Option Addr
 n:Nat
 cap:Nat
variable{g g':Bg}
@[reducible] def Bg.v (g:Bg):Value:=.agg #[.int .i64 g.s,.slice g.q g.n g.cap]
def XD(F:Gs)(g:Bg)(z:Int):Prop:=∀w,R9 F w->KC w g.s g.q g.n g.cap z
theorem XD.le(h:XD F g z)(k:Gs.le F F'):XD F' g z:=λw hw=>h w (hw.le k)
def XD.at(h:XD F g z){w:World}(hw:Fits F w):Xf w g.v z:=⟨_,_,_,_,rfl,h w hw.r⟩
def XD.small(F:Gs){z:Int}(h0 : -9223372036854775808<=z)(h1:z<=9223372036854775807):XD F ⟨z,none,0,0⟩ z:=λ_ _=>.inl ⟨rfl,rfl,rfl,rfl,h0,h1⟩
abbrev ZP(P:Program)(f:FuncId)(args:List Value)(w:World)(F:Gs)(z:Int):Prop:=QV P f args w F Bg.v λg F=>XD F g z
theorem ZP.of{f:FuncId}(he:Enters P f)(hF:Fits F w)(h:Calls P f args.toArray w λe w'=>Zh w (λv w'=>Xf w' v z) e w'):ZP P f args w F z:=by
 refine(QV.lift (λ_=>True) he hF (val:=Bg.v) (R:=λ(g:Bg) w=>KC w g.s g.q g.n g.cap z) (h.mono ?_) λc w' w'' hs hr=>hr.HH hs).imp λc F' hf=>⟨c,rfl,λF'' hle=>XD.le hf.1 hle⟩;rintro e w' ⟨v,rfl,⟨s,q,n,cap,rfl,hp⟩,hx⟩;exact⟨⟨s,q,n,cap⟩,rfl,hp,trivial,hx⟩
abbrev Qg[Dr](P:Program)(f:FuncId)(args:List Value)(w:World)(F:Gs)(v:Value):Prop:=QV P f args w F (λ(_:Unit)=>v) λ_ _=>True
theorem Qg.of{f:FuncId}{v:Value}(he:Enters P f)(hF:Fits F w)(h:Calls P f args.toArray w λe w'=>e = .returned v/\Ext w w'):Qg P f args w F v:=by
 have:=QV.lift (γ:=Unit) (val:=λ_=>v) (R:=λ_ _=>True) (λ_=>True) he hF (h.mono λe w' ⟨h1,h2⟩=>⟨(),h1,trivial,trivial,h2⟩) (λ_ _ _ _ h=>h);exact this.imp λc F' _=>⟨(),rfl,λ_ _=>trivial⟩
section
variable{w:World}{F:Gs}{g g':Bg}{a b:Int}
theorem P5(hF:Fits F w)(h:XD F g a):Qg prog 158 [g.v] w F (.int .i64 (MG a)) :=
 .of (enters_of func158 wy rfl) hF (Ab _ a w (h.at hF))
theorem RQ(hF:Fits F w)(h:XD F g a):ZP prog 207 [g.v] w F (-a) :=
 .of (enters_of func207 wy rfl) hF (UG _ a w (h.at hF))
theorem QAD(hF:Fits F w)(h:XD F g a):ZP prog 202 [g.v] w F (Jm a) :=
 .of (enters_of func202 wy rfl) hF (uQ _ a w (h.at hF))
theorem Cd(hF:Fits F w)(h:XD F g a)(h':XD F g' b)(ha:sz a<=1000000000)(hb:sz b<=1000000000):ZP prog 181 [g.v,g'.v] w F (a+b) :=
 .of (enters_of func181 wy rfl) hF (Ce _ _ a b w (h.at hF) (h'.at hF) ha hb)
theorem QDm(hF:Fits F w)(h:XD F g a)(h':XD F g' b)(ha:sz a<=1000000000)(hb:sz b<=1000000000):ZP prog 216 [g.v,g'.v] w F (a-b) :=
 .of (enters_of func216 wy rfl) hF (Oi _ _ a b w (h.at hF) (h'.at hF) ha hb)
theorem DJ(hF:Fits F w)(h:XD F g a)(h':XD F g' b)(ha:sz a<=1000000000)(hb:sz b<=1000000000):ZP prog 160 [g.v,g'.v] w F (a*b) :=
 .of (enters_of func160 wy rfl) hF (dY _ _ a b w (h.at hF) (h'.at hF) ha hb)
theorem QEf(hF:Fits F w)(h:XD F g a)(h':XD F g' b)(ha:sz a<=1000000000)(hb:sz b<=1000000000):Qg prog 166 [g.v,g'.v] w F (.int .i64 (YE a b)) :=
 .of (enters_of func166 wy rfl) hF (uE _ _ a b w (h.at hF) (h'.at hF) ha hb)
theorem Av{n:Int}(hF:Fits F w)(h0 : -9223372036854775808<=n)(h1:n<=9223372036854775807):ZP prog 161 [.int .i64 n] w F n :=
 .of (enters_of func161 wy rfl) hF (QBF n w h0 h1)
end
structure Sr where
 q:Option Addr
 n:Nat
 cap:Nat
@[reducible] def Sr.v (r:Sr):Value:=.slice r.q r.n r.cap
def VS(F:Gs)(r:Sr)(l:List Int):Prop:=(∀w,R9 F w->SL w r.v Jj l)/\DG W l/\NZ l
theorem VS.le{r:Sr}{l:List Int}(h:VS F r l)(k:Gs.le F F'):VS F' r l:=⟨λw hw=>h.1 w (hw.le k),h.2⟩
section
variable{w:World}{F:Gs}{g g':Bg}{a b:Int}
theorem Nv(hF:Fits F w)(h:XD F g a):QV prog 211 [g.v] w F (λ(c:Sr×List Int)=>.tuple #[.bool (decide (a<0)),.slice c.1.q c.1.n c.1.cap]) (λc F=>VS F c.1 c.2/\dv W c.2=Jm a):=by
 refine(QV.lift (val:=λ(c:Sr×List Int)=>.tuple #[.bool (decide (a<0)),.slice c.1.q c.1.n c.1.cap]) (R:=λc w=>SL w c.1.v Jj c.2) (λc=>DG W c.2/\NZ c.2/\dv W c.2=Jm a)
  (enters_of func211 wy rfl) hF ((KH _ a w (h.at hF)).mono ?_) λc w' w'' hs hr=>hr.HH hs).imp λc F' hf=>⟨c,rfl,λF'' hle=>⟨VS.le ⟨hf.1,hf.2.1,hf.2.2.1⟩ hle,hf.2.2.2⟩⟩
 rintro e w' ⟨_,rfl,⟨p,l,rfl,hs,h1,h2,h3⟩,hx⟩;obtain⟨q,cap,rfl,hq⟩:=hs;exact⟨(⟨q,l.length,cap⟩,l),rfl,⟨q,cap,rfl,hq⟩,⟨h1,h2,h3⟩,hx⟩
theorem yR{neg:Bool}{r:Sr}{l:List Int}(hF:Fits F w)(h:VS F r l):ZP prog 212 [.bool neg,r.v] w F (sg neg (dv W l)) :=
 .of (enters_of func212 wy rfl) hF (WL neg _ l w (h.1 w hF.r) h.2.1 h.2.2)
theorem F4{r r':Sr}{la lb:List Int}(hF:Fits F w)(h:VS F r la)(h':VS F r' lb)(hb0:lb≠[])(h1:la.length<=10000000000)(h2:lb.length<=10000000000):
  QV prog 229 [r.v,r'.v] w F (λ(c:(Sr×List Int)×(Sr×List Int))=>.tuple #[.slice c.1.1.q c.1.1.n c.1.1.cap,.slice c.2.1.q c.2.1.n c.2.1.cap])
   (λc F=>(VS F c.1.1 c.1.2/\VS F c.2.1 c.2.2)/\dv W c.1.2=dv W la/dv W lb/\dv W c.2.2=dv W la%dv W lb):=by
 refine(QV.lift (val:=λ(c:(Sr×List Int)×(Sr×List Int))=>.tuple #[.slice c.1.1.q c.1.1.n c.1.1.cap,.slice c.2.1.q c.2.1.n c.2.1.cap]) (R:=λc w=>SL w c.1.1.v Jj c.1.2/\SL w c.2.1.v Jj c.2.2)
  (λc=>(DG W c.1.2/\NZ c.1.2)/\(DG W c.2.2/\NZ c.2.2)/\dv W c.1.2=dv W la/dv W lb/\dv W c.2.2=dv W la%dv W lb)
  (enters_of func229 wy rfl) hF ((OD _ _ la lb w h.2.1 h'.2.1 h.2.2 h'.2.2 (h.1 w hF.r) (h'.1 w hF.r) hb0 h1 h2).mono ?_) λc w' w'' hs hr=>⟨hr.1.HH hs,hr.2.HH hs⟩).imp
  λc F' hf=>⟨c,rfl,λF'' hle=>⟨⟨VS.le ⟨λw hw=>(hf.1 w hw).1,hf.2.1⟩ hle,VS.le ⟨λw hw=>(hf.1 w hw).2,hf.2.2.1⟩ hle⟩,hf.2.2.2⟩⟩
 rintro e w' ⟨_,rfl,⟨pq,pr,lq,lr,rfl,hsq,hsr,hdq,hdr,hvq,hvr⟩,hx⟩;obtain⟨q,cap,rfl,hq⟩:=hsq;obtain⟨q',cap',rfl,hq'⟩:=hsr;exact⟨((⟨q,lq.length,cap⟩,lq),(⟨q',lr.length,cap'⟩,lr)),rfl,⟨⟨q,cap,rfl,hq⟩,⟨q',cap',rfl,hq'⟩⟩,⟨hdq,hdr,hvq,hvr⟩,hx⟩
end
def Ec{b:Int}(hb:0<b):
  (0<=sg (decide (a<0)) (Jm a%b)->sg (decide (a<0)) (Jm a/b)=a/b/\sg (decide (a<0)) (Jm a%b)=a%b) /\
  (sg (decide (a<0)) (Jm a%b)<0->sg (decide (a<0)) (Jm a/b)-1=a/b/\sg (decide (a<0)) (Jm a%b)+b=a%b):=by
 have q1:=aD (Jm a) b;have q2:=aK (Jm a) (by omega:b≠0);have q3:=aH (Jm a) hb;generalize Jm a/b=q at *
 generalize hr:Jm a%b=r at *
 by_cases h:a<0
 ·rw[EP h]at q1;have e1:sg (decide (a<0)) r = -r:=by simp[sg,h]
  have e2:sg (decide (a<0)) q = -q:=by simp[sg,h]
  rw[e1,e2];constructor
  ·intro h0;have:r=0:=O;have g1 : -q*b<=a:=by rw[bN,aj];omega
   have g2:a<(-q+1)*b:=by rw[bc,bN,aj q];omega
   exact⟨(YD hb g1 g2).symm,by rw[YT g1 g2,bN,aj q];omega⟩
  intro h0;have g1:(-q-1)*b<=a:=by rw[eK,bN,aj q];omega
  have g2:a<(-q-1+1)*b:=by rw[show -q-1+1 = -q from by omega,bN,aj];omega
  exact⟨(YD hb g1 g2).symm,by rw[YT g1 g2,eK,bN,aj q];omega⟩
 rw[GO O]at q1 hr;have e1:sg (decide (a<0)) r=r:=by simp[sg,h]
 have e2:sg (decide (a<0)) q=q:=by simp[sg,h]
 rw[e1,e2];constructor
 ·intro _;have g1:q*b<=a:=by rw[aj];omega
  have g2:a<(q+1)*b:=by rw[bc,aj q];omega
  exact⟨(YD hb g1 g2).symm,by rw[YT g1 g2,aj q];omega⟩
 intro h0;omega
def KF(x:Int):MG x<0↔x<0:=by unfold MG;split<;>(try split)<;>omega
def AU(a b:Int):sz (Jm a/b)<=sz a:=by
 rw[<-Np a];apply KX;exact bw _ _
def uj(n:Bool)(x:Int):sz (sg n x)=sz x:=by unfold sg;split<;>simp[VZ]
def Oh{b:Int}(hb:0<b):sz (a%b)<=sz b:=by
 apply KX;have:=aK a (by omega:b≠0);have:=aH a hb;omega
abbrev Ti(P:Program)(f:FuncId)(args:List Value)(w:World)(F:Gs)(y z:Int):Prop:=QV P f args w F (λ(c:Bg×Bg)=>.tuple #[c.1.v,c.2.v]) λc F=>XD F c.1 y/\XD F c.2 z
theorem OB{b:Int}(hF:Fits F w)(h:XD F g a)(h':XD F g' b)(hb0:0<b)(hza:sz a<=1000000000)(hzb:sz b<=1000000000)(hcase:g.q.isNone=true->g'.q.isNone=true->(g.s != -9223372036854775808)=false):
  Ti prog 203 [g.v,g'.v] w F (a/b) (a%b):=by
 refine QV.intro (G:=λF=>XD F g a/\XD F g' b) func203 rfl wy rfl rfl hF (λF' hF'=>⟨h.le hF',h'.le hF'⟩)<|QG<|QB ?_
 refine Qs I (vs:=[_,_]) I (λb2=>?_);refine Qs I (vs:=[_,_]) I (λb3=>?_);refine Qc Yl (λb4=>?_);refine Qc Yl (λb5=>?_);refine QHz<|QG ?_
 refine Et 28 (.bool false) ?_ ?_
 ·refine QB<|QA (QH I Bm VW)<|QA (Qf I VW .u3 (.skip .h1))<|QA (GJ I I Y8)<|QH0 I ?_
  refine Ql (t:=19) rfl (λhb19=>?_) λhb19=>?_
  ·refine QM I I<|QA (QH I Bm VW)<|QM I I<|QA (Qf I VW .u2 (.skip .h1))<|QM I I<|QA (GJ I I Y8)<|wB 2 I ?_
   refine Ql (t:=24) rfl (λhb24=>?_) λhb24=>?_
   ·refine QM I I<|QA (QH I EZ JO)<|QM I I<|QA (Qf I JO .u3 .h1)<|wB 4 I ?_
    exact ZS (exd 15 rfl rfl) (congrArg (λb=>some (ah b)) (hcase hb19 hb24)) QIM w9
   refine wB 5 I ?_;exact ZS (exd 15 rfl rfl) rfl QIM w9
  refine wB 10 I ?_;exact ZS (exd 14 rfl rfl) rfl QIM w9
 refine Yv I ?_
 ·refine QJL 4 I<|QA (wH I Qi .u3) ?_
  refine QI I (λw F hF ⟨ha,hb⟩=>Nv hF (by assumption)) (λc53=>?_);rcases c53 with ⟨v53,l53⟩;dsimp only;refine JM _ (λw F hF ⟨⟨ha,hb⟩,⟨h53,h53p⟩⟩=>bH h53.2 h53p) (λp53=>?_);have hl53:=ZB p53.1.1 p53.1.2 p53.2 hza;refine QJK 9 I<|QA (wH I Qi .u2) ?_
  refine QI I (λw F hF ⟨⟨ha,hb⟩,⟨h53,h53p⟩⟩=>Nv hF (by assumption)) (λc58=>?_);rcases c58 with ⟨v58,l58⟩;dsimp only;refine JM _ (λw F hF ⟨⟨⟨ha,hb⟩,⟨h53,h53p⟩⟩,⟨h58,h58p⟩⟩=>bH h58.2 h58p) (λp58=>?_);have hl58:=ZB p58.1.1 p58.1.2 p58.2 hzb;have hb58:l58≠[]:=by rintro rfl;have:=p58.2;rw[GO O]at this;simp at this;omega
  refine QJK 11 I ?_;refine QI I (λw F hF ⟨⟨⟨ha,hb⟩,⟨h53,h53p⟩⟩,⟨h58,h58p⟩⟩=>F4 hF (by assumption) (by assumption) hb58 O O) (λc64=>?_);rcases c64 with ⟨⟨v64,l64⟩,v64_,l64_⟩;dsimp only;refine JM _ (λw F hF ⟨⟨⟨⟨ha,hb⟩,⟨h53,h53p⟩⟩,⟨h58,h58p⟩⟩,⟨⟨h64,h64_⟩,h64p⟩⟩=>bH h64.2 (bH h64_.2 h64p)) (λp64=>?_);rw[p53.2,p58.2,GO (show 0<=b by omega)]at p64;refine QJK 11 I ?_;refine QI I (λw F hF ⟨⟨⟨⟨ha,hb⟩,⟨h53,h53p⟩⟩,⟨h58,h58p⟩⟩,⟨⟨h64,h64_⟩,h64p⟩⟩=>yR hF (by assumption)) (λg69=>?_);refine wB 2 I ?_;refine QI I (λw F hF ⟨⟨⟨⟨⟨ha,hb⟩,⟨h53,h53p⟩⟩,⟨h58,h58p⟩⟩,⟨⟨h64,h64_⟩,h64p⟩⟩,h69⟩=>yR hF (by assumption)) (λg72=>?_);refine Qc Yl (λb14=>?_);refine Qc Yl (λb15=>?_);refine QU (vs:=[_,_]) I I I Qi I .u1 .h2 wT<|QU (vs:=[_,_]) I I I Qi I .here .h2 wT<|QJK 5 I<|QA (wH I Qi .here) ?_
  refine QI I (λw F hF ⟨⟨⟨⟨⟨⟨ha,hb⟩,⟨h53,h53p⟩⟩,⟨h58,h58p⟩⟩,⟨⟨h64,h64_⟩,h64p⟩⟩,h69⟩,h72⟩=>P5 hF (by assumption)) (λ_=>?_);refine QJK 3 I ?_;have hsz72:sz (sg (decide (a<0)) (dv W l64_))<=1000000000:=by rw[uj,p64.2.2.2];exact ab (Oh hb0) hzb
  have hsz69:sz (sg (decide (a<0)) (dv W l64))<=1000000000:=by rw[uj,p64.2.2.1];exact ab (AU a b) hza
  refine QR I (λhc=>?_) λhc=>?_
  ·refine Jp 6 QIM mixed wm wm ?_;simp only[aT,bC,aU,aP];refine QK (wH I Qi .u1) ?_;refine QP I (λ_ _ f k=>Av f O O) (λg77=>?_);refine QP I (λw F hF ⟨⟨⟨⟨⟨⟨⟨⟨ha,hb⟩,⟨h53,h53p⟩⟩,⟨h58,h58p⟩⟩,⟨⟨h64,h64_⟩,h64p⟩⟩,h69⟩,h72⟩,_⟩,h77⟩=>QDm hF (by assumption) (by assumption) hsz69 wu) (λg78=>?_);refine QK (wH I Qi .here)<|QK (wH I Qi .u4) ?_
   refine QP I (λw F hF ⟨⟨⟨⟨⟨⟨⟨⟨⟨ha,hb⟩,⟨h53,h53p⟩⟩,⟨h58,h58p⟩⟩,⟨⟨h64,h64_⟩,h64p⟩⟩,h69⟩,h72⟩,_⟩,h77⟩,h78⟩=>Cd hF (by assumption) hb hsz72 hzb) (λg81=>?_);refine ZV<|QU (vs:=[_,_]) I I I Qi I .u1 .h2 wT<|QU (vs:=[_,_]) I I I Qi I .here .h2 wT<|QHz<|QG<|JH (.cons_cons _ (.cons_cons _ (.cons _ (.cons _ tC)))) mixed wm<|QK (wH I Qi .u1)<|QK (wH I Qi .here)<|JR (vs:=[_,_]) I I I Qi I .u3 (.cons_cons _ (.cons_cons _ (.cons _ tC))) w9 .h2 wT<|JR (vs:=[_,_]) I I I Qi I .u2 (.cons_cons _ (.cons_cons _ (.cons _ tC))) w9 .h2 wT<|Q7<|QC<|QY ?_
   exact Jd (⟨g78,g81⟩) I (.JX (c:=[_,_]) I Qi .u3 (.JX (c:=[_,_]) I Qi .u2 .nil)) I λF ⟨⟨⟨⟨⟨⟨⟨⟨⟨⟨ha,hb⟩,⟨h53,h53p⟩⟩,⟨h58,h58p⟩⟩,⟨⟨h64,h64_⟩,h64p⟩⟩,h69⟩,h72⟩,_⟩,h77⟩,h78⟩,h81⟩=>(by have hd:=(Ec hb0).2 (by rw[<-p64.2.2.2];exact(KF _).1 (by simpa using hc));rw[p64.2.2.1]at h78;rw[p64.2.2.2]at h81;rw[hd.1]at h78;rw[hd.2]at h81;exact⟨h78,h81⟩)
  refine QJL 3 I<|JH (.cons_cons _ (.cons_cons _ (.cons _ (.cons _ tC)))) mixed wm<|QK (wH I Qi .u1)<|QK (wH I Qi .here)<|JR (vs:=[_,_]) I I I Qi I .u3 (.cons_cons _ (.cons_cons _ (.cons _ tC))) w9 .h2 wT<|JR (vs:=[_,_]) I I I Qi I .u2 (.cons_cons _ (.cons_cons _ (.cons _ tC))) w9 .h2 wT<|Q7<|QC<|QY ?_
  exact Jd (⟨g69,g72⟩) I (.JX (c:=[_,_]) I Qi .u3 (.JX (c:=[_,_]) I Qi .u2 .nil)) I λF ⟨⟨⟨⟨⟨⟨⟨ha,hb⟩,⟨h53,h53p⟩⟩,⟨h58,h58p⟩⟩,⟨⟨h64,h64_⟩,h64p⟩⟩,h69⟩,h72⟩,_⟩=>(by have hd:=(Ec hb0).1 (by rw[<-p64.2.2.2];have:=mt (KF _).2 (by simpa using hc);omega);rw[p64.2.2.1]at h69;rw[p64.2.2.2]at h72;rw[hd.1]at h69;rw[hd.2]at h72;exact⟨h69,h72⟩)
theorem Ed{b:Int}(hF:Fits F w)(h:XD F g a)(h':XD F g' b)(hb0:0<b)(hza:sz a<=1000000000)(hzb:sz b<=1000000000):
  Ti prog 203 [g.v,g'.v] w F (a/b) (a%b):=by
 by_cases hs:g.q.isNone=true/\g'.q.isNone=true/\(g.s != -9223372036854775808)=true
 ·obtain⟨s,q,n,cap⟩:=g;obtain⟨s',q',n',cap'⟩:=g';have hp:=h w hF.r;have hp':=h' w hF.r;obtain⟨h1,h2,h3⟩:=hs;dsimp only at *
  rcases hp.isNone with ⟨rfl,rfl,rfl,rfl,k0,k1⟩ | ⟨_,_,rfl⟩
  ·rcases hp'.isNone with ⟨rfl,rfl,rfl,rfl,k0',k1'⟩ | ⟨_,_,rfl⟩
   ·have hm:s≠-9223372036854775808:=by simpa using h3
    refine(QV.lift (val:=λ(c:Bg×Bg)=>.tuple #[c.1.v,c.2.v]) (R:=λc w=>KC w c.1.s c.1.q c.1.n c.1.cap (s/s')/\KC w c.2.s c.2.q c.2.n c.2.cap (s%s')) (λ_=>True) (enters_of func203 wy rfl) hF
     ((Uk s s' w O k1 hb0 k1').mono ?_) λc w' w'' hs hr=>⟨hr.1.HH hs,hr.2.HH hs⟩).imp λc F' hf=>⟨c,rfl,λF'' hle=>⟨XD.le (λw hw=>(hf.1 w hw).1) hle,XD.le (λw hw=>(hf.1 w hw).2) hle⟩⟩
    rintro e w' ⟨_,rfl,⟨v,v',rfl,⟨s1,q1,n1,cap1,rfl,hp1⟩,⟨s2,q2,n2,cap2,rfl,hp2⟩⟩,hx⟩;exact⟨(⟨s1,q1,n1,cap1⟩,⟨s2,q2,n2,cap2⟩),rfl,⟨hp1,hp2⟩,trivial,hx⟩
   cases h2
  cases h1
 refine OB hF h h' hb0 hza hzb λh1 h2=>?_;cases hv:(g.s != -9223372036854775808)with
 |false=>rfl
 |true=>exact absurd ⟨h1,h2,hv⟩ hs
theorem MP{b:Int}(h:b ∣ a): -a / -b=a/b:=by
 obtain⟨c,rfl⟩:=h;by_cases hb:b=0
 ·subst hb;simp
 rw[Int.ediv_neg,<-lO,fB _ hb,fB _ hb];omega
theorem ux{b:Int}(hF:Fits F w)(h:XD F g a)(h':XD F g' b)(hb0:b≠0)(hd:b ∣ a)(hza:sz a<=1000000000)(hzb:sz b<=1000000000):
  ZP prog 208 [g.v,g'.v] w F (a/b):=by
 refine QV.intro (G:=λF=>XD F g a/\XD F g' b) func208 rfl wy rfl rfl hF (λF' hF'=>⟨h.le hF',h'.le hF'⟩)<|QG<|QB ?_
 refine Qs I (vs:=[_,_]) I (λb2=>?_);refine Qs I (vs:=[_,_]) I (λb3=>?_);refine Qc Yl (λb4=>?_);refine QJK 5 I<|QA (wH I Qi .u1) ?_
 refine QI I (λw F hF ⟨ha,hb⟩=>P5 hF (by assumption)) (λ_=>?_);refine QJK 3 I ?_;refine QR I (λhc=>?_) λhc=>?_
 ·refine Jp 4 QIM mixed wm wm ?_;simp only[aT,bC,aU,aP];refine QK (wH I Qi .u2) ?_;refine QP I (λw F hF ⟨⟨ha,hb⟩,_⟩=>RQ hF (by assumption)) (λg11=>?_);refine QK (wH I Qi .u1) ?_;refine QP I (λw F hF ⟨⟨⟨ha,hb⟩,_⟩,h11⟩=>RQ hF (by assumption)) (λg13=>?_);refine ZV<|QU (vs:=[_,_]) I I I Qi I .u2 .h2 wT<|QU (vs:=[_,_]) I I I Qi I .u1 .h2 wT<|QHz<|QI7<|QA (wH I Qi .u2)<|QA (wH I Qi .u1) ?_
  refine QI I (λ_ _ f k=>Ed f k.1.2 k.2 (by have:=(KF b).1 (by simpa using hc);omega) (by rw[VZ];exact hza) (by rw[VZ];exact hzb)) (λc17=>?_);rcases c17 with ⟨g17,g17_⟩;dsimp only;refine wB 3 I ?_;refine Qc Yl (λb5=>?_);refine Qc Yl (λb6=>?_);refine QU (vs:=[_,_]) I I I Qi I .u1 .h2 wT<|QU (vs:=[_,_]) I I I Qi I .here .h2 wT<|QHz<|QI7<|QA (wH I Qi .u1)<|QU (vs:=[_,_]) I I I Qi I .u2 .h2 wT<|QHz<|QY ?_
  exact QS (_) rfl (.JX (c:=[_,_]) I Qi .u2 .nil) rfl λF ⟨⟨⟨⟨⟨ha,hb⟩,_⟩,h11⟩,h13⟩,⟨h17,h17_⟩⟩=>(by rw[show -a / -b=a/b from MP hd]at h17;exact h17)
 refine QJL 4 I<|QA (wH I Qi .u2)<|QA (wH I Qi .u1) ?_
 refine QI I (λ_ _ f k=>Ed f k.1.1 k.1.2 (by have:=mt (KF b).2 (by simpa using hc);omega) hza hzb) (λc17=>?_);rcases c17 with ⟨g17,g17_⟩;dsimp only;refine wB 3 I ?_;refine Qc Yl (λb5=>?_);refine Qc Yl (λb6=>?_);refine QU (vs:=[_,_]) I I I Qi I .u1 .h2 wT<|QU (vs:=[_,_]) I I I Qi I .here .h2 wT<|QHz<|QI7<|QA (wH I Qi .u1)<|QU (vs:=[_,_]) I I I Qi I .u2 .h2 wT<|QHz<|QY ?_
 exact QS (_) rfl (.JX (c:=[_,_]) I Qi .u2 .nil) rfl λF h9=>h9.2.1
def xr(x:Int)(h:MG x≠0):x≠0:=by rintro rfl;exact h rfl
def QAo(x:Int)(h:MG x=0):x=0:=by unfold MG at h;split at h<;>(try split at h)<;>omega
structure QE9(a b:Int) where
 x:Int
 y:Int
 gx:Bg
 gy:Bg
 hx:0<=x
 hy:0<=y
 hg:bZ x y=bZ a b
 sx:sz x<=1000000000
 sy:sz y<=1000000000
theorem cY{b:Int}(hF:Fits F w)(h:XD F g a)(h':XD F g' b)(hza:sz a<=1000000000)(hzb:sz b<=1000000000):
  ZP prog 154 [g.v,g'.v] w F (bZ a b):=by
 refine QV.intro (G:=λF=>XD F g a/\XD F g' b) func154 rfl wy rfl rfl hF (λF' hF'=>⟨h.le hF',h'.le hF'⟩)<|QG<|QB ?_
 refine Qs I (vs:=[_,_]) I (λb2=>?_);refine Qs I (vs:=[_,_]) I (λb3=>?_);refine Qc Yl (λb4=>?_);refine QHz<|QG<|Jp 4 QIM mixed wm wm ?_
 simp only[aT,bC,aU,aP];refine QK (wH I Qi .u2) ?_;refine QP I (λw F hF ⟨ha,hb⟩=>QAD hF (by assumption)) (λg8=>?_);refine QK (wH I Qi .u1) ?_;refine QP I (λw F hF ⟨⟨ha,hb⟩,h8⟩=>QAD hF (by assumption)) (λg10=>?_);refine ZV<|QU (vs:=[_,_]) I I I Qi I .u2 .h2 wT<|QU (vs:=[_,_]) I I I Qi I .u1 .h2 wT<|QJK 4 I ?_
 refine YA (ι:=QE9 a b) (λi=>[(2,.pointer (some ⟨b2,0,none⟩)),(3,.pointer (some ⟨b3,0,none⟩)),(4,.pointer (some ⟨b4,0,none⟩))]) (λi=>[(b4,.cells #[.int .i64 0,.slice none 0 0] 116 (0,0)),(b3,.cells #[.int .i64 i.gy.s,.slice i.gy.q i.gy.n i.gy.cap] 116 (0,0)),(b2,.cells #[.int .i64 i.gx.s,.slice i.gx.q i.gx.n i.gx.cap] 116 (0,0))])
  (λi F=>XD F i.gx i.x/\XD F i.gy i.y) (λi=>i.y.toNat) ⟨Jm a,Jm b,g8,g10,by rw[VD];omega,by rw[VD];omega,by rw[VD,VD];rfl,by rw[Np];exact hza,by rw[Np];exact hzb⟩ wU QIM (λ_ ⟨⟨_,h8⟩,h10⟩=>⟨h8,h10⟩) λi=>?_
 refine QG<|QI7<|QA (wH I Qi .u1) ?_
 refine QI I (λw F hF ⟨hX,hY⟩=>P5 hF (by assumption)) (λ_=>?_);refine QJK 3 I ?_;refine QR I (λhc=>?_) λhc=>?_
 ·refine QJL 5 I<|QA (wH I Qi .u2)<|QA (wH I Qi .u1) ?_
  refine QI I (λ_ _ f k=>Ed f k.1.1 k.1.2 (by have:=i.hy;have:=xr i.y (by simpa using hc);omega) i.sx i.sy) (λc17=>?_);rcases c17 with ⟨g17,g17_⟩;dsimp only;refine wB 3 I ?_;refine Qc Yl (λb5=>?_);refine Qc Yl (λb6=>?_);refine QU (vs:=[_,_]) I I I Qi I .u1 .h2 wT<|QU (vs:=[_,_]) I I I Qi I .here .h2 wT<|QHz<|Jp 3 (.cons_cons _ (.cons_cons _ (.cons_cons _ (.cons_cons _ (.cons _ .slnil))))) mixed wm wm ?_
  simp only[aT,bC,aU,aP];refine QK (wH I Qi .u3)<|QK (wH I Qi .here)<|JR (vs:=[_,_]) I I I Qi I .u4 tC w9 .h2 wT<|ZV<|QU (vs:=[_,_]) I I I Qi I .u3 .h2 wT<|QE<|Qk ?_
  have hy0:0<i.y:=by have:=i.hy;have:=xr i.y (by simpa using hc);omega
  have hm0:=aK i.x (by omega:i.y≠0);have hm1:=aH i.x hy0;refine Qm (⟨i.y,i.x%i.y,i.gy,g17_,i.hy,hm0,by rw[<-i.hg,lz,Int.emod_def];first | rw[Int.gcd_sub_mul_left_left] | rw[Int.gcd_sub_mul_right_left] | rw[Int.gcd_sub_mul_left_right],i.sy,ab (Oh hy0) i.sy⟩:QE9 a b) (by show(i.x%i.y).toNat<i.y.toNat;omega) wU (.cons _ (.cons _ QIM)) λ_ ⟨⟨⟨_,hY⟩,_⟩,⟨_,h17⟩⟩=>⟨hY,h17⟩
 refine Qz ?_
 repeat first|refine QZ ?_|refine QQ wy ?_
 refine Qa<|QC<|QI7<|QA (wH I Qi .u2)<|QU (vs:=[_,_]) I I I Qi I .here .h2 wT<|QHz<|QY ?_
 exact QS (_) rfl (.JX (c:=[_,_]) I Qi .here .nil) rfl λF h9=>(by have h0:i.y=0:=QAo i.y (by simpa using hc);have e:=i.hg;rw[h0,Int.gcd_zero_right]at e;rw[<-e,fZ i.hx];exact h9.1.1)
def Bw(a:Int):∀e:Nat,sz (a^e)<=e*sz a+1
 |0=>by simp;decide
 |e+1=>by
  rw[bm];have:=K3 (a^e) a;have:=Bw a e;rw[bL];omega
structure QCA(K:Nat) where
 k:Int
 e:Nat
 p:Nat
 go:Bg
 gx:Bg
 hk:0<=k
 hK:k<=9223372036854775807
 hp:1<=p
 h:e+p*k.toNat=K
structure QB9(K p:Nat)(k:Int) where
 e:Nat
 go:Bg
 h:e+p*(2*(k.toNat/2))=K
def UC{K e:Nat}(he:e<=K)(h:K*sz a<=500000000):sz (a^e)<=1000000000:=by
 have h1:=Bw a e;have h2:=fU (sz a) he;omega
theorem zX{k:Int}(hF:Fits F w)(h:XD F g a)(hk:0<=k)(hK:k<=9223372036854775807)(hz:k.toNat*sz a<=500000000):
  ZP prog 198 [g.v,.int .i64 k] w F (a^k.toNat):=by
 refine QV.intro (G:=λF=>XD F g a) func198 rfl wy rfl rfl hF (λF' hF'=>h.le hF')<|QI7<|Qs rfl (vs:=[_,_]) rfl λb2=>Qc Yl λb4=>QHz<|QI7<|QI rfl (λ_ _ f k=>Av f O O) λg6=>Qc Yl λb5=>QU (vs:=[_,_]) rfl rfl rfl Qi rfl .here .h2 wT<|QJK 4 I ?_
 refine YA (ι:=QCA k.toNat) (λi=>[(1,.int .i64 i.k),(2,.pointer (some ⟨b2,0,none⟩)),(4,.pointer (some ⟨b4,0,none⟩)),(5,.pointer (some ⟨b5,0,none⟩))]) (λi=>[(b5,.cells #[.int .i64 i.go.s,.slice i.go.q i.go.n i.go.cap] 116 (0,0)),(b4,.cells #[.int .i64 0,.slice none 0 0] 116 (0,0)),(b2,.cells #[.int .i64 i.gx.s,.slice i.gx.q i.gx.n i.gx.cap] 116 (0,0))])
  (λi F=>XD F i.go (a^i.e)/\XD F i.gx (a^i.p)) (λi=>i.k.toNat) ⟨k,0,1,g6,g,hk,hK,aE _,wz⟩ wV QIM (λ_ ⟨h1,h6⟩=>⟨by simpa using h6,by show XD _ _ (a^1);rw[bm,lf,fe];exact h1⟩) λi=>?_
 refine wA 7 I ?_;refine QR I (λhc=>?_) λhc=>?_
 ·refine QJL 4 I ?_;have hk0:0<i.k:=by simpa using hc
  have hpk:i.p<=k.toNat:=by have:=i.h;have:=aL i.p (show 1<=i.k.toNat by omega);omega
  have hik:=i.hk;have hiK:=i.hK;refine BU (ι:=QB9 k.toNat i.p i.k) (λj=>[(1,.int .i64 i.k),(2,.pointer (some ⟨b2,0,none⟩)),(4,.pointer (some ⟨b4,0,none⟩)),(5,.pointer (some ⟨b5,0,none⟩))]) (λj=>[(b5,.cells #[.int .i64 j.go.s,.slice j.go.q j.go.n j.go.cap] 116 (0,0)),(b4,.cells #[.int .i64 0,.slice none 0 0] 116 (0,0)),(b2,.cells #[.int .i64 i.gx.s,.slice i.gx.q i.gx.n i.gx.cap] 116 (0,0))])
   (λj F=>XD F j.go (a^j.e)/\XD F i.gx (a^i.p)) ?_ ?_
  ·refine wR I<|QA (QAz I I O)<|QJK 3 I ?_
   refine QR I (λhc=>?_) λhc=>?_
   ·refine QB<|QA (wH I Qi .here)<|QA (wH I Qi .u2)<|QI I (λ_ _ f k=>DJ f k.1 k.2 (UC (wk i.h) hz) (UC hpk hz)) λg16=>QU (vs:=[_,_]) I I I Qi I .here .h2 wT<|QE ?_
    have hodd:i.k%2=1:=by simpa using hc
    refine Zd (⟨i.e+i.p,g16,by have:=i.h;have e:i.k.toNat=2*(i.k.toNat/2)+1:=O;rw[e,lK]at this;omega⟩:QB9 k.toNat i.p i.k) wV QIM λ_ ⟨⟨_,hX⟩,h16⟩=>⟨by show XD _ _ (a^(i.e+i.p));rw[fY];exact h16,hX⟩
   refine QO ?_;have hev:i.k%2=0:=by have:i.k%2≠1:=(by simpa using hc);omega
   refine Zd (⟨i.e,i.go,by have:=i.h;have e:i.k.toNat=2*(i.k.toNat/2):=O;rw[<-e];exact this⟩:QB9 k.toNat i.p i.k) wV QIM w9
  intro j;refine wA 6 I ?_;refine QR I (λhc=>?_) λhc=>?_
  ·refine QB<|QA (wH I Qi .u2)<|QA (wH I Qi .u2)<|QI I (λ_ _ f k=>DJ f k.2 k.2 (UC hpk hz) (UC hpk hz)) λg21=>QU (vs:=[_,_]) I I I Qi I .u2 .h2 wT<|QE<|Qk<|QJM 3 I<|QA (zH I I)<|wB 2 I ?_
   have hk2:(i.k/2).toNat=i.k.toNat/2:=O;refine Qm (⟨i.k/2,j.e,i.p+i.p,j.go,g21,O,O,wk i.hp,by rw[hk2];have:=j.h;rw[Nat.mul_left_comm]at this;rw[bL];omega⟩:QCA k.toNat) (by show(i.k/2).toNat<i.k.toNat;omega) wV QIM λ_ ⟨⟨hO,_⟩,h21⟩=>⟨hO,by show XD _ _ (a^(i.p+i.p));rw[fY];exact h21⟩
  refine QO<|Qk<|QJM 3 I<|QA (zH I I)<|wB 2 I ?_
  have hk1:i.k=1:=by have:¬1<i.k:=(by simpa using hc);omega
  have hk2:(i.k/2).toNat=i.k.toNat/2:=O;refine Qm (⟨i.k/2,j.e,i.p,j.go,i.gx,O,O,i.hp,by rw[hk2];have:=j.h;have h0:i.k.toNat/2=0:=O;rw[h0]at this ⊢;simpa using this⟩:QCA k.toNat) (by show(i.k/2).toNat<i.k.toNat;omega) wV QIM w9
 refine Qz ?_
 repeat first|refine QZ ?_|refine QQ wy ?_
 refine Qa<|QC<|QI7<|QA (wH I Qi .here)<|QU (vs:=[_,_]) I I I Qi I .u1 .h2 wT<|QHz<|QY ?_
 exact QS (_) rfl (.JX (c:=[_,_]) I Qi .u1 .nil) rfl λF h9=>(by have h0:i.k.toNat=0:=(by have:¬0<i.k:=(by simpa using hc);omega);have e:=i.h;rw[h0]at e;have e2:i.e=k.toNat:=(by simpa using e);have e3:=congrArg (λn=>XD F i.go (a^n)) e2;exact cast e3 h9.1)
structure Fr where
 n:Bg
 d:Bg
@[reducible] def Fr.v (x:Fr):Value:=.agg #[.int .i64 x.n.s,.slice x.n.q x.n.n x.n.cap,.int .i64 x.d.s,.slice x.d.q x.d.n x.d.cap]
def JN(F:Gs)(x:Fr)(r:Rat):Prop:=XD F x.n r.num/\XD F x.d r.den
def JN.le{x:Fr}{r:Rat}(h:JN F x r)(k:Gs.le F F'):JN F' x r:=⟨h.1.le k,h.2.le k⟩
abbrev X0(P:Program)(f:FuncId)(args:List Value)(w:World)(F:Gs)(r:Rat):Prop:=QV P f args w F Fr.v λx F=>JN F x r
def JU(r:Rat):Nat:=max (sz r.num) (sz (r.den:Int))
def Jx(r:Rat):sz r.num<=JU r:=iP _ _
def Jo(r:Rat):sz (r.den:Int)<=JU r:=iL _ _
def den_pos(r:Rat):(0:Int)<r.den:=wk r.den_pos
theorem KC.one{s:Int}{q:Option Addr}(h:KC w s q n cap z):(q.isNone=true->(s==1)=decide (z=1))/\(q.isNone=false->decide (z=1)=false):=by
 rcases h with ⟨rfl,rfl,rfl,rfl,_⟩ | ⟨b,off,l,rfl,_,_,_,_,_,_,_,h,hz,hb⟩
 ·exact⟨λ_=>by rw[au];simp,λh=>(by cases h)⟩
 refine⟨λh=>(by cases h),λ_=>?_⟩;rcases h with rfl | rfl<;>simp<;>omega
structure MkI(a b:Int) where
 x:Int
 y:Int
 gx:Bg
 gy:Bg
 hy:0<y
 e:aF x y=aF a b
 sx:sz x<=1000000000
 sy:sz y<=1000000000
def OF(x:Int):(aF x 1).num=x/\(aF x 1).den=1:=by
 rw[iS,iT];simp
def Gt{x y:Int}(h:0<y):(bZ x y:Int)≠0:=by
 have:bZ x y≠0:=by rw[Ne,Int.gcd_eq_zero_iff];omega
 omega
def Fm{x y:Int}(h:0<y):sz (bZ x y:Int)<=sz y:=by
 apply KX;have:=Int.gcd_le_right x h;omega
def Vq{x y:Int}(h:0<y):(aF x y).num=x/(bZ x y:Int)/\((aF x y).den:Int)=y/(bZ x y:Int):=by
 rw[iS,iT,if_neg O,Int.sign_eq_one_of_pos h,fe,lz y x];refine⟨rfl,?_⟩;rw[Int.natCast_ediv,fZ O]
theorem UM{b:Int}(hF:Fits F w)(h:XD F g a)(h':XD F g' b)(hb0:b≠0)(hza:sz a<=1000000000)(hzb:sz b<=1000000000):
  X0 prog 159 [g.v,g'.v] w F (aF a b):=by
 refine QV.intro (G:=λF=>XD F g a/\XD F g' b) func159 rfl wy rfl rfl hF (λF' hF'=>⟨h.le hF',h'.le hF'⟩)<|QG<|QB ?_
 refine Qs I (vs:=[_,_]) I (λb2=>?_);refine Qs I (vs:=[_,_]) I (λb3=>?_);refine Qc Jy (λb4=>?_);refine QE<|QC ?_
 refine BU (ι:=MkI a b) (λi=>[(2,.pointer (some ⟨b2,0,none⟩)),(3,.pointer (some ⟨b3,0,none⟩)),(4,.pointer (some ⟨b4,0,none⟩))]) (λi=>[(b4,.cells #[.int .i64 0,.slice none 0 0,.int .i64 0,.slice none 0 0] 118 (0,0)),(b3,.cells #[.int .i64 i.gy.s,.slice i.gy.q i.gy.n i.gy.cap] 116 (0,0)),(b2,.cells #[.int .i64 i.gx.s,.slice i.gx.q i.gx.n i.gx.cap] 116 (0,0))]) (λi F=>XD F i.gx i.x/\XD F i.gy i.y) ?_ ?_
 ·refine QI7<|QA (wH I Qi .u1) ?_
  refine QI I (λw F hF ⟨ha,hb⟩=>P5 hF (by assumption)) (λ_=>?_);refine QJK 3 I ?_;refine QR I (λhc=>?_) λhc=>?_
  ·refine Jp 4 QIM mixed wm wm ?_;simp only[aT,bC,aU,aP];refine QK (wH I Qi .u2) ?_;refine QP I (λw F hF ⟨⟨ha,hb⟩,_⟩=>RQ hF (by assumption)) (λg10=>?_);refine QK (wH I Qi .u1) ?_;refine QP I (λw F hF ⟨⟨⟨ha,hb⟩,_⟩,h10⟩=>RQ hF (by assumption)) (λg12=>?_);refine ZV<|QU (vs:=[_,_]) I I I Qi I .u2 .h2 wT<|QU (vs:=[_,_]) I I I Qi I .u1 .h2 wT<|QE ?_
   have hb1:b<0:=(KF b).1 (by simpa using hc);exact Zd (⟨-a,-b,g10,g12,O,ix a b,by rw[VZ];exact hza,by rw[VZ];exact hzb⟩:MkI a b) wU QIM λ_ ⟨⟨_,h10⟩,h12⟩=>⟨h10,h12⟩
  refine QO ?_;have hb1:¬b<0:=mt (KF b).2 (by simpa using hc);exact Zd (⟨a,b,g,g',O,rfl,hza,hzb⟩:MkI a b) wU QIM tA
 intro i;refine QG ?_;refine XS _ (λw _ f k=>(k.2 w f.r).one) (λp1=>?_);refine Et 20 (.bool (decide (i.y=1))) ?_ ?_
 ·refine QB<|QA (QH I Bm VW)<|QA (Qf I VW .u1 (.skip .h1))<|QA (GJ I I Y8)<|QH0 I ?_
  refine Ql (t:=16) rfl (λhb16=>?_) λhb16=>?_
  ·refine QM I I<|QA (QH I EZ JO)<|QM I I<|QA (Qf I JO .u1 .h1)<|wB 4 I ?_
   exact ZS (exd 9 rfl rfl) (congrArg (λb=>some (ah b)) (p1.1 hb16)) QIM w9
  refine wB 5 I ?_;exact ZS (exd 9 rfl rfl) (congrArg (λb=>some (ah b)) (p1.2 hb16).symm) QIM w9
 refine QR I (λhc=>?_) λhc=>?_
 ·refine QI7<|QA (wH I Qi .u2)<|QA (wH I Qi .u1)<|QA (Q2 I ML Jy (.cons (vs:=[_,_]) I I I .h2 (.cons (vs:=[_,_]) I I I (.skip (.skip .h2)) .nil)))<|QU (vs:=[_,_,_,_]) I I I QN I .here .h4 wV<|QHz<|QY ?_
  exact QS (⟨i.gx,i.gy⟩) I (.JX (c:=[_,_,_,_]) I QN .here .nil) rfl λF ⟨ha,hb⟩=>(by have h1:i.y=1:=(by simpa using hc);have e:=OF i.x;rw[<-i.e,h1];exact⟨by rw[e.1];exact ha,by rw[e.2];have hb1:=hb;rw[h1]at hb1;exact hb1⟩)
 refine QJL 4 I<|QA (wH I Qi .u2)<|QA (wH I Qi .u1) ?_
 refine QI I (λ_ _ f k=>cY f k.1 k.2 i.sx i.sy) (λg26=>?_);refine Qc Yl (λb5=>?_);refine QU (vs:=[_,_]) I I I Qi I .here .h2 wT<|QHz<|QG<|JH (.cons_cons _ (.cons _ tC)) mixed wm<|QK (wH I Qi .u2)<|QK (wH I Qi .here) ?_
 refine QP I (λ_ _ f k=>ux f k.1.1 k.2 (Gt i.hy) (Int.gcd_dvd_left ..) i.sx (ab (Fm i.hy) i.sy)) (λg29=>?_);refine QK (wH I Qi .u1)<|QK (wH I Qi .here) ?_
 refine QP I (λ_ _ f k=>ux f k.1.1.2 k.1.2 (Gt i.hy) (Int.gcd_dvd_right ..) i.sy (ab (Fm i.hy) i.sy)) (λg32=>?_);refine QK (Q2 I ML Jy (.cons (vs:=[_,_]) I I I .h2 (.cons (vs:=[_,_]) I I I (.skip (.skip .h2)) .nil)))<|JR (vs:=[_,_,_,_]) I I I QN I .u1 tC (λ_ h=>h.1.1) .h4 wV<|Q7<|QC<|QY ?_
 exact QS (⟨g29,g32⟩) I (.JX (c:=[_,_,_,_]) I QN .u1 .nil) rfl λF h9=>(by have e:=Vq (x:=i.x) i.hy;rw[<-i.e];exact⟨by rw[e.1];exact h9.1.2,by rw[e.2];exact h9.2⟩)
theorem Dx{a:Int}(hF:Fits F w)(h:XD F g a):X0 prog 157 [g.v] w F (a:Rat):=by
 refine QV.intro (G:=λF=>XD F g a) func157 rfl wy rfl rfl hF (λF' hF'=>h.le hF')<|QG<|QB ?_
 refine Qs I (vs:=[_,_]) I (λb1=>?_);refine Qc Jy (λb2=>?_);refine QHz<|QG<|JH (.cons _ tC) mixed wm<|QK (wH I Qi .here) ?_
 refine QP I (λ_ _ f k=>Av f O O) (λg4=>?_);refine QK (Q2 I ML Jy (.cons (vs:=[_,_]) I I I .h2 (.cons (vs:=[_,_]) I I I (.skip (.skip .h2)) .nil)))<|JR (vs:=[_,_,_,_]) I I I QN I .here tC tA .h4 wV<|Q7<|QC<|QY ?_
 exact QS (⟨g,g4⟩) I (.JX (c:=[_,_,_,_]) I QN .here .nil) rfl λF h9=>⟨h9.1,h9.2⟩
theorem TO{n:Int}(hF:Fits F w)(h0 : -9223372036854775808<=n)(h1:n<=9223372036854775807):X0 prog 84 [.int .i64 n] w F (n:Rat):=by
 refine QV.intro (G:=λF=>True) func84 rfl wy rfl rfl hF w8<|QG<|QB ?_
 refine Qc Jy (λb2=>?_);refine QJK 5 I ?_;refine QI I (λ_ _ f _=>Av f O O) (λg4=>?_);refine QI I (λw F hF ⟨_,h4⟩=>Dx hF (by assumption)) (λx5=>?_);refine QU (vs:=[_,_,_,_]) I I I QN I .here .h4 wV<|QHz<|QY ?_
 exact QS (_) rfl (.JX (c:=[_,_,_,_]) I QN .here .nil) rfl λF ⟨⟨_,h4⟩,⟨h5,h5_⟩⟩=>⟨‹_›,‹_›⟩
theorem Ub{x:Fr}{r:Rat}(hF:Fits F w)(h:JN F x r):Qg prog 82 [x.v] w F (.int .i64 (MG r.num)):=by
 refine QV.intro (G:=λF=>JN F x r) func82 rfl wy rfl rfl hF (λF' hF'=>h.le hF')<|QG<|QB ?_
 refine Qs I (vs:=[_,_,_,_]) I (λb1=>?_);refine QJK 5 I<|QA (QH I Zo Qi)<|QA (wH I Qi .here) ?_
 refine QI I (λ_ _ f k=>P5 (g:=x.n) f k.1) (λ_=>?_);refine wQ I<|QY ?_
 exact QJO I I I w8
theorem MR{x:Fr}{r:Rat}(hF:Fits F w)(h:JN F x r):Qg prog 180 [x.v] w F (.bool (decide ((r.den:Int)=1))):=by
 refine QV.intro (G:=λF=>JN F x r) func180 rfl wy rfl rfl hF (λF' hF'=>h.le hF') ?_;refine XS _ (λw _ f h=>(h.2 w f.r).one) (λp1=>?_);refine QG<|QB ?_
 refine Qs I (vs:=[_,_,_,_]) I (λb1=>?_);refine QJK 5 I<|QA (QH I Zn Qi)<|QA (QH I Bm VW)<|QA (Qf I VW .here (.skip (.skip (.skip .h1))))<|QA (GJ I I Y8)<|QH0 I ?_
 refine Ql (t:=7) rfl (λhb7=>?_) λhb7=>?_
 ·refine QM I I<|QA (QH I Zn Qi)<|QM I I<|QA (QH I EZ JO)<|QM I I<|QA (Qf I JO .here (.skip (.skip .h1)))<|QJK 7 I ?_
  exact QJO I I (by show ah _=ah _;rw[<-p1.1 hb7];first | rfl | skip) w8
 refine QJK 9 I ?_;exact QJO I I (congrArg ah (p1.2 hb7)) w8
theorem Ud{x:Fr}{r:Rat}(hF:Fits F w)(h:JN F x r):X0 prog 170 [x.v] w F (-r):=by
 refine QV.intro (G:=λF=>JN F x r) func170 rfl wy rfl rfl hF (λF' hF'=>h.le hF')<|QG<|QB ?_
 refine Qs I (vs:=[_,_,_,_]) I (λb1=>?_);refine Qc Jy (λb2=>?_);refine QHz<|QG<|JH (.cons _ tC) mixed wm<|QK (QH I Zo Qi)<|QK (wH I Qi .here) ?_
 refine QP I (λ_ _ f k=>RQ (g:=x.n) f k.1) (λg5=>?_);refine QK (QH I Zn Qi)<|QK (QJ (vs:=[_,_]) I Qi .here (.skip (.skip .h2)) I)<|QK (Q2 I ML Jy (.cons (vs:=[_,_]) I I I .h2 (.cons (vs:=[_,_]) I I I (.skip (.skip .h2)) .nil)))<|JR (vs:=[_,_,_,_]) I I I QN I .here tC tA .h4 wV<|Q7<|QC<|QY ?_
 exact QS (⟨g5,x.d⟩) I (.JX (c:=[_,_,_,_]) I QN .here .nil) rfl λF h9=>⟨h9.2,h9.1.2⟩
@[reducible] def tx (l:List UInt8):Value:=.string ⟨l.toArray⟩
theorem Y2(l:List UInt8):(⟨l.toArray⟩:ByteArray).size=l.length:=by simp[eZ]
def BW(l:List UInt8):(⟨l.toArray⟩:ByteArray).toList=l:=by rw[ByteArray.toList_eq]
def Cr(a b:List UInt8):(⟨a.toArray⟩++⟨b.toArray⟩:ByteArray)=⟨(a++b).toArray⟩:=by
 apply iu;simp
def LF(l:List UInt8)(i j:Nat):(⟨l.toArray⟩:ByteArray).extract i j=⟨((l.take j).drop i).toArray⟩:=by
 apply iu;simp only[ByteArray.data_extract,List.extract_toArray,List.extract_eq_take_drop];rw[Array.mk.injEq,List.drop_take]
section
variable{P:Program}{N:Nat}{m:Sl}{Y:World->Prop}{ty:TypeId}
def Yi{a b:List UInt8}(hx:ev m x=some (tx a))(hy:ev m y=some (tx b))(h:a.length+b.length<=9223372036854775807):Qt P N m Y (.binOp .add T x y yT) ty (tx (a++b)):=by
 have:=zR (P:=P) (N:=N) (m:=m) (S:=Y) (ty:=ty) (T:=T) (yT:=yT) hx hy (by rw[Y2,Y2];omega);rw[Cr]at this;exact this
def K6{a b:List UInt8}(hx:ev m x=some (tx a))(hy:ev m y=some (tx b)):Qt P N m Y (.binOp .eql T x y yT) ty (.bool (a==b)) :=
 QT hx hy (by show some (ah (bW _==bW _))=_;rw[BW,BW])
def zM{a b:List UInt8}(hx:ev m x=some (tx a))(hy:ev m y=some (tx b)):Qt P N m Y (.binOp .neq T x y yT) ty (.bool (!(a==b))) :=
 QT hx hy (by show some (ah (!(bW _==bW _)))=_;rw[BW,BW])
def Xj{a:List UInt8}(hx:ev m x=some (tx a))(hT:BZ P T=true):Qt P N m Y (.call ⟨.builtin .len,#[x],#[T]⟩) ty (.int .i64 a.length):=by
 have:=zP (P:=P) (N:=N) (S:=Y) (ty:=ty) hx hT;rw[Y2]at this;exact this
def Hj{a:List UInt8}{i:Nat}(hx:ev m x=some (tx a))(hy:ev m y=some (.int .i64 (i:Int)))(hT:BZ P T=true)(hi:i<a.length):Qt P N m Y (.index T x y) ty (.int .u8 (a[i].toNat:Int)):=by
 have:=zQ (P:=P) (N:=N) (S:=Y) (ty:=ty) hx hy hT (by rw[Y2];exact hi);simpa using this
def RD{lo:Option Operand}{vl:Option Value}{a:List UInt8}(l h:Nat)(hx:ev m x=some (tx a))(el:L9 m lo=some vl)(eh:L9 m hi=some vh)(hT:BZ P T=true)
  (hlo:(vl=none/\l=0)\/vl=some (.int .i64 (l:Int))) (hhi:(vh=none/\h=a.length)\/vh=some (.int .i64 (h:Int))) (h1:l<=h) (h2:h<=a.length):Qt P N m Y (.slice T x lo hi none) ty (tx ((a.take h).drop l)):=by
 have:=Ld (P:=P) (N:=N) (S:=Y) (ty:=ty) hx el eh hT hlo (by rw[Y2];exact hhi) h1 (by rw[Y2];exact h2);rw[LF]at this;exact this
def Mn{a:List UInt8}(h:Nat)(hx:ev m x=some (tx a))(eh:L9 m hi=some vh)(hT:BZ P T=true)(hhi:vh=some (.int .i64 (h:Int)))(h2:h<=a.length):Qt P N m Y (.slice T x none hi none) ty (tx (a.take h)) :=
 RD (P:=P) (N:=N) (m:=m) (Y:=Y) (ty:=ty) (lo:=none) (vl:=none) 0 h hx rfl eh hT (.inl ⟨rfl,rfl⟩) (.inr hhi) (eH _) h2
theorem GC{lo:Option Operand}{vl:Option Value}{a:List UInt8}(l:Nat)(hx:ev m x=some (tx a))(el:L9 m lo=some vl)(hT:BZ P T=true)(hlo:vl=some (.int .i64 (l:Int)))(h1:l<=a.length):Qt P N m Y (.slice T x lo none none) ty (tx (a.drop l)):=by
 have:=RD (P:=P) (N:=N) (m:=m) (Y:=Y) (ty:=ty) (hi:=none) (vh:=none) l a.length hx el I hT (.inr hlo) (.inl ⟨rfl,rfl⟩) h1 (aE _);rw[List.take_length]at this;exact this
end
def JE(F:Gs):Prop:=(∃m T,F 0=some (#[.int .i64 m],T))/\∃T,F 5=some ((Lib.pow10Tab.map λz=>ak .u64 z).toArray,T)
theorem JE.le(h:JE F)(k:Gs.le F F'):JE F':=by
 obtain⟨⟨m,T,h1⟩,T',h2⟩:=h;exact⟨⟨m,T,k _ _ h1⟩,T',k _ _ h2⟩
theorem JE.max(hF:Fits F w)(h:JE F):∃m,w.cell? ⟨0,0,none⟩=some (.int .i64 m):=by
 obtain⟨⟨m,T,h1⟩,_⟩:=h;obtain⟨fr,e⟩:=hF.row _ _ _ h1;exact⟨m,by simp[eF,e]⟩
theorem JE.gV(hF:Fits F w)(h:JE F):iM prog w "internal/strconv.uint64pow10" .u64 lB:=by
 obtain⟨_,T,h2⟩:=h;obtain⟨fr,e⟩:=hF.row _ _ _ h2;have hg:prog.globalNamed "internal/strconv.uint64pow10" = some 5:=wm;unfold iM World.var?;rw[hg];simp only[Option.bind_some,e]
theorem Rx(w:World)(e:TypeId)(s:ByteArray):Ext w (Lib.bytesWorld w e s) :=
 ⟨rfl,rfl,rfl,by rw[Lib.bytesWorld_size];omega,λk hk=>Lib.bytesWorld_at_old w e s k hk⟩
theorem Fi(w:World)(os:Array Obj):Ext w (fC w os) :=
 ⟨rfl,rfl,rfl,by simp[fC],λk hk=>by
  show(w.heap++os)[k]?=_;rw[fJ,if_pos hk]⟩
section
variable{w:World}{F:Gs}
theorem cy(hF:Fits F w)(hG:JE F){s p:List UInt8}(hs:s.length<4294967281):Qg prog 151 [tx s,tx p] w F (.tuple #[tx (fm s p).1,tx (fm s p).2.1,.bool (fm s p).2.2]):=by
 obtain⟨m,hm⟩:=hG.max hF;refine .of (enters_of func151 wy rfl) hF ((strings_Cut ⟨s.toArray⟩ ⟨p.toArray⟩ m w (by rw[Y2];exact hs) hm).mono ?_);rintro e w' ⟨h1,n,rfl⟩;exact⟨h1,(Ext.refl w).drewN n⟩
theorem F7(hF:Fits F w){s p:List UInt8}:Qg prog 152 [tx s,tx p] w F (.tuple #[tx (ag s p),.bool (aB s p)]):=by
 refine .of (enters_of func152 wy rfl) hF ((strings_CutPrefix ⟨s.toArray⟩ ⟨p.toArray⟩ w).mono ?_);rintro e w' ⟨h1,rfl⟩;exact⟨h1,Ext.refl _⟩
theorem Fg(hF:Fits F w){s p:List UInt8}:Qg prog 204 [tx s,tx p] w F (.bool (aB s p)):=by
 refine .of (enters_of func204 wy rfl) hF ((strings_HasPrefix ⟨s.toArray⟩ ⟨p.toArray⟩ w).mono ?_);rintro e w' ⟨h1,rfl⟩;exact⟨h1,Ext.refl _⟩
theorem D0(hF:Fits F w){s p:List UInt8}:Qg prog 205 [tx s,tx p] w F (tx (ag s p)):=by
 refine .of (enters_of func205 wy rfl) hF ((strings_TrimPrefix ⟨s.toArray⟩ ⟨p.toArray⟩ w).mono ?_);rintro e w' ⟨h1,rfl⟩;exact⟨h1,Ext.refl _⟩
theorem zE(hF:Fits F w){s:List UInt8}{c:Nat}(hc:s.length*c<=140737488355328)(hc':c<=140737488355328):Qg prog 231 [tx s,.int .i64 c] w F (tx (ff s c)):=by
 refine .of (enters_of func231 wy rfl) hF ((strings_Repeat ⟨s.toArray⟩ c w O (by rw[Y2];exact hc)).mono ?_);rintro e w' ⟨h1,h2⟩;exact⟨h1,h2⟩
theorem QB2(hF:Fits F w){s:List UInt8}{n:Int}(hl:s.length<=18)(h:iV s=some n):Qg prog 206 [tx s] w F (.tuple #[.int .i64 n,.nilIface]):=by
 refine .of (enters_of func206 wy rfl) hF ((strconv_Atoi ⟨s.toArray⟩ n (by rw[Y2];exact hl) h w).mono ?_);rintro e w' ⟨h1,t,rfl⟩;exact⟨h1,Rx _ _ _⟩
theorem yj(hF:Fits F w)(hG:JE F){n:Int}(h0 : -9223372036854775808<=n)(h1:n<=9223372036854775807):Qg prog 228 [.int .i64 n] w F (tx (ib n)):=by
 refine .of (enters_of func228 wy rfl) hF ((strconv_Itoa n h0 h1 w (hG.gV hF)).mono ?_);rintro e w' ⟨h1,k,os,rfl⟩;exact⟨h1,((Ext.refl w).drewN k).trans (Fi _ _)⟩
theorem dn(hF:Fits F w){x:Int}(h0:0<=x)(h1:x<=18446744073709551615):Qg prog 246 [.int .u64 x] w F (.int .i64 (bF x.toNat)):=by
 refine .of (enters_of func246 wy rfl) hF ((bits_Len64 x w h0 h1).mono ?_);rintro e w' ⟨h1,rfl⟩;exact⟨h1,Ext.refl _⟩
theorem Ei[Dr](hF:Fits F w){x y:Int}:Qg prog 252 [.int .i64 x,.int .i64 y] w F (.int .i64 (Lib.compareInt x y)):=by
 refine QV.same (enters_of func252 wy rfl) hF (cmp_Compare_int x y w)
end
section
variable[Dr][df:Df]
section
variable{P:Program}{Q:Exit->Act->World->Prop}{N:Nat}{m:Sl}{E E0:Env}{ops:Array Oper}{l:List Oper}{w0:World}{F0:Gs}{bs:List (Nat×Obj)}{G:Gs->Prop}
theorem St.perm(h:St ⟨w0,F0,bs,G⟩ w)(hp:bs.Perm bs'):St ⟨w0,F0,bs',G⟩ w:=by
 obtain⟨F,h⟩:=h;exact⟨F,h.le,h.old,h.fits,h.ext,λk hk=>h.bx k (hp.mem_iff.2 hk),(hp.map _).nodup_iff.1 h.nd,h.g⟩
def XI(P:Program)(f:FuncId)(args:List Value)(E:Env){γ:Type}(val:γ->Value)(E':γ->Env):Prop :=
 Enters P f/\∀w,St E w->Calls P f args.toArray w λe w'=>∃c,e = .returned (val c)/\St (E' c) w'
def EPost{γ:Type}(val:γ->Value)(E':γ->Env)(e:Ending)(w':World):Prop:=∃c,e = .returned (val c)/\St (E' c) w'
section
variable{d:Nat}{ty:TypeId}{pos:String}{aft:Array Edge}{f:FuncId}{args:Array Operand}{tys:Array TypeId}{vs:List Value}{γ:Type}{val:γ->Value}{E':γ->Env}{bs1:List (Nat×Obj)}
theorem jR{c1 c2:List Value}(hx:ev m x=some (.func (.func f) c1.toArray c2.toArray))(hv:E3 m args.toList=some vs)(hp:bs.Perm bs1)(hc:XI P f (c1++vs++c2) ⟨w0,F0,bs1,G⟩ val E')
  (k:∀c,JS P ops Q l N ((d,val c)::m) (E' c)) (hd:J5 N (some d)=true:=by rfl):JS P ops Q (⟨some d,.call ⟨.value x,args,tys⟩,ty,pos,aft,none⟩::l) N m ⟨w0,F0,bs,G⟩:=by
 intro a w ha hw;refine wpList_plain rfl λK hK=>?_;unfold Oper.wp;rw[Gl hc.1 (ha.ev hx)];have e:c1.toArray++args.map a.eval++c2.toArray=(c1++vs++c2).toArray:=by
  have:=ha.E3 hv;have e2:args.map a.eval=vs.toArray:=by rw[<-this];apply bT ;simp
  rw[e2];apply bT;simp
 simp only[Oper.upon];rw[e];refine(hc.2 w (hw.perm hp)).mono ?_;rintro e w' ⟨c,rfl,h⟩;exact hK _ _ (k c _ w' (ha.put hd (val c)) h)
theorem XW(hv:E3 m args.toList=some vs)(hp:bs.Perm bs1)(hc:XI P f vs ⟨w0,F0,bs1,G⟩ val E')
  (k:∀c,JS P ops Q l N ((d,val c)::m) (E' c)) (hd:J5 N (some d)=true:=by rfl):JS P ops Q (⟨some d,.call ⟨.value (.func f),args,tys⟩,ty,pos,aft,none⟩::l) N m ⟨w0,F0,bs,G⟩ :=
 jR (x:=.func f) (c1:=[]) (c2:=[]) I hv hp (by simpa using hc) k hd
theorem Ic{bs0:List (Nat×Obj)}(hv:E3 m args.toList=some vs)(hp:bs.Perm bs1)(hc:XI P f vs ⟨w0,F0,bs1,G⟩ val E')(h0:∀c w,St (E' c) w->St ⟨w0,F0,bs0,G0⟩ w)
  (k:∀c,JD P ops Q ⟨w0,F0,bs0,G0⟩ l N ((d,val c)::m) (E' c)) (hd:J5 N (some d)=true:=by rfl):JD P ops Q ⟨w0,F0,bs0,G0⟩ (⟨some d,.call ⟨.value (.func f),args,tys⟩,ty,pos,aft,none⟩::l) N m ⟨w0,F0,bs,G⟩:=by
 intro hE a w ha hw;refine .inr ⟨rfl,?_⟩;rw[if_pos (by simp[fl])];unfold Oper.wp;rw[Gl (c1:=#[]) (c2:=#[]) hc.1 (ha.ev (x:=.func f) rfl)];have e:#[]++args.map a.eval++#[]=vs.toArray:=by
  have:=ha.E3 hv;have e2:args.map a.eval=vs.toArray:=by rw[<-this];apply bT ;simp
  rw[e2];apply bT;simp
 simp only[Oper.upon];rw[e];refine(hc.2 w (hw.perm hp)).mono ?_;rintro e w' ⟨c,rfl,h⟩;exact⟨h0 c w' h,k c (h0 c) _ w' (ha.put hd (val c)) h⟩
theorem St.last(hF:Fits F0 w0)(h:St ⟨w0,F0,bs,G⟩ w)(hb:Below w0.heap.size w w')(hd:Dr.on->w.drawn<=w'.drawn):St ⟨w0,F0,[],λF=>Gs.le F0 F⟩ w':=by
 obtain⟨F,h⟩:=h;have hx:Ext w0 w':=⟨hb.os.trans h.ext.os,hb.tape.trans h.ext.tape,hb.output.trans h.ext.output,ab h.ext.size hb.size,λk hk=>(hb.block k hk).trans (h.ext.block k hk)⟩;have hle:Gs.le F0 (λb=>if b<w0.heap.size then F0 b else match w'.heap[b]? with | some (.cells c T _)=>if T=256 then some (c,256)else none | _=>none):=by
  intro b x hb;show(if b<w0.heap.size then _ else _)=_;rw[if_pos (hF.lt hb)];exact hb
 refine⟨_,hle,?_,⟨?_,?_⟩,⟨hx,λd=>ab (h.ext.dr d) (hd d)⟩,λ_ h=>(by cases h),List.nodup_nil,λF' h'=>Gs.le_trans hle h'⟩
 ·intro b hb;show(if b<w0.heap.size then _ else _)=_;rw[if_pos hb]
 ·intro b c T hb;by_cases hlt:b<w0.heap.size
  ·rw[if_pos hlt]at hb;obtain⟨fr,e⟩:=hF.row b c T hb;exact⟨fr,by rw[hx.block b hlt];exact e⟩
  rw[if_neg hlt]at hb;split at hb
  ·rename_i c' T' fr heq;split at hb
   ·rename_i hT;cases hb;exact⟨fr,by rw[heq,hT]⟩
   cases hb
  cases hb
 intro b c fr hb;show(if b<w0.heap.size then _ else _)=_;by_cases hlt:b<w0.heap.size
 ·rw[if_pos hlt];rw[hx.block b hlt]at hb;exact hF.all b c fr hb
 rw[if_neg hlt,hb];simp
theorem NS{v:Value}(hF:Fits F0 w0)(hv:E3 m args.toList=some vs)(he:Enters P f)(hc:∀w,St ⟨w0,F0,bs,G⟩ w->Calls P f vs.toArray w λe w'=>e = .returned v/\Below w0.heap.size w w')
  (k:JS P ops Q l N ((d,v)::m) ⟨w0,F0,[],λF=>Gs.le F0 F⟩) (hd:J5 N (some d)=true:=by rfl) (hn:¬Dr.on:=by exact id):JS P ops Q (⟨some d,.call ⟨.value (.func f),args,tys⟩,ty,pos,aft,none⟩::l) N m ⟨w0,F0,bs,G⟩ :=
 XW (γ:=Unit) (val:=λ_=>v) (E':=λ_=>⟨w0,F0,[],λF=>Gs.le F0 F⟩) hv (bM _) ⟨he,λw hw=>(hc w hw).mono λ_ _ ⟨h1,h2⟩=>⟨(),h1,hw.last hF h2 λd=>absurd d hn⟩⟩ (λ_=>k) hd
end
omit [Df] in
theorem XI.intro{f:FuncId}{c:Code}{val:γ->Value}{E':γ->Env}(hf:P.funcs[f]?=some fn)(hb:fn.body=some c)(hn:(fn.name == "runtime.NumGoroutine")=false)(hN:fn.ntmps=N)(hl:j9 args.length N=true)
  (h:J (df:=DI) P c (bodyPost P fn (EPost val E')) N (Rz 0 args) E):XI P f args E val E':=by
 refine⟨enters_of hf hn (by rw[hb];rfl),λw hw=>calls_of_wp hf hb (h _ w ⟨?_,rfl,λt v ht=>?_⟩ hw)⟩
 ·have:=fR hl
  simp[hN];omega
 obtain⟨_,h2⟩:=Gr args 0 t v ht
 have hlt:t<args.length:=by rcases aR t args.length with g | g;exact g;rw[j7,aX g]at h2;cases h2
 simp only[j7]at h2
 rw[fJ,if_pos (by simpa using hlt)]
 simpa using h2
omit [Df] in
theorem Y1{val:γ->Value}{E':γ->Env}{rs:List ResultVar}{vs:List Value}(c:γ)(hrs:fn.results=rs.toArray)(h:Er P m bs rs vs)(hv:val c=(match vs with | [v]=>v | vs=>.tuple vs.toArray))(hg:∀w,St ⟨w0,F0,bs,G⟩ w->St (E' c) w):Fin (df:=DI) (bodyPost P fn (EPost val E')) .ret N m ⟨w0,F0,bs,G⟩:=λa w ha hw =>
 ⟨ha.df,val c,by rw[hv];exact BC hrs h ha hw,c,rfl,hg w hw⟩
omit [Df] in
theorem Mk{val:γ->Value}{E':γ->Env}(h:Fin (df:=DI) (bodyPost P fn (EPost val E')) .ret N m E):Fin (df:=DI) (bodyPost P fn (EPost val E')) .normal N m E:=h
theorem Ze(hp:bs.Perm bs')(k:JS P ops Q l N m ⟨w0,F0,bs',G⟩):JS P ops Q l N m ⟨w0,F0,bs,G⟩:=λa w ha hw=>k a w ha (hw.perm hp)
theorem vC{c:Code}(hp:bs.Perm bs')(k:J P c Q N m ⟨w0,F0,bs',G⟩):J P c Q N m ⟨w0,F0,bs,G⟩:=λa w ha hw=>k a w ha (hw.perm hp)
theorem OV{e:Exit}(hp:bs.Perm bs')(k:Fin Q e N m ⟨w0,F0,bs',G⟩):Fin Q e N m ⟨w0,F0,bs,G⟩:=λa w ha hw=>k a w ha (hw.perm hp)
theorem Src.zD{sz c:Nat}{news:List Value}(hm:(b,eN news.toArray T fr)∈bs)(hl:news.length=k*sz):Src ⟨w0,F0,bs,G⟩ sz (.slice (.some ⟨b,0,none⟩) k c) k news :=
 ⟨hl,.inr ⟨_,_,rfl,λw hw j v hv=>by
  obtain⟨F,hw⟩:=hw;rw[BS,ZF (hw.bx _ hm).1,aV];exact hv⟩⟩
theorem QCD{d:Nat}{o:Op}{ty:TypeId}{pos:String}{v:Value}(h:∀a w,Ja N m a->St E w->∃w',(execOp a.eval ⟨some d,o,ty,pos,aft,none⟩).run P w = .ok (.value v) w'/\St E' w')(k:JS P ops Q l N ((d,v)::m) E')(hd:J5 N (some d)=true:=by rfl):
  JS P ops Q (⟨some d,o,ty,pos,aft,none⟩::l) N m E:=λa w ha hw=>wpList_plain rfl λK hK=>by
 obtain⟨w',h1,h2⟩:=h a w ha hw;exact upon_value h1 (hK _ _ (k _ w' (ha.put hd v) h2))
theorem zJ{ty:TypeId}{p:Option Addr}{Y:World->Prop}(hx:ev m x=some (.pointer p))(hy:ev m y=some (.pointer none))(hT:P.underlying T=some (.pointer (P.pointee T))):Qt P N m Y (.binOp .eql T x y yT) ty (.bool p.isNone):=λa w _ _ _ _ ha _=>by
 have:=run_eql_pointer_nil (P:=P) (w:=w) T p hT;simp[execOp,ha.ev hx,ha.ev hy,eqGuard,this]
theorem SV{t u e ty:TypeId}{i:TypeInfo}{x:Value}(ht:G9 P t=some e)(hu:P.underlying u=some .string)(hi:P.info? e=some i)(hz:i.zero=some (.int .u8 0))(hsz:i.size=1)(hby:i.bytes=1)
  (hr:Q9 e 1 x n olds ob) (hw:St ⟨w0,F0,ob++bs,G⟩ w) (h47:n+s.length<=140737488355328) (hU:Hk e=true) :
  ∃v' ob' w',(ir #[t,u] ty #[x,tx s]).run P w = .ok v' w'/\Q9 e 1 v' (n+s.length) (olds++ax s) ob'/\St ⟨w0,F0,ob'++bs,G⟩ w':=by
 have hu':∀c fr c' fr',eN c e fr≠.cells c' 256 fr':=λc fr=>ZL hU;have hsl:(⟨s.toArray⟩:ByteArray).size=s.length:=Y2 s;have hbl:(ax s).length=s.length:=ig s;have hzc:∀q,(aJ (ak .u8 0).cells q).toList.length=q:=λq=>by simp[aJ,Value.cells]
 have new:∀ {w':World} (l rest:List Value) (cap:Nat) (bs':List (Nat×Obj)),St ⟨w0,F0,bs',G⟩ w'->bs.Sublist bs'->l.length=n+s.length->l.length+rest.length=cap->n+s.length<=cap->cap<=maxLen ->
   ∃ob',Q9 e 1 (.slice (some ⟨w'.heap.size,0,none⟩) (n+s.length) cap) (n+s.length) l ob'/\St ⟨w0,F0,ob'++bs,G⟩ (w'.alloc (.cells (l++rest).toArray e)):=by
  intro w' l rest cap bs' hw' hsub h2 h3 h4 h5;exact⟨_,.some O O h4 h5,(hw'.imp hsub λ_ h=>h).alloc _ (hu' _ _)⟩
 cases hr with
 |nil =>
  simp only[aV,ef]at *
  by_cases hm:s.length=0
  ·have hs0:s=[]:=aI hm;subst hs0;refine⟨.slice none 0 0,[],w,?_,.nil,hw⟩;have hf:=Lib.run_firstCells_string (P:=P) w 1 ⟨#[]⟩;have hf':(Builtin.firstCells 1 0 (tx [])).run P w = .ok #[] w:=by simpa[eZ,fQ]using hf
   simp[ir,run_underlying (Q4 ht),run_underlying hu,sizeOf,typeInfo,hi,hsz,Builtin.lenOf,eZ,hf']
  have hrun:=run_append_nil_string (P:=P) (w:=w) t u ty e i (.int .u8 0) (Q4 ht) hu hi hz ⟨s.toArray⟩ O O (by rw[hby];omega);rw[hsl]at hrun;have hge:=grownCap_ge w s.length 0 e;obtain⟨ob',h2,h3⟩:=new (ax s) (aJ (ak .u8 0).cells (grownCap w s.length 0 e-s.length)).toList (grownCap w s.length 0 e) bs hw.drew QIM hbl (by rw[hzc,hbl];omega) hge (grownCap_le_maxLen w s.length 0 e (by simp only[maxLen];omega));refine⟨_,ob',_,hrun,h2,?_⟩;have e1:(ax s++(aJ (ak .u8 0).cells (grownCap w s.length 0 e-s.length)).toList).toArray=((⟨s.toArray⟩:ByteArray).data.map λb=>ak .u8 b.toNat)++aJ (ak .u8 0).cells (grownCap w s.length 0 e-s.length):=by apply bT;simp[ax]
  rw[e1]at h3;exact h3
 |some g1 g2 g3 g4 =>
  rename_i b cap rest;have hbw:w.heap[b]?=some (.cells (olds++rest).toArray e (0,0)):=hw.own (f:=λo'=>(b,o')::bs) .here;have hol:olds.length=n:=O;by_cases hroom:n+s.length<=cap
  ·have hrun:=Lib.run_append_room_string (P:=P) w t u ty e i (Q4 ht) hu hi hsz b n cap _ hbw ⟨s.toArray⟩ O w6;rw[hsl]at hrun;have e1:((olds++rest).toArray.toList.take n++fQ ⟨s.toArray⟩++(olds++rest).toArray.toList.drop (n+s.length))=olds++ax s++rest.drop s.length:=by
    rw[iQ];simp only[aZ];rw[<-hol];simp[List.drop_append]
   rw[e1]at hrun;refine⟨_,[(b,.cells (olds++ax s++rest.drop s.length).toArray e (0,0))],_,hrun,.some ?_ ?_ hroom g4,?_⟩
   ·rw[aq,hbl];omega
   ·rw[aq,bh,hbl];omega
   have hlt:b<w.heap.size:=(Array.getElem?_eq_some_iff.1 hbw).1;refine St.write (o:=.cells (olds++rest).toArray e (0,0)) [] hw ⟨?_,rfl,rfl,rfl,rfl⟩ (hu' _ _);apply Array.ext_getElem?;intro j;rw[Array.getElem?_setIfInBounds];by_cases hj:b=j
   ·subst hj;rw[if_pos rfl,if_pos hlt,setRow_heap w b _ _ e _ hbw]
   rw[if_neg hj,setRow_other w b j _ (λe=>hj e.symm)]
  have hold:∀j v,olds[j]?=some v->w.cell? ((⟨b,0,none⟩:Addr).add j)=some v:=λj v hv=>by
   rw[BS,aV,ZF hbw,aQ];have:j<olds.length:=by rcases aR j olds.length with q | q;exact q;rw[aX q]at hv;cases hv
   rw[if_pos this];exact hv
  have hrun:=Lib.run_append_grow_string (P:=P) w t u ty e i (.int .u8 0) (Q4 ht) hu hi hz ⟨b,0,none⟩ n cap olds (by rw[hsz];omega) hold ⟨s.toArray⟩ O O (by rw[hby];exact growslice_fits O O);rw[hsl]at hrun;have hge:=grownCap_ge w (n+s.length) cap e;obtain⟨ob',h2,h3⟩:=new (olds++ax s) (aJ (ak .u8 0).cells (grownCap w (n+s.length) cap e-(n+s.length))).toList (grownCap w (n+s.length) cap e) _ hw.drew (List.sublist_cons_self _ _) (by rw[aq,hbl];omega) (by rw[hzc,aq,hbl];omega) hge (grownCap_le_maxLen w (n+s.length) cap e (by simp only[maxLen];omega));refine⟨_,ob',_,hrun,h2,?_⟩;have e1:(olds++ax s++(aJ (ak .u8 0).cells (grownCap w (n+s.length) cap e-(n+s.length))).toList).toArray=olds.toArray++(fQ ⟨s.toArray⟩).toArray++aJ (ak .u8 0).cells (grownCap w (n+s.length) cap e-(n+s.length)):=by
   rw[iQ];apply bT;simp
  rw[e1]at h3;exact h3
theorem Uv{d:Nat}{ty:TypeId}{pos:String}{t u e:TypeId}{i:TypeInfo}{X Y:Operand}{x:Value}{bs1:List (Nat×Obj)}(hx:ev m X=some x)(hy:ev m Y=some (tx s))(ht:G9 P t=some e)(hu:P.underlying u=some .string)(hi:P.info? e=some i)(hz:i.zero=some (.int .u8 0))(hsz:i.size=1)(hby:i.bytes=1)
  (hr:Q9 e 1 x n olds ob) (hp:bs.Perm (ob++bs1)) (h47:n+s.length<=140737488355328)
  (kk:∀v' ob',Q9 e 1 v' (n+s.length) (olds++ax s) ob'->JS P ops Q l N ((d,v')::m) ⟨w0,F0,ob'++bs1,G⟩) (hU:Hk e=true:=by rfl) (hd:J5 N (some d)=true:=by rfl) :
  JS P ops Q (⟨some d,.call ⟨.builtin .append,#[X,Y],#[t,u]⟩,ty,pos,aft,none⟩::l) N m ⟨w0,F0,bs,G⟩:=λa w ha hw =>
 wpList_plain rfl λK hK=>by
  obtain⟨v',ob',w',h2,h3,h4⟩:=SV (ty:=ty) ht hu hi hz hsz hby hr (hw.perm hp) h47 hU;refine upon_value (w':=w') (v:=v') ?_ (hK _ _ (kk v' ob' h3 _ w' (ha.put hd v') h4));simp only[execOp,resolve,invoke,builtin,er,ep,bB,List.map_toArray,iU,List.map_nil,ha.ev hx,ha.ev hy,h2]
end
end
section
variable[Dr][df:Df]{P:Program}{Q:Exit->Act->World->Prop}{N:Nat}{m:Sl}{E E0:Env}{ops:Array Oper}{l:List Oper}{w0:World}{F0:Gs}{bs:List (Nat×Obj)}{G:Gs->Prop}
theorem EB{c:List Value}(h:w.heap[b]?=some (.cells c.toArray T fr)):w.shape? b=some (T,c.length):=by
 simp[World.shape?,h]
theorem Lc{src dst t T' ty:TypeId}{c:List Value}(hx:ev m x=some (.pointer (some ⟨b,off,none⟩)))(hs:P.underlying src=some (.pointer t))(hd:P.underlying dst=some .unsafePointer)(ht:(P.info? t).any (λj=>j.size != 0)=true)
  (ho:Own bs b (.cells c.toArray T' fr) f) (hoff:off<c.length):Qt P N m (St ⟨w0,F0,bs,G⟩) (.convert src dst x) ty (.pointer (some ⟨b,off,none⟩)):=λa w _ _ _ _ ha hw=>by
 obtain⟨j,hj,hjs⟩:=Option.any_eq_true .. |>.1 ht;have:=Lib.run_to_unsafe (P:=P) w ⟨b,off,none⟩ hs hd hj (by simpa using hjs) (EB (hw.own ho)) hoff;simp[execOp,ha.ev hx,this]
theorem UA{src dst t T' ty:TypeId}{c:List Value}(hx:ev m x=some (.pointer (some ⟨b,off,none⟩)))(hs:P.underlying src=some .unsafePointer)(hd:P.underlying dst=some (.pointer t))(ht:(P.info? t).isSome=true)
  (ho:Own bs b (.cells c.toArray T' fr) f) (hl:liesAt P P.depth T' (c.length/P.cellsOf T') off t 1=true):Qt P N m (St ⟨w0,F0,bs,G⟩) (.convert src dst x) ty (.pointer (some ⟨b,off,none⟩)):=λa w _ _ _ _ ha hw=>by
 obtain⟨j,hj⟩:=Option.isSome_iff_exists.1 ht;have:=Lib.run_from_unsafe (P:=P) w ⟨b,off,none⟩ hs hd hj (EB (hw.own ho)) hl;simp[execOp,ha.ev hx,this]
theorem qB{t ty:TypeId}{p:Addr}{Y:World->Prop}(hx:ev m x=some (.pointer (some p)))(hy:ev m y=some (.pointer (some p)))(hT:P.underlying T=some (.pointer t))(ht:(P.info? t).isSome=true):Qt P N m Y (.binOp .neq T x y yT) ty (.bool false):=λa w _ _ _ _ ha _=>by
 obtain⟨j,hj⟩:=Option.isSome_iff_exists.1 ht;have:=Lib.run_neq_ptr_same (P:=P) w p hT hj;simp[execOp,ha.ev hx,ha.ev hy,eqGuard,this]
theorem jQ{d:Nat}{ty:TypeId}{pos:String}{f:FuncId}{e:Array Value->Sem Value}{args:Array Operand}{tys:Array TypeId}{vs:List Value}{v:Value}(hf:P.funcs[f]?=some fn)(hname:(fn.name == "runtime.NumGoroutine")=false)
  (hb:fn.body.isNone=true) (hn:Extern.findNext fn=none) (he:Extern.find fn=some e) (hv:E3 m args.toList=some vs) (hr:∀w,(e vs.toArray).run P w = .ok v w) (k:JS P ops Q l N ((d,v)::m) E) (hd:J5 N (some d)=true:=by rfl) :
  JS P ops Q (⟨some d,.call ⟨.value (.func f),args,tys⟩,ty,pos,aft,none⟩::l) N m E :=
 QCD (λa w ha hw=>⟨w,by
  have h1:a.eval (.func f) = .func (.func f) #[] #[]:=ha.ev (x:=.func f) rfl;have e2:args.map a.eval=vs.toArray:=by rw[<-ha.E3 hv];apply bT;simp
  simp only[execOp,resolve,h1,Deferred.ofValue,er,ep,bB,invoke,e2];simp[run_callFunc_extern hf hname hb hn he,hr],hw⟩) k hd
end
inductive I3(b:Nat):List UInt8->List (Nat×Obj)->Prop
 |fresh:I3 b [] [(b,.cells [av none,.slice none 0 0].toArray 279 (0,0))]
 |used {l:List UInt8} {v:Value} {ob:List (Nat×Obj)} (hr:Q9 5 1 v l.length (ax l) ob):I3 b l ((b,.cells [av (some ⟨b,0,none⟩),v].toArray 279 (0,0))::ob)
section
variable{w0:World}{F0:Gs}{bs:List (Nat×Obj)}{G:Gs->Prop}
theorem NF{p:Option Addr}{v:Value}(hp:p=none\/p=some ⟨b,0,none⟩):XI prog 264 [.pointer (some ⟨b,0,none⟩)] ⟨w0,F0,(b,.cells [av p,v].toArray 279 (0,0))::bs,G⟩ (λ(_:Unit)=>.tuple #[]) (λ_=>⟨w0,F0,(b,.cells [av (some ⟨b,0,none⟩),v].toArray 279 (0,0))::bs,G⟩):=by
 refine XI.intro func264 rfl wy rfl rfl<|wR rfl<|QA (ZY rfl)<|QA (QH rfl Ug MA)<|QA (Qf rfl MA .here .h1)<|QA (zJ rfl rfl wm)<|QE<|QC ?_
 refine QR I (λhc=>?_) λhc=>?_
 ·have hp':p=none:=by rcases hp with rfl | rfl;rfl;cases hc
  subst hp';refine wA 3 I<|QA (Lc I underlying276 underlying325 wm .here (Nat.zero_lt_succ _))<|jQ func291 wm wm wm (e:=iH) wm rfl (λw=>Lib.run_noEscape w _)<|QA (UA I underlying325 underlying276 wm .here wm)<|QA (ZY I)<|QA (QH I Ug MA)<|QU (vs:=[_]) I I I MA I .here .h1 wS<|QE<|Mk ?_
  exact Y1 () I .nil rfl w9
 have hp':p=some ⟨b,0,none⟩:=by rcases hp with rfl | rfl;cases hc;rfl
 subst hp';refine wR I<|QA (ZY I)<|QA (QH I Ug MA)<|QA (Qf I MA .here .h1)<|QH0 I<|QA (qB I I underlying276 wm)<|QHz<|Yv I<|QO<|Mk ?_
 exact Y1 () I .nil rfl w9
theorem QBm:∃i,prog.info? 5=some i/\i.zero=some (.int .u8 0)/\i.size=1/\i.bytes=1:=by
 have h:((prog.info? 5).map λi=>(i.zero,i.size,i.bytes))=some (some (.int .u8 0),1,1):=wm;obtain⟨i,h1,h2⟩:=Option.map_eq_some_iff.1 h;simp only[Prod.mk.injEq]at h2;exact⟨i,h1,h2⟩
theorem G7{p:Option Addr}{v:Value}(hp:p=none\/p=some ⟨b,0,none⟩)(hr:Q9 5 1 v l.length (ax l) ob)(hn:l.length+s.length<=140737488355328):
  XI prog 232 [.pointer (some ⟨b,0,none⟩),tx s] ⟨w0,F0,(b,.cells [av p,v].toArray 279 (0,0))::(ob++bs),G⟩ (λ(_:List (Nat×Obj))=>.tuple #[.int .i64 s.length,.nilIface])
   (λob'=>⟨w0,F0,ob'++bs,λF=>G F/\I3 b (l++s) ob'⟩):=by
 obtain⟨i8,hi1,hi2,hi3,hi4⟩:=QBm;refine XI.intro func232 rfl wy rfl rfl<|QI7<|QH1 rfl<|wQ rfl<|wR rfl<|XW rfl (bM _) (NF hp) λ_=>QHz<|wR rfl<|QH0 rfl<|QA (ZY rfl)<|QA (QH rfl N5 H2)<|QA (Qf rfl H2 .here (.skip .h1))<|QH0 rfl<|Uv (bs1:=(b,.cells [av (some ⟨b,0,none⟩),v].toArray 279 (0,0))::bs) rfl rfl LU underlying9 hi1 hi2 hi3 hi4 hr (by rw[<-eB];exact(aY _ _ _)) hn λv' ob' hr'=>QA (ZY I)<|QA (QH I N5 H2)<|Ze (bs':=(b,.cells [av (some ⟨b,0,none⟩),v].toArray 279 (0,0))::(ob'++bs)) (by rw[<-eB (l:=bs),<-eB];exact(aY _ _ _)) ?_
 obtain⟨h1,h2⟩:=hr'.one;refine QU (vs:=[v']) I I h2 H2 I .here (.skip .h1) ⟨h1,trivial⟩<|QJK 5 I<|QA (Xj I Zk)<|QJK 5 I ?_
 have hb:I3 b (l++s) ((b,.cells [av (some ⟨b,0,none⟩),v'].toArray 279 (0,0))::ob'):=.used (by rw[aq,ij];exact hr');exact Y1 _ I (wO I I) rfl λw h=>St.B3 (bs:=(_::ob')++bs) h λF hG=>⟨hG,hb⟩
theorem Wy(h:I3 b l ob)(hn:l.length+s.length<=140737488355328):
  XI prog 232 [.pointer (some ⟨b,0,none⟩),tx s] ⟨w0,F0,ob++bs,G⟩ (λ(_:List (Nat×Obj))=>.tuple #[.int .i64 s.length,.nilIface])
   (λob'=>⟨w0,F0,ob'++bs,λF=>G F/\I3 b (l++s) ob'⟩):=by
 cases h with
 |fresh=>exact G7 (l:=[]) (ob:=[]) (.inl rfl) .nil hn
 |used hr=>exact G7 (.inr rfl) hr hn
theorem B7{p:Option Addr}{v:Value}(hp:p=none\/p=some ⟨b,0,none⟩)(hr:Q9 5 1 v l.length (ax l) ob)(hn:l.length+1<=140737488355328):
  XI prog 248 [.pointer (some ⟨b,0,none⟩),.int .u8 c.toNat] ⟨w0,F0,(b,.cells [av p,v].toArray 279 (0,0))::(ob++bs),G⟩ (λ(_:List (Nat×Obj))=>.nilIface)
   (λob'=>⟨w0,F0,ob'++bs,λF=>G F/\I3 b (l++[c]) ob'⟩):=by
 refine XI.intro func248 rfl wy rfl rfl<|QI7<|wQ rfl<|wR rfl<|XW rfl (bM _) (NF hp) λ_=>QHz<|wR rfl<|QH0 rfl<|QA (ZY rfl)<|QA (QH rfl N5 H2)<|QA (Qf rfl H2 .here (.skip .h1))<|QH0 rfl<|VF rfl (Q4 LU) gN z_5 rfl rfl λbx=>?_
 refine Ze (bs':=ob++((bx,.cells [ak .u8 c.toNat].toArray 5 (0,0))::(b,.cells [av (some ⟨b,0,none⟩),v].toArray 279 (0,0))::bs)) (by
  have:=aY [(bx,eN [ak .u8 c.toNat].toArray 5 (0,0)),(b,eN [av (some ⟨b,0,none⟩),v].toArray 279 (0,0))] ob bs;exact this) ?_
 refine Mj (news:=[ak .u8 c.toNat]) (k:=1) (sz:=1) rfl rfl LU gN z_5 I QG4 hr (Src.zD (b:=bx) (T:=5) (fr:=(0,0)) (c:=1) wz rfl) O O (λu hu=>by rw[List.mem_singleton.1 hu];rfl) (λv' ob' hr'=>QA (ZY I)<|QA (QH I N5 H2) ?_);refine Ze (bs':=(b,.cells [av (some ⟨b,0,none⟩),v].toArray 279 (0,0))::((bx,.cells [ak .u8 c.toNat].toArray 5 (0,0))::(ob'++bs))) (by
  have:=aY ob' [(b,eN [av (some ⟨b,0,none⟩),v].toArray 279 (0,0)),(bx,eN [ak .u8 c.toNat].toArray 5 (0,0))] bs;exact((List.Perm.append_left ob' (List.Perm.swap _ _ _))).trans this) ?_
 obtain⟨h1,h2⟩:=hr'.one;refine QU (vs:=[v']) I I h2 H2 I .here (.skip .h1) ⟨h1,trivial⟩<|QJK 8 I ?_
 have hb:I3 b (l++[c]) ((b,.cells [av (some ⟨b,0,none⟩),v'].toArray 279 (0,0))::ob'):=.used (by rw[aq,ij];exact hr');exact Y1 _ I (wN I) rfl λw h=>St.imp (bs':=(_::ob')++bs) h (lL _ (lM _ QIM)) λF hG=>⟨hG,hb⟩
theorem U9(h:I3 b l ob)(hn:l.length+1<=140737488355328):
  XI prog 248 [.pointer (some ⟨b,0,none⟩),.int .u8 c.toNat] ⟨w0,F0,ob++bs,G⟩ (λ(_:List (Nat×Obj))=>.nilIface)
   (λob'=>⟨w0,F0,ob'++bs,λF=>G F/\I3 b (l++[c]) ob'⟩):=by
 cases h with
 |fresh=>exact B7 (l:=[]) (ob:=[]) (.inl rfl) .nil hn
 |used hr=>exact B7 (.inr rfl) hr hn
theorem I3.is(h:I3 b l ob){w:World}(hw:St ⟨w0,F0,ob++bs,G⟩ w):Lib.IsBuilder 279 5 w0.heap.size b (ax l) w:=by
 obtain⟨F,hw⟩:=hw;cases h with
 |fresh =>
  have:=hw.bx (b,.cells [av none,.slice none 0 0].toArray 279 (0,0)) wz;exact .inl ⟨this.2.1,_,this.1,iq w _ _ 1,by simp[fj]⟩
 |used hr =>
  rename_i v ob;have h1:=hw.bx (b,.cells [av (some ⟨b,0,none⟩),v].toArray 279 (0,0)) wz;refine .inr ⟨h1.2.1,v,h1.1,?_,?_⟩
  ·rw[ig];generalize hq:ax l=q at hr;generalize hn:l.length=n at hr;cases hr with
   |nil=>exact iq w _ _ 1
   |some g1 g2 g3 g4 =>
    rename_i r cap rest;have h2:=hw.bx (r,.cells (q++rest).toArray 5 (0,0)) wz;refine⟨O,.inr ⟨r,cap,_,rfl,h2.2.1,h2.1,g3,g4,?_,?_⟩⟩
    ·show(q++rest).toArray.size=_;simp;omega
    show(q++rest).take (n*1)=q;rw[<-g1];exact List.take_left
  generalize hq:ax l=q at hr;generalize hn:l.length=n at hr;cases hr with
  |nil=>simp[fj]
  |some g1 g2 g3 g4 =>
   have hnd:=hw.nd;simp only[fa,iU,List.nodup_cons]at hnd;intro e;simp only[fj,bO]at e;exact hnd.1 (by simp[e])
end
section
open Go.RowKit Go.Sort Go.Lib
def Lg(w:World)(o:Obj)(dk:Array UInt8)(k off:Nat):∃os,(putRow (λ(b:UInt8)=>ak .u8 (b.toNat:Int)) (w.alloc o) w.heap.size off dk).drewN k=fC (w.drewN k) os:=by
 rw[alloc_eq_grow];obtain⟨os',_,e⟩:=putRow_grow_new (λ(b:UInt8)=>ak .u8 (b.toNat:Int)) w #[o] w.heap.size off dk (aE _);exact⟨os',by rw[e];rfl⟩
theorem Fe(w:World)(T:TypeId)(nd:Nat)(hs:nd<=24):Holds (λ(b:UInt8)=>ak .u8 (b.toNat:Int)) (w.alloc (.cells zeros24 T)) w.heap.size 0 (iI nd (0:UInt8)):=λj hj=>by
 have hj':j<nd:=by simpa using hj
 refine⟨?_,World.frozen?_alloc_new _ _ _ _⟩;rw[World.cell?_alloc_new,zeros24_at _ O,getElem!_pos _ j hj];simp
set_option maxRecDepth 100000 in
theorem Sa(u:Nat)(hu64:u<18446744073709551616)(w:World)(htab:iM prog w "internal/strconv.uint64pow10" .u64 lB):
  Calls prog 260 #[.int .u64 u,.int .i64 10] w λe w'=>e = .returned (tx (ae u))/\∃k os,w'=fC (w.drewN k) os:=by
 have e283:∀args w,(callFunc 285 args).run prog w = .ok (.enter 285 args) w:=eu func285 wm rfl;have e284:∀args w,(callFunc 286 args).run prog w = .ok (.enter 286 args) w:=eu func286 wm rfl;have e285:∀args w,(callFunc 287 args).run prog w = .ok (.enter 287 args) w:=eu func287 wm rfl;by_cases hs:u<100
 ·go_enter func260,ntmps260
  go_wp2_with (go_at_fn 285;refine(internal_strconv_small u hs _).mono ?_;rintro e w' ⟨rfl,rfl⟩)
  go_ret
  exact⟨rfl,0,#[],by simp[World.drewN_zero]⟩
 have hu1:1<=u:=O;have hnd20:aN u<=20:=by have:=Lib.numDigits_eq u hu1 hu64;split at this<;>omega
 have hb3:aN u<=24:=O;have hal:prog.arrayLen 319=24:=by simp[ia,underlying319]
 have hsl1:∀W,(iR 319 (.pointer (some ⟨w.heap.size,0,none⟩)) none (some (.int .i64 (aN u:Int))) none).run prog W = .ok (.slice (some ⟨w.heap.size,0,none⟩) (aN u) 24) W:=λW=>by
  rw[run_sliceAt_array_h W 319 ⟨w.heap.size,0,none⟩ (by simp[ia,Program.elem,underlying319]) .i64 (aN u:Int) O (by rw[hal];omega)];go_simp
 have hH0:=Fe w 319 (aN u) O;have hfmt:=internal_strconv_formatBase10 w.heap.size 0 24 u (iI (aN u) 0) (w.alloc (.cells eM 319)) hH0 (by rw[bG];exact iB u) hu64 (by rw[bG];omega);rw[bG]at hfmt;have HH0:=aa hH0;clear hH0 hal;go_enter func260,ntmps260
 go_wp2_with (first
  |(go_at_fn 286;refine(internal_strconv_numDigits u hu1 hu64 _ (Lib.tabIs_alloc htab _)).mono ?_;rintro e w' ⟨rfl,rfl⟩))
 go_at_fn 287
 refine hfmt.mono ?_;rintro e w' ⟨rfl,k,v',dk,rfl,hF⟩;have hcv:(convert 277 9 (.slice (some ⟨w.heap.size,0,none⟩) (aN u) 24)).run prog ((putRow (λ(b:UInt8)=>ak .u8 (b.toNat:Int)) (w.alloc (.cells eM 319)) w.heap.size 0 dk).drewN k) = .ok (.string ⟨(ae u).toArray⟩) ((putRow (λ(b:UInt8)=>ak .u8 (b.toNat:Int)) (w.alloc (.cells eM 319)) w.heap.size 0 dk).drewN k):=by
  have h:=run_convert_bytes_back (P:=prog) ((putRow (λ(b:UInt8)=>ak .u8 (b.toNat:Int)) (w.alloc (.cells eM 319)) w.heap.size 0 dk).drewN k) 277 9 5 ⟨w.heap.size,0,none⟩ 24 (ae u) underlying277 underlying5 underlying9 (λj hj=>by
   rw[Lib.row_is_numeral hF j hj,Lib.add_plain,World.cell?_drewN];exact cell?_putRow (λ(b:UInt8)=>ak .u8 (b.toNat:Int)) _ w.heap.size 0 _ dk HH0.out (by rw[hF.size,bG]) j (by rw[hF.size];rw[aS]at hj;exact hj))
  rw[aS]at h;exact h
 go_wp2
 go_ret
 obtain⟨os,eo⟩:=Lg w (.cells eM 319) dk k 0;exact⟨rfl,k,os,eo⟩
theorem Uc(hF:Fits F w)(hG:JE F){u:Nat}(hu:u<18446744073709551616):Qg prog 230 [.int .u64 u,.int .i64 10] w F (tx (ae u)):=by
 refine QV.intro (G:=λF=>JE F) func230 rfl wy rfl rfl hF (λF' hF'=>hG.le hF')<|QI7<|wQ rfl<|wR rfl<|QH0 rfl ?_
 refine QI I (λw F hF hG=>Qg.of (v:=tx (ae u)) (enters_of func260 wy rfl) hF ((Sa u hu w (hG.gV hF)).mono (by
  rintro e w' ⟨h1,k,os,rfl⟩;exact⟨h1,((Ext.refl w).drewN k).trans (Fi _ _)⟩))) λc=>?_
 refine wQ I<|QY ?_
 exact QS () I (wN I) rfl w8
end
open Go
def I1(c:UInt8):Bool:=decide (48<=c.toNat)&&decide (c.toNat<=57)
def ZG(l:List UInt8):Bool:=l.all I1
def Ki:I1 c=true↔48<=c.toNat/\c.toNat<=57:=by simp[I1]
def Jc(l:List UInt8):Nat:=l.foldl (λa c=>a*10+(c.toNat-48)) 0
def QEX(l:List UInt8):∀a:Nat,l.foldl (λa c=>a*10+(c.toNat-48)) a=a*10^l.length+Jc l:=by
 induction l with
 |nil=>intro a;simp[Jc]
 |cons c l ih =>
  intro a;simp only[List.foldl_cons,aM,Jc];rw[ih,ih (0*10+_)];rw[fL,aV,bL,bR,fA,fM 10,eQ]
def Kb(a b:List UInt8):Jc (a++b)=Jc a*10^b.length+Jc b:=by
 unfold Jc;rw[List.foldl_append,QEX];rfl
def qA:Jc []=0:=rfl
def Wc(c:UInt8):Jc [c]=c.toNat-48:=by simp[Jc]
def RB(c:UInt8)(l:List UInt8):Jc (c::l)=(c.toNat-48)*10^l.length+Jc l:=by
 rw[<-Wc,<-Kb];rfl
def VN(a b:List UInt8):ZG (a++b)=(ZG a&&ZG b):=by simp[ZG]
def Bu(c:UInt8)(l:List UInt8):ZG (c::l)=(I1 c&&ZG l):=by simp[ZG]
def Md(h:ZG l=true)(n:Nat):ZG (l.take n)=true:=by
 rw[<-aW n l,VN,ay]at h;exact h.1
def Td(h:ZG l=true)(n:Nat):ZG (l.drop n)=true:=by
 rw[<-aW n l,VN,ay]at h;exact h.2
theorem HK(h:ZG l=true):Jc l<10^l.length:=by
 induction l with
 |nil=>simp[Jc]
 |cons c l ih =>
  rw[Bu,ay]at h;have:=ih h.2;have hc:=Ki.1 h.1;rw[RB,aM,bR];have:(c.toNat-48)*10^l.length<=9*10^l.length:=fU _ O;omega
def Kw{d:Nat}(h:d<10):(fK (48+d)).toNat=48+d:=by
 rw[UInt8.toNat_ofNat'];omega
def J0(n:Nat):ZG (ae n)=true:=by
 induction n using iO with
 |_ n ih =>
  rw[ae];split
  ·rename_i h;simp[ZG,I1,Kw h];omega
  rw[VN,ih (n/10) O];have:n%10<10:=O;simp[ZG,I1,Kw this];omega
def Xd(n:Nat):Jc (ae n)=n:=by
 induction n using iO with
 |_ n ih =>
  rw[ae];split
  ·rename_i h;rw[Wc,Kw h];omega
  rw[Kb,ih (n/10) O,Wc,Kw O];simp;omega
def Vr(n:Nat):ae n≠[]:=by
 rw[ae];split<;>simp
def Ya:ae 0=[48]:=by rw[ae];rfl
def Xt(l:List UInt8):Bool:=ZG l&&!l.isEmpty&&(l==[48]||!(l.head?==some 48))
def WR{d:Nat}(hn:0<n)(hd:d<10):ae (n*10+d)=ae n++[fK (48+d)]:=by
 rw[ae,dif_neg O];congr 2
 ·congr 1;omega
 congr 2;omega
def F6(h:I1 c=true):fK (48+(c.toNat-48))=c:=by
 have:=Ki.1 h;apply eO;rw[Kw O];omega
theorem Ef:∀ {l:List UInt8},ZG l=true->l≠[]->l.head?≠some 48->ae (Jc l)=l/\0<Jc l:=by
 intro l
 induction hn:l.length generalizing l with
 |zero=>intro _ h _;exact absurd (aI hn) h
 |succ n ih =>
  intro ha hne hh;rcases List.eq_nil_or_concat l with h | ⟨a,c,rfl⟩
  ·exact absurd h hne
  simp only[List.concat_eq_append]at *
  rw[VN,ay]at ha;have hc:I1 c=true:=by simpa[ZG]using ha.2
  have hc':=Ki.1 hc;rw[Kb,Wc];cases a with
  |nil =>
   have h48:c≠48:=by simpa using hh
   have:c.toNat≠48:=λe=>h48 (eO (by rw[e];rfl));simp only[qA,fL,aV,ef];refine⟨?_,O⟩;rw[ae,dif_pos O,F6 hc]
  |cons x a =>
   obtain⟨h1,h2⟩:=ih (l:=x::a) (by simp at hn ⊢;omega) ha.1 wz (by simpa using hh);refine⟨?_,w6⟩;simp only[eD,lH];rw[WR h2 O,h1,F6 hc]
def Eg(h:Xt l=true):ae (Jc l)=l:=by
 simp only[Xt,ay,iN,beq_iff_eq,iD,fp]at h;rcases h.2 with h1 | h1
 ·subst h1;rw[Wc];exact Ya
 exact(Ef h.1.1 h.1.2 (by simpa using h1)).1
theorem ke(h:ZG l=true):∀a,ic a l=some (a*10^l.length+Jc l):=by
 induction l with
 |nil=>intro a;simp[ic,Jc]
 |cons c l ih =>
  intro a;rw[Bu,ay]at h;have hc:=Ki.1 h.1;simp only[ic,Lib.digitVal,if_pos hc];rw[ih h.2,RB,aM,bR,bL,fA,fM 10,eQ]
theorem jD{l:List UInt8}(h:ZG l=true)(hne:l≠[]):iV l=some (Jc l:Int):=by
 cases l with
 |nil=>exact absurd rfl hne
 |cons c l =>
  have hc:=Ki.1 (by rw[Bu,ay]at h;exact h.1);have h1:(c==45)=false:=by
   apply beq_eq_false_iff_ne.2;rintro rfl;simp at hc
  have h2:(c==43)=false:=by
   apply beq_eq_false_iff_ne.2;rintro rfl;simp at hc
  simp only[iV,h1,h2,bU,if_false,Lib.decNat,List.isEmpty_cons];rw[ke h];simp
def Hv(k:Nat)(l:List UInt8):List UInt8:=ff [48] (k-l.length)++l
def Ga(k:Nat):ff [48] k=aO k 48:=by
 induction k with
 |zero=>rfl
 |succ k ih=>rw[ff,ih];rfl
def Kg{u:Nat}(h:u<10^k)(hk:0<k):aN u<=k:=by
 induction k generalizing u with
 |zero=>omega
 |succ k ih =>
  by_cases h10:u<10
  ·rw[Lib.nDigits_small h10];omega
  rw[Lib.nDigits_big h10];rcases iz k with h0 | h0
  ·subst h0;simp at h;omega
  have:=ih (u:=u/10) (by rw[bR]at h;omega) h0;omega
theorem Lp{u:Nat}(hk:0<k):k<aN u↔10^k<=u:=by
 constructor
 ·intro h;rcases aR u (10^k)with g | g
  ·have:=Kg g hk;omega
  exact g
 intro h;rcases aR k (aN u)with g | g
 ·exact g
 have h1:=iB u;have h2:10^aN u<=10^k:=bK wu g;omega
def zu(k:Nat)(l:List UInt8)(c:UInt8):Hv (k+1) (l++[c])=Hv k l++[c]:=by
 unfold Hv;simp
theorem We{q:Nat}(hq:0<q):∀(k r:Nat),0<k->r<10^k->ae (q*10^k+r)=ae q++Hv k (ae r)
 |0,_,h,_=>O
 |1,r,_,hr=>by
  simp only[lH]at *
  rw[WR hq hr,eY hr];rfl
 |k+2,r,_,hr=>by
  have e:q*10^(k+2)+r=(q*10^(k+1)+r/10)*10+r%10:=by
   rw[bR,<-fA];omega
  have hr1:r/10<10^(k+1):=by rw[bR]at hr;omega
  have hpos:0<q*10^(k+1)+r/10:=by
   have:=Nat.mul_pos hq (Nat.pow_pos (n:=k+1) (show 0<10 by decide));omega
  rw[e,WR hpos O,We hq (k+1) (r/10) O hr1,aZ];congr 1;by_cases h10:r<10
  ·rw[eY (show r/10<10 by omega),eY h10];have h0:r/10=0:=O;rw[h0];unfold Hv;rw[Ga,Ga];simp only[eD,iA];rw[show k+2-1=k+1 by omega,fS,Nat.mod_eq_of_lt h10];rfl
  rw[<-zu];congr 1;rw[lC r,dif_neg h10]
def Zi(z:Int):List UInt8:=ib z
def Js(r:Rat):List UInt8:=if r.den=1 then Zi r.num else Zi r.num++47::ae r.den
def Kf(h:z<0):Zi z=45::ae z.natAbs:=by unfold Zi ib;rw[if_pos h]
def XT(h:0<=z):Zi z=ae z.natAbs:=by
 unfold Zi ib;rw[if_neg O];congr 1;omega
def Y7(l:List UInt8):Int:=if aB l [45]then -(Jc (l.drop 1):Int)else(Jc l:Int)
theorem Va(h:ZG l=true):aB l [45]=false:=by
 cases l with
 |nil=>rfl
 |cons c l =>
  have hc:=Ki.1 (by rw[Bu,ay]at h;exact h.1);have:(45==c)=false:=by
   apply beq_eq_false_iff_ne.2;rintro rfl;simp at hc
  simp[aB,ei,this]
def Ks(z:Int):Y7 (Zi z)=z:=by
 unfold Y7;by_cases h:z<0
 ·rw[Kf h];simp[aB,ei,Xd];omega
 rw[XT O,Va (J0 _)];simp[Xd];omega
def Xl{b:Int}(h:sz a<=m)(k:sz b<=n):sz (a*b)<=m+n:=ab (K3 a b) (Nat.add_le_add h k)
def Sn{b:Int}(h:sz a<=m)(k:sz b<=n):sz (a+b)<=max m n+1:=wk<|LM a b
theorem VY{b:Int}(hb:b≠0):JU (aF a b)<=max (sz a) (sz b):=by
 have key:∀(x y:Int),0<y->JU (aF x y)<=max (sz x) (sz y):=by
  intro x y hy;have h:=Vq (x:=x) hy;unfold JU;rw[h.1,h.2];have h1:sz (x/(bZ x y:Int))<=sz x:=KX (bw _ _);have h2:sz (y/(bZ x y:Int))<=sz y:=KX (bw _ _);omega
 rcases Int.lt_or_gt_of_ne hb with h | h
 ·rw[<-ix];have:=key (-a) (-b) O;rw[VZ,VZ]at this;exact this
 exact key a b h
def Kn(r:Rat):(r.den:Int)≠0:=wk<|den_pos r
def BR(r s:Rat):r+s=aF (r.num*s.den+s.num*r.den) ((r.den:Int)*s.den):=by
 rw[iZ,<-iJ,fh]
def BH(r s:Rat):r*s=aF (r.num*s.num) ((r.den:Int)*s.den):=by
 rw[Rat.mul_def',<-iJ,fh]
def Vk(r:Rat):JU (-r)=JU r:=by unfold JU;rw[Rat.neg_num,Rat.neg_den,VZ]
def KW(r s:Rat):JU (r+s)<=JU r+JU s+1:=by
 rw[BR];refine ab (VY (eE (Kn r) (Kn s))) ?_;have h1:=Sn (Xl (Jx r) (Jo s)) (Xl (Jx s) (Jo r));have h2:=Xl (Jo r) (Jo s);omega
def Hp(r s:Rat):JU (r-s)<=JU r+JU s+1:=by
 rw[iw];have:=KW r (-s);rw[Vk]at this;exact this
def Yt(r s:Rat):JU (r*s)<=JU r+JU s:=by
 rw[BH];refine ab (VY (eE (Kn r) (Kn s))) ?_;have h1:=Xl (Jx r) (Jx s);have h2:=Xl (Jo r) (Jo s);omega
theorem Nn{r:Rat}(h:r.num≠0):JU r⁻¹<=JU r:=by
 rw[lF];have:=VY (a:=(r.den:Int)) h;unfold JU at this ⊢;omega
def Gh(n:Int):JU (n:Rat)<=max (sz n) 1:=by
 unfold JU;rw[ew,ey];have:sz ((1:Nat):Int)=1:=wu;omega
def Wj(r:Rat)(k:Nat):JU (r^k)<=k*JU r+1:=by
 unfold JU;rw[lE,lG,fg];have h1:=Bw r.num k;have h2:=Bw (r.den:Int) k;have h3:=aL k (iP (sz r.num) (sz (r.den:Int)));have h4:=aL k (iL (sz r.num) (sz (r.den:Int)));omega
def P0(r:Rat):sz r.floor<=JU r:=by
 rw[iW];exact ab (KX (bw _ _)) (Jx r)
theorem W5{x y:Fr}{r s:Rat}(hF:Fits F w)(h:JN F x r)(h':JN F y s)(hr:JU r<=100000000)(hs:JU s<=100000000):X0 prog 83 [x.v,y.v] w F (r*s):=by
 refine QV.intro (G:=λF=>JN F x r/\JN F y s) func83 rfl wy rfl rfl hF (λF' hF'=>⟨h.le hF',h'.le hF'⟩)<|QI7<|Qs rfl (vs:=[_,_,_,_]) rfl λb2=>Qs rfl (vs:=[_,_,_,_]) rfl λb3=>Qc Jy λb4=>QHz<|QG<|JH (.cons _ tC) mixed wm<|QK (QH rfl Zo Qi)<|QK (wH I Qi .u1)<|QK (QH rfl Zo Qi)<|QK (wH I Qi .here)<|QP rfl (λ_ _ f k=>DJ f k.1.1 k.2.1 (ab (Jx r) O) (ab (Jx s) O)) λg9=>QK (QH rfl Zn Qi)<|QK (QJ (vs:=[_,_]) rfl Qi .u1 (.skip (.skip .h2)) rfl)<|QK (QH rfl Zn Qi)<|QK (QJ (vs:=[_,_]) rfl Qi .here (.skip (.skip .h2)) rfl)<|QP rfl (λ_ _ f k=>DJ f k.1.1.2 k.1.2.2 (ab (Jo r) O) (ab (Jo s) O)) λg14=>QP rfl (λw F hF ⟨⟨⟨⟨hn,hd⟩,⟨kn,kd⟩⟩,h9⟩,h14⟩=>UM hF h9 h14 (eE (Kn r) (Kn s)) (ab (Xl (Jx r) (Jx s)) O) (ab (Xl (Jo r) (Jo s)) O)) λx15=>JR (vs:=[_,_,_,_]) rfl rfl rfl QN rfl .here tC (λ_ h=>h.1.1.1) .h4 wV<|Q7<|QC<|QY ?_
 exact QS (_) rfl (.JX (c:=[_,_,_,_]) I QN .here .nil) rfl λF h9=>(by rw[BH];exact⟨h9.2.1,h9.2.2⟩)
def jI{r s:Rat}(h:(r.den:Int)=1)(k:(s.den:Int)=1):r+s=((r.num+s.num:Int):Rat):=by
 have h1:r.den=1:=O;have k1:s.den=1:=O;rw[iZ,h1,k1];apply Rat.ext
 ·rw[Rat.num_mkRat,ew];simp
 rw[Rat.den_mkRat,ey];simp
theorem Dd{x y:Fr}{r s:Rat}(hF:Fits F w)(h:JN F x r)(h':JN F y s)(hr:JU r<=100000000)(hs:JU s<=100000000):X0 prog 110 [x.v,y.v] w F (r+s):=by
 refine QV.intro (G:=λF=>JN F x r/\JN F y s) func110 rfl wy rfl rfl hF (λF' hF'=>⟨h.le hF',h'.le hF'⟩)<|QI7<|Qs rfl (vs:=[_,_,_,_]) rfl λb2=>Qs rfl (vs:=[_,_,_,_]) rfl λb3=>Qc Jy λb4=>QHz<|QG ?_
 refine Et 10 (.bool (decide ((r.den:Int)=1)&&decide ((s.den:Int)=1))) ?_ ?_
 ·refine QB<|QA (wJ I QN .u2)<|QI I (λw F hF ⟨⟨hn,hd⟩,⟨kn,kd⟩⟩=>MR hF ⟨by assumption,by assumption⟩) λ_=>QH0 I ?_
  refine Ql (t:=7) rfl (λhb7=>?_) λhb7=>?_
  ·refine QM I I<|QA (wJ I QN .u1)<|QM I I<|QI I (λw F hF ⟨⟨⟨hn,hd⟩,⟨kn,kd⟩⟩,_⟩=>MR hF ⟨by assumption,by assumption⟩) λ_=>wB 2 I ?_
   exact ZS (exd 7 rfl rfl) (by show some (ah _)=some (ah _);rw[hb7];rfl) QIM λ_ h=>h.1.1
  refine wB 4 I ?_;exact ZS (exd 7 rfl rfl) (by show some (ah false)=some (ah _);rw[hb7];rfl) QIM tA
 refine QR I (λhc=>?_) λhc=>?_
 ·refine QI7<|QA (QH I Zo Qi)<|QA (wH I Qi .u2)<|QA (QH I Zo Qi)<|QA (wH I Qi .u1)<|QI I (λ_ _ f k=>Cd f k.1.1 k.2.1 (ab (Jx r) O) (ab (Jx s) O)) λg15=>QI I (λw F hF ⟨⟨⟨hn,hd⟩,⟨kn,kd⟩⟩,h15⟩=>Dx hF (by assumption)) λx16=>QU (vs:=[_,_,_,_]) I I I QN I .here .h4 wV<|QHz<|QY ?_
  exact QS (_) rfl (.JX (c:=[_,_,_,_]) I QN .here .nil) rfl λF h9=>(by have hc2:(r.den:Int)=1/\(s.den:Int)=1:=(by simpa using hc);have e:(r+s:Rat)=((r.num+s.num:Int):Rat):=jI hc2.1 hc2.2;rw[e];exact⟨h9.2.1,h9.2.2⟩)
 refine QJL 3 I<|JH (.cons _ tC) mixed wm<|QK (QH I Zo Qi)<|QK (wH I Qi .u1)<|QK (QH I Zn Qi)<|QK (QJ (vs:=[_,_]) I Qi .here (.skip (.skip .h2)) I)<|QP I (λ_ _ f k=>DJ f k.1.1 k.2.2 (ab (Jx r) O) (ab (Jo s) O)) λg21=>QK (QH I Zo Qi)<|QK (wH I Qi .here)<|QK (QH I Zn Qi)<|QK (QJ (vs:=[_,_]) I Qi .u1 (.skip (.skip .h2)) I)<|QP I (λ_ _ f k=>DJ f k.1.2.1 k.1.1.2 (ab (Jx s) O) (ab (Jo r) O)) λg26=>QP I (λ_ _ f k=>Cd f k.1.2 k.2 (ab (Xl (Jx r) (Jo s)) O) (ab (Xl (Jx s) (Jo r)) O)) λg27=>QK (QH I Zn Qi)<|QK (QJ (vs:=[_,_]) I Qi .u1 (.skip (.skip .h2)) I)<|QK (QH I Zn Qi)<|QK (QJ (vs:=[_,_]) I Qi .here (.skip (.skip .h2)) I)<|QP I (λ_ _ f k=>DJ f k.1.1.1.1.2 k.1.1.1.2.2 (ab (Jo r) O) (ab (Jo s) O)) λg32=>QP I (λ_ _ f k=>UM f k.1.2 k.2 (eE (Kn r) (Kn s)) (ab (Sn (Xl (Jx r) (Jo s)) (Xl (Jx s) (Jo r))) O) (ab (Xl (Jo r) (Jo s)) O)) λx33=>JR (vs:=[_,_,_,_]) I I I QN I .here tC (λ_ h=>h.1.1.1.1.1) .h4 wV<|Q7<|QC<|QY ?_
 exact QS (_) rfl (.JX (c:=[_,_,_,_]) I QN .here .nil) rfl λF h9=>(by rw[BR];exact⟨h9.2.1,h9.2.2⟩)
theorem Ua{x y:Fr}{r s:Rat}(hF:Fits F w)(h:JN F x r)(h':JN F y s)(hr:JU r<=100000000)(hs:JU s<=100000000):X0 prog 101 [x.v,y.v] w F (r-s):=by
 refine QV.intro (G:=λF=>JN F x r/\JN F y s) func101 rfl wy rfl rfl hF (λF' hF'=>⟨h.le hF',h'.le hF'⟩)<|QI7<|Qs rfl (vs:=[_,_,_,_]) rfl λb2=>Qs rfl (vs:=[_,_,_,_]) rfl λb3=>Qc Jy λb4=>QHz<|QG<|JH (.cons _ tC) mixed wm<|QK (wJ I QN .u1)<|QK (wJ I QN .here)<|QP rfl (λ_ _ f k=>Ud f ⟨k.2.1,k.2.2⟩) λx7=>QP rfl (λ_ _ f k=>Dd f ⟨k.1.1.1,k.1.1.2⟩ ⟨k.2.1,k.2.2⟩ hr (by rw[Vk];exact hs)) λx8=>JR (vs:=[_,_,_,_]) I I I QN I .here tC (λ_ h=>h.1.1) .h4 wV<|Q7<|QC<|QY ?_
 exact QS (_) rfl (.JX (c:=[_,_,_,_]) I QN .here .nil) rfl λF h9=>(by rw[iw];exact⟨h9.2.1,h9.2.2⟩)
theorem L6{x:Fr}{r:Rat}(hF:Fits F w)(h:JN F x r)(h0:r.num≠0)(hr:JU r<=100000000):X0 prog 140 [x.v] w F r⁻¹:=by
 refine QV.intro (G:=λF=>JN F x r) func140 rfl wy rfl rfl hF (λF' hF'=>h.le hF')<|QI7<|Qs rfl (vs:=[_,_,_,_]) rfl λb1=>Qc Jy λb2=>QHz<|QI7<|QA (QH rfl Zn Qi)<|QA (QJ (vs:=[_,_]) rfl Qi .u1 (.skip (.skip .h2)) rfl)<|QA (QH rfl Zo Qi)<|QA (wH I Qi .u1)<|QI rfl (λ_ _ f k=>UM f k.2 k.1 h0 (ab (Jo r) O) (ab (Jx r) O)) λx7=>QU (vs:=[_,_,_,_]) rfl rfl rfl QN rfl .here .h4 wV<|QHz<|QY ?_
 exact QS (_) rfl (.JX (c:=[_,_,_,_]) I QN .here .nil) rfl λF h9=>(by rw[lF];exact⟨h9.2.1,h9.2.2⟩)
theorem yz{x y:Fr}{r s:Rat}(hF:Fits F w)(h:JN F x r)(h':JN F y s)(h0:s.num≠0)(hr:JU r<=100000000)(hs:JU s<=100000000):X0 prog 85 [x.v,y.v] w F (r/s):=by
 refine QV.intro (G:=λF=>JN F x r/\JN F y s) func85 rfl wy rfl rfl hF (λF' hF'=>⟨h.le hF',h'.le hF'⟩)<|QI7<|Qs rfl (vs:=[_,_,_,_]) rfl λb2=>Qs rfl (vs:=[_,_,_,_]) rfl λb3=>Qc Jy λb4=>QHz<|QG<|JH (.cons _ tC) mixed wm<|QK (wJ I QN .u1)<|QK (wJ I QN .here)<|QP rfl (λ_ _ f k=>L6 f ⟨k.2.1,k.2.2⟩ h0 hs) λx7=>QP rfl (λ_ _ f k=>W5 f ⟨k.1.1.1,k.1.1.2⟩ ⟨k.2.1,k.2.2⟩ hr (ab (Nn h0) hs)) λx8=>JR (vs:=[_,_,_,_]) rfl rfl rfl QN rfl .here tC (λ_ h=>h.1.1) .h4 wV<|Q7<|QC<|QY ?_
 exact QS (_) rfl (.JX (c:=[_,_,_,_]) I QN .here .nil) rfl λF h9=>(by rw[Rat.div_def];exact⟨h9.2.1,h9.2.2⟩)
def Yb(r s:Rat):Int:=if r<s then -1 else if r=s then 0 else 1
def uD(r s:Rat):YE (r.num*s.den) (s.num*r.den)=Yb r s:=by
 unfold Yb;rcases bY (r.num*s.den) (s.num*r.den)with h | h | h
 ·rw[Gz h,if_pos ((iy r s).2 h)]
 ·rw[h,SM,if_neg (by rw[iy];omega),if_pos (Rat.eq_iff_mul_eq_mul.2 h)]
 rw[Ej h,if_neg (by rw[iy];omega),if_neg (by rw[Rat.eq_iff_mul_eq_mul];omega)]
theorem Gv{x y:Fr}{r s:Rat}(hF:Fits F w)(h:JN F x r)(h':JN F y s)(hr:JU r<=100000000)(hs:JU s<=100000000):Qg prog 95 [x.v,y.v] w F (.int .i64 (Yb r s)):=by
 rw[<-uD];refine QV.intro (G:=λF=>JN F x r/\JN F y s) func95 rfl wy rfl rfl hF (λF' hF'=>⟨h.le hF',h'.le hF'⟩)<|QI7<|Qs rfl (vs:=[_,_,_,_]) rfl λb2=>Qs rfl (vs:=[_,_,_,_]) rfl λb3=>wQ rfl<|QG<|JH QIM mixed wm<|QK (QH rfl Zo Qi)<|QK (wH I Qi .u1)<|QK (QH rfl Zn Qi)<|QK (QJ (vs:=[_,_]) rfl Qi .here (.skip (.skip .h2)) rfl)<|QP rfl (λ_ _ f k=>DJ f k.1.1 k.2.2 (ab (Jx r) O) (ab (Jo s) O)) λg9=>QK (QH rfl Zo Qi)<|QK (wH I Qi .here)<|QK (QH rfl Zn Qi)<|QK (QJ (vs:=[_,_]) rfl Qi .u1 (.skip (.skip .h2)) rfl)<|QP rfl (λ_ _ f k=>DJ f k.1.2.1 k.1.1.2 (ab (Jx s) O) (ab (Jo r) O)) λg14=>QP rfl (λw F hF ⟨⟨⟨⟨hn,hd⟩,⟨kn,kd⟩⟩,h9⟩,h14⟩=>QEf hF h9 h14 (ab (Xl (Jx r) (Jo s)) O) (ab (Xl (Jx s) (Jo r)) O)) λ_=>QK (QF rfl)<|Q7<|QC<|QY ?_
 exact QJO I I I w8
theorem Fu{x:Fr}{r:Rat}(hF:Fits F w)(h:JN F x r)(hr:JU r<=100000000):ZP prog 217 [x.v] w F r.floor:=by
 refine QV.intro (G:=λF=>JN F x r) func217 rfl wy rfl rfl hF (λF' hF'=>h.le hF')<|QI7<|Qs rfl (vs:=[_,_,_,_]) rfl λb1=>Qc Yl λb2=>QHz<|QI7<|QA (QH rfl Zo Qi)<|QA (wH I Qi .u1)<|QA (QH rfl Zn Qi)<|QA (QJ (vs:=[_,_]) rfl Qi .u1 (.skip (.skip .h2)) rfl) ?_
 refine QI I (λ_ _ f k=>Ed f k.1 k.2 (den_pos r) (ab (Jx r) O) (ab (Jo r) O)) (λc10=>?_);rcases c10 with ⟨g10,g10_⟩;dsimp only;refine wB 3 I<|Qc Yl λb3=>Qc Yl λb4=>QU (vs:=[_,_]) I I I Qi I .u1 .h2 wT<|QU (vs:=[_,_]) I I I Qi I .here .h2 wT<|QHz<|QI7<|QA (wH I Qi .u1)<|QU (vs:=[_,_]) I I I Qi I .u2 .h2 wT<|QHz<|QY ?_
 exact QS (_) rfl (.JX (c:=[_,_]) I Qi .u2 .nil) rfl λF h9=>(by rw[iW];exact h9.2.1)
theorem ph{x:Fr}{r:Rat}(hF:Fits F w)(h:JN F x r)(hr:JU r<=100000000):ZP prog 218 [x.v] w F (-(-r).floor):=by
 refine QV.intro (G:=λF=>JN F x r) func218 rfl wy rfl rfl hF (λF' hF'=>h.le hF')<|QI7<|Qs rfl (vs:=[_,_,_,_]) rfl λb1=>Qc Yl λb2=>QHz<|QI7<|QA (wJ I QN .u1)<|QI rfl (λ_ _ f k=>Ud f ⟨k.1,k.2⟩) λx4=>QI rfl (λ_ _ f k=>Fu f ⟨k.2.1,k.2.2⟩ (by rw[Vk];exact hr)) λg5=>QI I (λw F hF ⟨⟨⟨hn,hd⟩,⟨h4,h4_⟩⟩,h5⟩=>RQ hF (by assumption)) λg6=>QU (vs:=[_,_]) I I I Qi I .here .h2 wT<|QHz<|QY ?_
 exact QS (_) rfl (.JX (c:=[_,_]) I Qi .here .nil) rfl tB
def L1:(aF 1 2).num=1/\((aF 1 2).den:Int)=2:=wv
theorem MU{x:Fr}{r:Rat}{k:Int}(hF:Fits F w)(h:JN F x r)(hk:0<=k)(hK:k<=9223372036854775807)(hz:k.toNat*JU r<=500000000):X0 prog 144 [x.v,.int .i64 k] w F (r^k.toNat):=by
 refine QV.intro (G:=λF=>JN F x r) func144 rfl wy rfl rfl hF (λF' hF'=>h.le hF')<|QI7<|Qs rfl (vs:=[_,_,_,_]) rfl λb2=>Qc Jy λb4=>QHz<|QG<|JH (.cons _ tC) mixed wm<|QK (QH rfl Zo Qi)<|QK (wH I Qi .here)<|QK (QD rfl)<|QP rfl (λ_ _ f k=>zX f k.1 hk hK (ab (aL _ (Jx r)) hz)) λg8=>QK (QH rfl Zn Qi)<|QK (QJ (vs:=[_,_]) rfl Qi .here (.skip (.skip .h2)) rfl)<|QK (QD rfl)<|QP rfl (λ_ _ f k=>zX f k.1.2 hk hK (ab (aL _ (Jo r)) hz)) λg12=>QK (Q2 rfl ML Jy (.cons (vs:=[_,_]) rfl rfl rfl .h2 (.cons (vs:=[_,_]) rfl rfl rfl (.skip (.skip .h2)) .nil)))<|JR (vs:=[_,_,_,_]) rfl rfl rfl QN rfl .here tC (λ_ h=>h.1.1) .h4 wV<|Q7<|QC<|QY ?_
 exact QS (⟨g8,g12⟩) I (.JX (c:=[_,_,_,_]) I QN .here .nil) rfl λF h9=>⟨by rw[lE];exact h9.1.2,by rw[lG,fg];exact h9.2⟩
theorem KC.kind{s:Int}{q:Option Addr}(h:KC w s q n cap z):(q.isNone=true/\s=z/\-9223372036854775808<=z/\z<=9223372036854775807)\/(q.isNone=false/\¬(-9223372036854775808<=z/\z<=9223372036854775807/\z≠-9223372036854775808)):=by
 rcases h with ⟨rfl,_,_,h1,h2,h3⟩ | ⟨b,off,l,rfl,_,_,_,_,_,_,_,hs,hz,hd⟩
 ·exact .inl ⟨rfl,h1,h2,h3⟩
 refine .inr ⟨rfl,?_⟩;rcases hs with rfl | rfl<;>omega
theorem gn(hF:Fits F w)(h:XD F g a):QV prog 156 [g.v] w F (λ(c:Int×Bool)=>.tuple #[.int .i64 c.1,.bool c.2])
  (λc _=>(c.2=true/\c.1=a/\-9223372036854775808<=a/\a<=9223372036854775807)\/(c.2=false/\¬(-9223372036854775808<=a/\a<=9223372036854775807/\a≠-9223372036854775808))):=by
 have hk:=KC.kind (h w hF.r);refine QV.intro (G:=λF=>XD F g a) func156 rfl wy rfl rfl hF (λF' hF'=>h.le hF')<|QI7<|Qs rfl (vs:=[_,_]) rfl λb1=>QH1 rfl<|wQ rfl<|QG<|JH QIM mixed wm<|QK (QH rfl EZ JO)<|QK (Qf rfl JO .here .h1)<|QK (QH rfl Bm VW)<|QK (Qf rfl VW .here (.skip .h1))<|QK (GJ rfl rfl Y8)<|QK (QF rfl)<|QK (QF rfl)<|Q7<|QC<|QY ?_
 exact Jd ((g.s,g.q.isNone)) I (wO I I) rfl λF _=>hk
theorem O5{m:Sl}{w0:World}{F0:Gs}{bs:List (Nat×Obj)}{G:Gs->Prop}{ty:TypeId}{l:List Int}(hx:ev m x=some (.pointer (some ⟨b,off+i*1,none⟩)))(ht:Z5 P T=some (false,n))(hr:∀F,G F->VS F ⟨some ⟨b,off,none⟩,k,cap⟩ l)(hi:i<l.length):
  Qt P N m (St ⟨w0,F0,bs,G⟩) (.load T x) ty (.int .u64 (l.getD i 0)):=λa w _ _ _ _ ha hw=>by
 obtain⟨F,hw⟩:=hw;obtain⟨q,cap',e,_,_,hc⟩:=(hr F hw.hG).1 w hw.fits.r;obtain⟨b',off',e1,_,e2⟩:=hc i hi;simp only[Sr.v,bz]at e;have e3:=e.1.trans e1;simp only[bO,fk]at e3;obtain⟨rfl,rfl,_⟩:=e3;have hc':w.cell? ⟨b,off+i*1,none⟩=some (.int .u64 (l.getD i 0)):=by rw[fT];exact e2
 have hrun:=Z1 (P:=P) ht hc';simp at hrun;simp[execOp,ha.ev hx,eT,eG,hrun]
theorem VS.at{r:Sr}{l:List Int}(h:VS F r l){w:World}(hw:Fits F w)(hl:l≠[]):r.n=l.length/\∃b off,r.q=some ⟨b,off,none⟩:=by
 obtain⟨q,cap,e,_,_,hc⟩:=h.1 w hw.r;have hlen:0<l.length:=by cases l with | nil=>exact absurd rfl hl | cons=>simp
 obtain⟨b,off,e1,_,_⟩:=hc 0 hlen;simp only[Sr.v,bz]at e;exact⟨e.2.1,b,off,e.1.trans e1⟩
theorem VS.len{r:Sr}{l:List Int}(h:VS F r l){w:World}(hw:Fits F w):r.n=l.length:=by
 obtain⟨q,cap,e,_,_,hc⟩:=h.1 w hw.r;simp only[Sr.v,bz]at e;exact e.2.1
theorem xZ(h1:2^k<=z.natAbs)(h2:z.natAbs<2^(k+1)):sz z=k+1:=by
 have a:=(XO z (k+1)).2 h2;have b:¬sz z<=k:=λh=>wk<|(XO z k).1 h
 omega
theorem jA{l:List Int}(hd:DG W l)(hn:NZ l)(hl:l≠[]){a:Int}(ha:dv W l=Jm a):sz a=64*(l.length-1)+bF (l.getD (l.length-1) 0).toNat/\bF (l.getD (l.length-1) 0).toNat<=64:=by
 rcases LS l with h | ⟨m,x,rfl⟩
 ·exact absurd h hl
 have hx:=hd x wz;have hx0:x≠0:=by intro e;subst e;simp[NZ]at hn
 have hm:DG W m:=hd.left;have e1:((m++[x]).getD ((m++[x]).length-1) 0)=x:=wz;rw[e1];have e2:(m++[x]).length-1=m.length:=wz;rw[e2];have hW:W=18446744073709551616:=rfl;obtain⟨y,rfl⟩:=fI hx.1;rw[ba];have hy1:y<2^64:=by have:=hx.2;rw[hW]at this;omega
 obtain⟨g1,g2,g3⟩:=Lib.bitLenAux_bounds 64 y hy1 O;change 1<=bF y at g1;change 2^(bF y-1)<=y at g2;change y<2^bF y at g3;have g4:bF y<=64:=Lib.bitLen_le y 64 O hy1;refine⟨?_,g4⟩;rw[X6]at ha;have h0:=JG (by decide:(0:Int)<W) hm;have h1:=Km (by decide:(0:Int)<W) hm;obtain⟨d,hd'⟩:=fI h0;have hWp:W^m.length=((2^(64*m.length):Nat):Int):=by
  rw[hW,lI];simp
 rw[hWp]at ha h1;rw[hd']at ha h1;have hna:a.natAbs=d+2^(64*m.length)*y:=by
  have:((a.natAbs:Nat):Int)=((d+2^(64*m.length)*y:Nat):Int):=by
   rw[<-VD,<-ha];simp
  exact Int.ofNat.inj this
 have hlt:d<2^(64*m.length):=O;obtain⟨k,hk⟩:∃k,bF y=k+1:=⟨_,(Nat.sub_add_cancel g1).symm⟩;rw[hk]at g2 g3 ⊢;rw[iA]at g2;have hp:2^(64*m.length+k)=2^(64*m.length)*2^k:=lJ _ _ _;have hp':2^(64*m.length+k+1)=2^(64*m.length)*2^(k+1):=by rw[eQ,lJ]
 refine xZ (k:=64*m.length+k) ?_ ?_
 ·rw[hna,hp];exact ab (aL _ g2) (Nat.le_add_left _ _)
 rw[hna,hp'];have h2:2^(64*m.length)*(y+1)<=2^(64*m.length)*2^(k+1):=aL _ g3;rw[lK]at h2;omega
theorem QB1(hF:Fits F w)(h:XD F g a)(hza:sz a<=1000000000):Qg prog 214 [g.v] w F (.int .i64 (sz a)):=by
 refine QV.intro (G:=λF=>XD F g a) func214 rfl wy rfl rfl hF (λF' hF'=>h.le hF')<|QI7<|Qs rfl (vs:=[_,_]) rfl λb1=>wQ rfl<|QI7<|QA (wH I Qi .here) ?_
 refine QI I (λ_ _ f k=>Nv f (by assumption)) (λc7=>?_);rcases c7 with ⟨v7,l7⟩;dsimp only;refine JM _ (λw F hF ⟨hG0,⟨h7,h7p⟩⟩=>bH h7.2 h7p) (λp7=>JM _ (λ_ _ f k=>k.2.1.len f) λhl7=>?_);have hlen7:=ZB p7.1.1 p7.1.2 p7.2 hza
 try dsimp only at hl7
 refine QJK 11 I<|QA (Qh I Y8)<|QJK 3 I ?_
 refine QR I (λhc=>?_) λhc=>?_
 ·refine wA 6 I ?_;exact QS () I (wN I) (by have h0:l7=[]:=aI (by simp at hc;omega);have e:=p7.2;rw[h0]at e;have:a=0:=(by have:=VD a;simp at e;omega);subst this;rfl) w8
 refine QJL 4 I ?_;have hne:l7≠[]:=by rintro rfl;simp at hc;simp at hl7;omega
 have hpos:0<l7.length:=by cases l7 with | nil=>exact absurd rfl hne | cons=>simp
 have hsp:=jA p7.1.1 p7.1.2 hne p7.2;refine JM _ (λ_ _ f k=>(k.2.1.at f hne).2) (λhq7=>?_);obtain⟨qb,qo,hq7⟩:=hq7;obtain⟨vq,vn,vcap⟩:=v7
 try dsimp only at hq7 hl7
 subst hq7;subst hl7;dsimp only;refine QH0 I<|QA (Qh I Y8)<|QA (X3 I I O)<|QA (M0 I I O)<|wB 2 I<|QA (Qh I Y8)<|QA (X3 I I O)<|QA (JJ (i:=l7.length-1) rfl wM Y8 Po O)<|QA (O5 I Po (λF h9=>h9.2.1) O)<|QI I (λ_ _ f k=>dn f (p7.1.1.getD wu _).1 (by have:=(p7.1.1.getD wu (l7.length-1)).2;have hW:W=18446744073709551616:=rfl;omega)) λ_=>QA (Qw I I O)<|wQ I<|QY ?_
 exact QS () I (wN I) (congrArg (ak .i64) (wk hsp.1)) w8
def D2{l:List UInt8}(h:ZG l=true):sz (Jc l:Int)<=4*l.length:=by
 rw[XO,Int.natAbs_natCast,lI];exact aA (HK h) (eP wu _)
def QEN(n:Nat):(if(n:Int)<18 then(n:Int)else 18)=((min 18 n:Nat):Int):=by split<;>omega
def La:Jc (l.take (k+n))=Jc (l.take k)*10^((l.drop k).take n).length+Jc ((l.drop k).take n):=by
 rw[<-Kb,List.take_add]
def AT(k:Nat):sz ((10:Int)^k)<=4*k+1:=by have:=Bw 10 k;rw[show sz 10=4 by decide]at this;omega
structure QAJ(n:Nat) where
 k:Nat
 g:Bg
 le:k<=n
theorem RA(hF:Fits F w)(hs:ZG (ag s [45])=true)(hl:s.length<=10000000):ZP prog 155 [tx s] w F (Y7 s):=by
 have hll:(ag s [45]).length<=s.length:=by unfold ag;split<;>simp
 have hval:Y7 s=if aB s [45]then -(Jc (ag s [45]):Int)else(Jc (ag s [45]):Int):=by
  unfold Y7 ag;split<;>simp_all
 rw[hval];refine QV.intro (G:=λ_=>True) func155 rfl wy rfl rfl hF w8<|QI7<|Qc Yl λb2=>QHz<|wR rfl<|QI rfl (λ_ _ f _=>Fg f ) λ_=>wQ rfl<|wR rfl<|QI rfl (λ_ _ f k=>D0 f ) λ_=>wQ rfl<|QI7<|QA (Q2 rfl QA7 Yl .nil)<|Qc Yl λb4=>QU (vs:=[_,_]) rfl rfl rfl Qi rfl .here .h2 wT ?_
 refine QJK 4 I ?_;generalize ag s [45]=l at *
 refine YA (ι:=QAJ l.length) (λi=>[(0,tx (l.drop i.k)),(2,.pointer (some ⟨b2,0,none⟩)),(4,.pointer (some ⟨b4,0,none⟩)),(3,.bool (aB s [45]))]) (λi=>[(b4,.cells #[.int .i64 i.g.s,.slice i.g.q i.g.n i.g.cap] 116 (0,0)),(b2,.cells #[.int .i64 0,.slice none 0 0] 116 (0,0))]) (λi F=>XD F i.g (Jc (l.take i.k))) (λi=>l.length-i.k)
  ⟨0,⟨0,none,0,0⟩,eH _⟩ wV QIM (λF _=>XD.small F wu wu) λi=>?_
 refine wA 4 I<|QA (Xj I Zk)<|QJK 3 I ?_
 refine QR I (λhc=>?_) λhc=>?_
 ·refine QJL 6 I<|QA (Xj I Zk)<|QA (vr I I) ?_
  rw[QEN];have hk0:i.k<l.length:=by simp at hc;omega
  have hpl:((l.drop i.k).take (min 18 (l.drop i.k).length)).length=min 18 (l.drop i.k).length:=wz;have hpa:ZG ((l.drop i.k).take (min 18 (l.drop i.k).length))=true:=Md (Td hs _) _;have hp18:=HK hpa;have hpz:(10:Nat)^((l.drop i.k).take (min 18 (l.drop i.k).length)).length<=10^18:=bK wu O;have hm0:0<min 18 (l.drop i.k).length:=w6;have hsk:sz (Jc (l.take i.k):Int)<=40000000:=ab (D2 (Md hs _)) w6;refine wQ rfl<|wR rfl<|QH0 rfl<|QA (Mn (min 18 (l.drop i.k).length) rfl rfl Zk rfl O)<|QI rfl (λ_ _ f k=>QB2 f O (jD hpa (by intro e;rw[e]at hpl;simp at hpl;omega))) λ_=>QJK 8 I<|Jp 8 QIM mixed wm wm ?_
  simp only[aT,bC,aU,aP];refine QK (wH I Qi .here)<|QP I (λ_ _ f k=>Av f O O) λg27=>QK (QD I)<|QP I (λ_ _ f k=>zX f k.2 O O (by rw[ba,show sz 10=4 by decide];omega)) λg29=>QP I (λ_ _ f k=>DJ f k.1.1.1 k.2 O (by rw[ba];exact ab (AT _) O)) λg30=>QK (QD I)<|QP I (λ_ _ f k=>Av f O O) λg32=>QP I (λ_ _ f k=>Cd f k.1.2 k.2 (ab (Xl hsk (AT _)) (by rw[ba];omega)) (ab (D2 hpa) O)) λg33=>ZV<|QU (vs:=[_,_]) I I I Qi I .here .h2 wT<|QJK 5 I<|QA (GC (min 18 (l.drop i.k).length) rfl rfl Zk I O)<|wB 2 I<|Qk ?_
  refine Qm (⟨i.k+min 18 (l.drop i.k).length,g33,w6⟩:QAJ l.length) w6 ⟨(by show some (tx _)=some (tx _);simp),rfl,rfl,rfl,trivial⟩ QIM (λF ⟨_,h33⟩=>by
   show XD F g33 (Jc (l.take (i.k+min 18 (l.drop i.k).length)):Int);rw[La];rw[ba]at h33;have e:((l.drop i.k).take (min 18 (l.drop i.k).length)).length=min 18 (l.drop i.k).length:=wz;rw[e,Int.natCast_add,fh,fg];exact h33)
 refine Qz ?_
 repeat first|refine QZ ?_|refine QQ wy ?_
 refine Qa<|QJM 7 I ?_
 have hdone:l.take i.k=l:=ao (by have:=i.le;simp at hc;omega);clear hc;refine QR I (λhc=>?_) λhc=>?_
 ·refine QI7<|QA (wH I Qi .here)<|QI I (λ_ _ f k=>RQ f k) λg39=>QU (vs:=[_,_]) I I I Qi I .u1 .h2 wT<|QHz<|QY ?_
  exact QS (_) rfl (.JX (c:=[_,_]) I Qi .u1 .nil) rfl λF ⟨hO,h39⟩=>(by rw[hdone]at h39;rw[if_pos hc];exact h39)
 refine QJL 4 I<|QA (wH I Qi .here)<|QU (vs:=[_,_]) I I I Qi I .u1 .h2 wT<|QHz<|QY ?_
 exact QS (_) rfl (.JX (c:=[_,_]) I Qi .u1 .nil) rfl λF hO=>(by rw[hdone]at hO;rw[if_neg (by simp[hc])];exact hO)
section
variable[Dr][df:Df]{P:Program}{Q:Exit->Act->World->Prop}{N:Nat}{m:Sl}{E E0:Env}{ops:Array Oper}{l:List Oper}{w0:World}{F0:Gs}{bs:List (Nat×Obj)}{G:Gs->Prop}
theorem St.kb(h:St ⟨w0,F0,bs,G⟩ w)(c:Array Value)(T:TypeId):St ⟨w0,F0,bs,λF=>G F/\F w.heap.size=some (c,T)⟩ (w.alloc (.cells c T)):=by
 obtain⟨F,h⟩:=h;have hnone:=h.fits.none (aE w.heap.size);have hle:Gs.le F (λi=>if i=w.heap.size then some (c,T)else F i):=λi x hx=>by
  by_cases e:i=w.heap.size
  ·subst e;rw[hnone]at hx;cases hx
  show(if _ then _ else _)=_;rw[if_neg e];exact hx
 have hnew:(w.alloc (.cells c T)).heap[w.heap.size]?=some (.cells c T):=by show(w.heap.push _)[_]?=_;simp
 refine⟨_,Gs.le_trans h.le hle,λb hb=>?_,⟨λb c' T' hb=>?_,λb c' fr hb=>?_⟩,h.ext.alloc _,λk hk=>?_,h.nd,λF' hF'=>⟨h.g F' (Gs.le_trans hle hF'),hF' _ _ (if_pos rfl)⟩⟩
 ·have hb2:b<w.heap.size:=aA hb h.ext.size;rw[if_neg O];exact h.old b hb
 ·by_cases e:b=w.heap.size
  ·subst e;rw[if_pos rfl]at hb;cases hb;exact⟨_,hnew⟩
  rw[if_neg e]at hb;obtain⟨fr,e2⟩:=h.fits.row b c' T' hb;exact⟨fr,by rw[eX _ _ _ (h.fits.lt hb)];exact e2⟩
 ·by_cases e:b=w.heap.size
  ·subst e;rw[hnew]at hb;cases hb;show(if _ then _ else _)=_;rw[if_pos rfl]
  show(if _ then _ else _)=_;rw[if_neg e];have hlt:b<w.heap.size:=by
   rcases aR b w.heap.size with g | g
   ·exact g
   exfalso;have:(w.heap.push (.cells c T))[b]?=some (.cells c' 256 fr):=hb;rw[fD w6]at this;cases this
  rw[eX _ _ _ hlt]at hb;exact h.fits.all b c' fr hb
 obtain⟨h1,h2,h3⟩:=h.bx k hk;have hlt:k.1<w.heap.size:=by
  rcases aR k.1 w.heap.size with g | g
  ·exact g
  rw[fD g]at h1;cases h1
 exact⟨by rw[eX _ _ _ hlt];exact h1,h2,by rw[if_neg O];exact h3⟩
section
variable{d:Nat}{ty:TypeId}{pos:String}{aft:Array Edge}
theorem Qb{t e:TypeId}{sz:Nat}{z:List Value}{g:Bool}{parts:Array (Nat×Operand)}{ps:List (Nat×Value)}(hp:W4 m parts.toList=some ps)(ht:P.underlying t=some (.slice e))(hs:Z5 P e=some (g,sz))(hz:XE P e=some z)
  (hc:Kh sz 0 ps=some cs) (hl:cs.length=n*sz) (k:∀b,JS P ops Q l N ((d,.slice (some ⟨b,0,none⟩) n n)::m) ⟨w0,F0,bs,λF=>G F/\F b=some (cs.toArray,e)⟩) (h24:j9 (n*sz) 16777216=true:=by rfl) (hn:Nat.beq (n*sz) 0=false:=by rfl)
  (hd:J5 N (some d)=true:=by rfl):JS P ops Q (⟨some d,.buildSlice t n parts,ty,pos,aft,none⟩::l) N m ⟨w0,F0,bs,G⟩:=λa w ha hw =>
 wpList_plain rfl λ_ hK=>upon_value (K4 ha hp ht hs hz hc hl h24 hn) (hK _ _ (k _ _ _ (ha.put hd _) (hw.kb _ _)))
theorem KB{t e:TypeId}{sz bytes:Nat}{z:List Value}{g:Bool}{X Y:Operand}{x y:Value}{news:List Value}{bs1:List (Nat×Obj)}(hx:ev m X=some x)(hy:ev m Y=some y)(ht:G9 P t=some e)(hs:Z5 P e=some (g,sz))(hz:XE P e=some z)(hzl:z.length=sz)(hby:ZM P e=some bytes)
  (hr:Q9 e sz x n olds ob) (hs2:Src ⟨w0,F0,bs1++ob,G⟩ sz y k news) (h63:n+k<=9223372036854775807) (h47:(n+k)*bytes<=140737488355328) (h1:∀v∈news,v.oneCell'=true)
  (kk:∀v' ob',Q9 e sz v' (n+k) (olds++news) ob'->JS P ops Q l N ((d,v')::m) ⟨w0,F0,bs1++ob',G⟩) (hu:Hk e=true:=by rfl) (hd:J5 N (some d)=true:=by rfl) :
  JS P ops Q (⟨some d,.call ⟨.builtin .append,#[X,Y],#[t,t]⟩,ty,pos,aft,none⟩::l) N m ⟨w0,F0,bs1++ob,G⟩ :=
 Ze eC (Mj hx hy ht hs hz hzl hby hr ⟨hs2.len,hs2.rd.imp id λ⟨a,c,e1,e2⟩=>⟨a,c,e1,λw hw=>e2 w (hw.perm eC)⟩⟩ h63 h47 h1
  (λv' ob' h=>Ze eC (kk v' ob' h)) hu hd)
end
theorem Own.skip{l:List (Nat×Obj)}{o:Obj}(h:Own l b o f):∀p:List (Nat×Obj),Own (p++l) b o (λo'=>p++f o')
 |[]=>h
 |_::p=>.there (h.skip p)
theorem qD{e ty:TypeId}{sz n':Nat}{v:Value}{u:Value}(hr:Q9 e sz v n cs ob)(hm:∀k∈ob,k∈bs)(hb:v = .slice (some ⟨b,0,none⟩) n n')(hx:ev m x=some (.pointer (some ⟨b,0+i*1,none⟩)))(ht:Z5 P T=some (false,1))(hu:cs[i]?=some u):
  Qt P N m (St ⟨w0,F0,bs,G⟩) (.load T x) ty u:=λa w _ _ _ _ ha hw=>by
 obtain⟨F,hw⟩:=hw;cases hr with
 |nil=>simp at hu
 |some g1 g2 g3 g4 =>
  rename_i b' cap rest;simp only[bz,bO,fk]at hb;have hbb:=hb.1.1;subst hbb;have hi:i<cs.length:=by rcases aR i cs.length with h | h;exact h;rw[aX h]at hu;cases hu
  have hc:w.cell? ⟨b',0+i*1,none⟩=some u:=by
   rw[ZF (hw.bx (b',.cells (cs++rest).toArray e (0,0)) (hm _ wz)).1,aV,fT,aQ,if_pos hi];exact hu
  have hrun:=Z1 (P:=P) ht hc;simp only[execOp,ha.ev hx,eT,eG,er,ep,bB,hrun]
end
def hd(q:Nat):List UInt8:=if q=0 then[]else ae q
def pV(h:0<n):hd n=hd (n/10^18)++(if n/10^18=0 then ae (n%10^18)else Hv 18 (ae (n%10^18))):=by
 unfold hd;rw[if_neg O];split
 ·rename_i h0;rw[ef];congr 1;omega
 rename_i h0;rw[<-We O 18 _ wu (Nat.mod_lt _ wu)];congr 1;rw[fM];exact(Nat.div_add_mod n (10^18)).symm
theorem qM{l:List Int}(hd:DG W l)(hn:NZ l)(h:dv W l<W):(l=[]\/l=[dv W l]):=by
 cases l with
 |nil=>exact .inl rfl
 |cons x r =>
  cases r with
  |nil=>right;simp
  |cons y r =>
   exfalso;have:=Rs (by decide:(0:Int)<W) hd hn wz;have h2:=Xz (b:=W) wu (show 1<=(x::y::r).length-1 by simp);rw[Int.pow_one]at h2;omega
structure jL(n:Nat) where
 l:List Int
 r:Sr
 ps:List (List UInt8)
 v:Value
 ob:List (Nat×Obj)
 dg:DG W l
 nz:NZ l
 le:(dv W l).toNat<=n
 hr:Q9 9 1 v ps.length (ps.map tx) ob
 ne:∀p∈ps,p≠[]
 inv:hd (dv W l).toNat++ps.reverse.flatten=hd n
def Fs:∀ {ps:List (List UInt8)},(∀p∈ps,p≠[])->ps.length<=ps.flatten.length
 |[],_=>wz
 |p::ps,h=>by
  have h1:=Fs (ps:=ps) (λq hq=>h q (by simp[hq]));have h2:0<p.length:=by
   have:=h p wz;cases p with | nil=>exact absurd rfl this | cons=>simp
  simp[fW]at h1 ⊢;omega
def yr(h:n<2^k):(hd n).length<=k:=by
 unfold hd;split
 ·simp
 rename_i h0;rw[aS];have hk:0<k:=by rcases iz k with e | e;subst e;simp at h;omega;exact e
 exact Kg (aA h (eP wu k)) hk
def T6(ps:List (List UInt8)):ps.reverse.flatten.length=ps.flatten.length:=by
 induction ps with
 |nil=>rfl
 |cons p ps ih=>simp[bP];simp[fW]at ih ⊢;omega
def jL.few(i:jL n)(h:n<2^k):i.ps.length<=k:=by
 have h1:=Fs i.ne;have h2:=congrArg fb i.inv;rw[aq,T6]at h2;have h3:=yr h;omega
def QBA(h:l≠[]):Hv 18 l≠[]:=by
 unfold Hv;simp[h]
def jL.next{n:Nat}(i:jL n)(hl:i.l≠[])(q:List Int)(rq:Sr)(v':Value)(ob':List (Nat×Obj))(s:List UInt8)(hdq:DG W q)(hnq:NZ q)(hq:(dv W q).toNat=(dv W i.l).toNat/10^18)
  (hs:s=if(dv W q).toNat=0 then ae ((dv W i.l).toNat%10^18)else Hv 18 (ae ((dv W i.l).toNat%10^18)))
  (hr:Q9 9 1 v' (i.ps.length+1) (i.ps.map tx++[tx s]) ob'):jL n where
 l:=q
 r:=rq
 ps:=i.ps++[s]
 v:=v'
 ob:=ob'
 dg:=hdq
 nz:=hnq
 le:=by have:=i.le;have:=Nat.div_le_self (dv W i.l).toNat (10^18);omega
 hr:=by simpa using hr
 ne:=by
  intro p hp;rcases List.mem_append.1 hp with h | h
  ·exact i.ne p h
  rw[List.mem_singleton.1 h,hs];split
  ·exact Vr _
  exact QBA (Vr _)
 inv:=by
  have h0:0<(dv W i.l).toNat:=by
   have h1:=JG (by decide:(0:Int)<W) i.dg;have h2:=mt (W7 (by decide:(1:Int)<W) i.dg i.nz).1 hl;omega
  rw[<-i.inv,pV h0,<-hq,hs];simp[bP]
def kC{q l:List Int}{b:Int}(hb:b=1000000000000000000)(h:dv W q=dv W l/b)(h0:0<=dv W l):(dv W q).toNat=(dv W l).toNat/10^18:=by
 subst hb;rw[h];omega
def p6{r l:List Int}{b:Int}(hb:b=1000000000000000000)(h:dv W r=dv W l%b)(h0:0<=dv W l):(dv W r).toNat=(dv W l).toNat%10^18/\dv W r<1000000000000000000/\0<=dv W r:=by
 subst hb;rw[h];omega
structure ku(b:Nat)(pre:List UInt8)(ps:List (List UInt8)) where
 k:Nat
 ud:List (Nat×Obj)
 le:k<=ps.length
 bl:I3 b (pre++(ps.drop k).reverse.flatten) ud
def dT(h:a≠0):(if a<0 then[45]else[])++hd a.natAbs=Zi a:=by
 have h0:a.natAbs≠0:=O;unfold hd;rw[if_neg h0];by_cases h1:a<0
 ·rw[if_pos h1,Kf h1];rfl
 rw[if_neg h1,XT O];rfl
theorem VS.base{x:Int}(h:F b=some ([ak .u64 x].toArray,256))(h0:0<x)(h1:x<W):VS F ⟨some ⟨b,0,none⟩,1,1⟩ [x]:=by
 refine⟨λw hw=>?_,?_,?_⟩
 ·obtain⟨fr,e⟩:=hw b _ _ h;refine⟨_,1,rfl,wz,wu,λi hi=>?_⟩;have hi0:i=0:=by simp at hi;omega
  subst hi0;exact⟨b,0,rfl,⟨_,_,e⟩,by simp[eF,e];rfl⟩
 ·intro y hy;rw[List.mem_singleton.1 hy];omega
 simp[NZ];omega
theorem D8(hF:Fits F w)(hG:JE F)(h:XD F g a)(hza:sz a<=100000000):Qg prog 185 [g.v] w F (tx (Zi a)):=by
 have hk:=KC.kind (h w hF.r);have hn2:a.natAbs<2^sz a:=E7 a;refine QV.intro (G:=λF=>JE F/\XD F g a) func185 rfl wy rfl rfl hF (λF' hF'=>⟨hG.le hF',h.le hF'⟩)<|QI7<|Qs rfl (vs:=[_,_]) rfl λb1=>wQ rfl<|QG<|QI7<|QA (QH rfl Bm VW)<|QA (Qf rfl VW .here (.skip .h1))<|QA (GJ rfl rfl Y8)<|QE<|QC ?_
 refine QR I (λhc=>?_) λhc=>?_
 ·refine QI7<|QA (QH rfl EZ JO)<|QA (Qf rfl JO .here .h1)<|QI rfl (λw F hF ⟨hGl,hB⟩=>yj hF hGl (by rcases hk with hk | hk;omega;rw[hk.1]at hc;cases hc) (by rcases hk with hk | hk;omega;rw[hk.1]at hc;cases hc)) λ_=>wQ rfl<|QY ?_
  exact QS () rfl (wN rfl) (by rcases hk with hk | hk;rw[hk.2.1];rfl;rw[hk.1]at hc;cases hc) w8
 refine QJL 4 I<|QA (wH I Qi .here) ?_
 refine QI I (λw F hF ⟨hGl,hB⟩=>Nv hF (by assumption)) (λc20=>?_);rcases c20 with ⟨v20,l20⟩;dsimp only;refine JM _ (λw F hF ⟨⟨hGl,hB⟩,⟨h20,h20p⟩⟩=>bH h20.2 h20p) (λp20=>?_);have ha0:a≠0:=by rcases hk with hk | hk;rw[hk.1]at hc;cases hc;omega
 have hn20:(dv W l20).toNat=a.natAbs:=by rw[p20.2,VD];rfl
 refine QJK 9 I<|Qb I (Q4 Y8) Po QDT I I λb23=>QJK 10 I ?_
 refine YA (ι:=jL a.natAbs) (λi=>[(3,.bool (decide (a<0))),(4,.slice i.r.q i.r.n i.r.cap),(5,.slice (some ⟨b23,0,none⟩) 1 1),(6,i.v)]) (λi=>i.ob) (λi F=>JE F/\VS F ⟨some ⟨b23,0,none⟩,1,1⟩ [1000000000000000000]/\VS F i.r i.l) (λi=>(dv W i.l).toNat)
  ⟨l20,v20,[],.slice none 0 0,[],p20.1.1,p20.1.2,O,.nil,wz,by rw[hn20];simp⟩ wV tD (λF h9=>⟨h9.1.1.1,VS.base h9.2 wu wu,h9.1.2.1⟩) λi=>?_
 refine XS _ (λ_ _ f h=>h.2.2.len f) (λhil=>wA 4 I<|QA (Qh I Y8)<|QJK 3 I ?_);refine QR I (λhc=>?_) λhc=>?_
 ·have hne:i.l≠[]:=by intro e;rw[e]at hil;simp at hc;simp at hil;omega
  have h0i:=JG (by decide:(0:Int)<W) i.dg;have hposi:0<(dv W i.l).toNat:=by
   have:=mt (W7 (by decide:(1:Int)<W) i.dg i.nz).1 hne;omega
  have hlen:i.l.length<=10000000000:=by
   have hle:=i.le;have h3:=ZB (z:=dv W i.l) i.dg i.nz (by unfold Jm;split<;>omega) (ab (KX (by omega:(dv W i.l).natAbs<=a.natAbs)) (ab hza wu));omega
  refine QJL 7 I ?_;refine QI I (λ_ _ f k=>F4 (r:=i.r) (r':=⟨some ⟨b23,0,none⟩,1,1⟩) (la:=i.l) (lb:=[1000000000000000000]) f k.2.2 k.2.1 (List.cons_ne_nil _ _) hlen (fR I)) (λc30=>?_);rcases c30 with ⟨⟨v30,l30⟩,v30_,l30_⟩;dsimp only;refine JM _ (λw F hF ⟨⟨hGl,⟨hbase,hL⟩⟩,⟨⟨h30,h30_⟩,h30p⟩⟩=>bH h30.2 (bH h30_.2 h30p)) (λp30=>?_);have hb1:dv W [1000000000000000000]=1000000000000000000:=wz;have hq:=kC hb1 p30.2.2.1 h0i;have hr:=p6 hb1 p30.2.2.2 h0i;have h1d:=qM p30.2.1.1 p30.2.1.2 (by have hW:W=18446744073709551616:=rfl;omega);refine JM _ (λw F hF ⟨_,⟨⟨h30,h30_⟩,_⟩⟩=>bH (h30.len hF) (h30_.len hF)) (λpl=>QH0 rfl<|QA (QX rfl rfl)<|QA (QX rfl rfl)<|QH1 rfl<|wQ rfl<|QI7<|QH1 rfl<|QE<|QC ?_);refine BU (ι:=Unit) (λ_=>[(3,.bool (decide (a<0))),(5,.slice (some ⟨b23,0,none⟩) 1 1),(6,i.v),(7,.slice v30.q v30.n v30.cap),(9,tx (ae ((dv W i.l).toNat%10^18)))]) (λ_=>i.ob) (λ_ F=>JE F/\VS F ⟨some ⟨b23,0,none⟩,1,1⟩ [1000000000000000000]/\VS F v30 l30) ?_ ?_
  ·refine wR I<|QA (Qh I Y8)<|QJK 3 I ?_
   refine QR I (λhc=>?_) λhc=>?_
   ·have hl1:l30_=[dv W l30_]:=by
     rcases h1d with e | e
     ·exfalso;rw[e]at pl;simp at hc;simp at pl;omega
     exact e
    have hll:l30_.length=1:=by rw[hl1];rfl
    have hg0:l30_.getD 0 0=(((dv W i.l).toNat%10^18:Nat):Int):=by
     have:l30_.getD 0 0=dv W l30_:=by rw[hl1];simp
     rw[this];omega
    refine XS _ (λw F hF ⟨_,⟨_,h⟩,_⟩=>(h.at hF (by intro e;rw[e]at hll;simp at hll)).2) (λhqb=>wA 2 I ?_);obtain⟨qb,qo,hqb⟩:=hqb;obtain⟨vq,vn,vcap⟩:=v30_;dsimp only at hqb pl;subst hqb;refine QA (JJ (i:=0) rfl rfl Y8 Po (by dsimp only;omega))<|QA (O5 (l:=l30_) rfl Po (λF h9=>h9.2.1.2) O) ?_
    rw[hg0];refine QI I (λ_ _ f k=>Uc f k.1.1 O) (λ_=>wB 2 I ?_);exact Zd () wW QIM λF h9=>⟨h9.1.1.1,h9.1.1.2.1,h9.1.2.1.1⟩
   refine QO ?_;have e0:(dv W i.l).toNat%10^18=0:=by
    rcases h1d with e | e
    ·rw[e]at hr;simp at hr;omega
    have:=congrArg fb e;simp at this;simp at hc;omega
   exact Zd () ⟨rfl,rfl,rfl,rfl,(by show some (tx _)=some (tx _);rw[e0,Ya]),trivial⟩ QIM λF h9=>⟨h9.1.1,h9.1.2.1,h9.2.1.1⟩
  intro xg9;refine BU (ι:=Unit) (λ_=>[(3,.bool (decide (a<0))),(5,.slice (some ⟨b23,0,none⟩) 1 1),(6,i.v),(7,.slice v30.q v30.n v30.cap),(9,tx ((if(dv W l30).toNat=0 then ae ((dv W i.l).toNat%10^18)else Hv 18 (ae ((dv W i.l).toNat%10^18)))))]) (λ_=>i.ob) (λ_ F=>JE F/\VS F ⟨some ⟨b23,0,none⟩,1,1⟩ [1000000000000000000]/\VS F v30 l30) ?_ ?_
  ·refine wR I<|QA (Qh I Y8)<|QJK 3 I ?_
   refine QR I (λhc=>?_) λhc=>?_
   ·have hq0:(dv W l30).toNat≠0:=by
     have h1:=JG (by decide:(0:Int)<W) p30.1.1;have h2:l30≠[]:=by intro e;rw[e]at pl;simp at hc;simp at pl;omega
     have:=mt (W7 (by decide:(1:Int)<W) p30.1.1 p30.1.2).1 h2;omega
    have hd18:(ae ((dv W i.l).toNat%10^18)).length<=18:=by rw[aS];exact Kg (Nat.mod_lt _ wu) wu
    refine wA 2 I<|QA (Xj I Zk)<|QA (X3 I I O) ?_
    rw[show(18:Int)-((ae ((dv W i.l).toNat%10^18)).length:Int)=((18-(ae ((dv W i.l).toNat%10^18)).length:Nat):Int) by omega];refine QI I (λ_ _ f _=>zE f w6 O) (λ_=>QH0 I<|QA (Yi I I (by rw[Lib.repeatL_length];simp only[eD];omega))<|wB 2 I ?_);exact Zd () ⟨rfl,rfl,rfl,rfl,(by show some (tx _)=some (tx _);rw[if_neg hq0];rfl),trivial⟩ QIM tA
   refine QO ?_;have hq0:(dv W l30).toNat=0:=by
    have h2:l30=[]:=aI (by simp at hc;omega);rw[h2];rfl
   exact Zd () ⟨rfl,rfl,rfl,rfl,(by show some (tx _)=some (tx _);rw[if_pos hq0]),trivial⟩ QIM w9
  intro xg11;refine wA 4 I<|VF I (Q4 Ku) Dq z_9 I I λb51=>?_
  have hfew:=i.few hn2;refine KB (bs1:=[_]) (ob:=i.ob) (k:=1) (sz:=1) (news:=[tx (if(dv W l30).toNat=0 then ae ((dv W i.l).toNat%10^18)else Hv 18 (ae ((dv W i.l).toNat%10^18)))]) I I Ku Dq z_9 I QG3 i.hr (Src.zD (b:=b51) (T:=9) (fr:=(0,0)) (c:=1) List.mem_cons_self I) O O (λu hu=>by rw[List.mem_singleton.1 hu];rfl) (λv' ob' hr'=>QJK 7 I<|Qk ?_);exact Qm (i.next hne l30 v30 v' ob' (if(dv W l30).toNat=0 then ae ((dv W i.l).toNat%10^18)else Hv 18 (ae ((dv W i.l).toNat%10^18))) p30.1.1 p30.1.2 hq rfl hr') (by show(dv W l30).toNat<(dv W i.l).toNat;rw[hq];exact Nat.div_lt_self hposi wu) wV (.cons _ QIM) w9
 refine Qz ?_
 repeat first|refine QZ ?_|refine QQ wy ?_
 refine Qa<|QC ?_
 have hi0:i.l=[]:=aI (by simp at hc;omega);have hfl:i.ps.reverse.flatten=hd a.natAbs:=by have:=i.inv;rw[hi0]at this;simpa[hd]using this
 have hfew:=i.few hn2;have hflen:i.ps.reverse.flatten.length<=100000000:=by rw[hfl];exact ab (yr hn2) hza
 refine QI7<|Qc uc λb10=>QE<|QC ?_
 refine BU (ι:=ku b10 (if a<0 then[45]else[]:List UInt8) i.ps) (λj=>[(6,i.v),(10,.pointer (some ⟨b10,0,none⟩))]) (λj=>j.ud++i.ob) (λj F=>j.k=i.ps.length/\JE F) ?_ ?_
 ·refine wA 5 I ?_;refine QR I (λhc=>?_) λhc=>?_
  ·refine QB ?_;have hneg:a<0:=QJG hc;refine XW (bs1:=[_]++i.ob) rfl (bM _) (Wy (s:=[45]) (I3.fresh (b:=b10)) wz) (λud=>JM _ (λ_ _ f h=>h.2) λhbl=>QE ?_);exact Zd (⟨i.ps.length,ud,aE _,by rw[if_pos hneg];simpa using hbl⟩:ku b10 (if a<0 then[45]else[]:List UInt8) i.ps) wT QIM λF h=>⟨rfl,h.1.1⟩
  refine QO ?_;exact Zd (⟨i.ps.length,[_],aE _,by rw[if_neg (QJH hc)];simpa using(I3.fresh (b:=b10))⟩:ku b10 (if a<0 then[45]else[]:List UInt8) i.ps) wT QIM λF h=>⟨rfl,h.1⟩
 intro xg16;refine XS _ (λ_ _ f h=>h.1) (λhk16=>?_);have hv6:∃q c6,i.v = .slice q i.ps.length c6:=by have:=i.hr;generalize i.v=v at this;generalize i.ps.map tx=q at this;generalize i.ps.length=n at this;generalize i.ob=o at this;cases this<;>exact⟨_,_,rfl⟩
 obtain⟨q6,c6,hv6⟩:=hv6;rw[hv6];refine wA 4 I<|QA (Qh I Ku)<|QA (X3 I I O)<|wQ I<|QW<|YA (ι:=ku b10 (if a<0 then[45]else[]:List UInt8) i.ps) (λj=>[(6,.slice q6 i.ps.length c6),(10,.pointer (some ⟨b10,0,none⟩)),(11,.int .i64 ((j.k:Int)-1))]) (λj=>j.ud++i.ob) (λ_ F=>JE F) (λj=>j.k) xg16 ⟨rfl,rfl,(by rw[hk16];rfl),trivial⟩ QIM tB λj=>?_
 have hjl:=j.le;refine wA 7 I ?_;refine QR I (λhc=>?_) λhc=>?_
 ·have hj0:0<j.k:=by simp at hc;omega
  obtain⟨b6,hb6⟩:∃b6,q6=some ⟨b6,0,none⟩:=by
   have:=i.hr;rw[hv6]at this;generalize i.ps.map tx=q at this;generalize i.ob=o at this;generalize hnn:i.ps.length=n at this;cases this with
   |nil=>omega
   |some=>exact⟨_,rfl⟩
  subst hb6;have hlt:j.k-1<i.ps.length:=O;have hjj:(j.k:Int)-1=((j.k-1:Nat):Int):=O;refine QJL 7 I<|QA (JJ (i:=j.k-1) rfl (congrArg (λz:Int=>some (ak .i64 z)) hjj) Ku Dq hlt)<|QA (qD (i:=j.k-1) (u:=tx (i.ps[j.k-1])) (by have:=i.hr;rw[hv6]at this;exact this) (λk hk=>List.mem_append_right _ hk) rfl rfl Dq (by simp[hlt])) ?_
  have hdrop:(i.ps.drop (j.k-1)).reverse.flatten=(i.ps.drop j.k).reverse.flatten++i.ps[j.k-1]:=by
   rw[bj hlt,show j.k-1+1=j.k by omega];simp[bP]
  have hbound:((i.ps.drop (j.k-1)).reverse.flatten).length<=100000000:=by
   have e:i.ps.reverse.flatten=(i.ps.drop (j.k-1)).reverse.flatten++(i.ps.take (j.k-1)).reverse.flatten:=by
    rw[<-bP,<-List.reverse_append,aW]
   rw[e,aq]at hflen;omega
  rw[hdrop,aq]at hbound;refine XW I (bM _) (Wy j.bl (by rw[aq];have hp:(if a<0 then[45]else[]:List UInt8).length<=1:=(by split<;>simp);omega)) (λud=>JM _ (λ_ _ f h=>h.2) λhbl=>QE<|Qk<|QJM 3 I<|QA (X3 I I O)<|wB 2 I ?_);exact Qm (⟨j.k-1,ud,O,by rw[hdrop,<-aZ];exact hbl⟩:ku b10 (if a<0 then[45]else[]:List UInt8) i.ps) (by show j.k-1<j.k;omega) ⟨rfl,rfl,(by show some (ak .i64 ((j.k:Int)-1-1))=some (ak .i64 (((j.k-1:Nat):Int)-1));rw[hjj]),trivial⟩ QIM tA
 refine Qz ?_
 repeat first|refine QZ ?_|refine QQ wy ?_
 refine Qa<|QJM 3 I ?_
 have hj0:j.k=0:=by simp at hc;omega
 have hbl:=j.bl;rw[hj0,aP,hfl,dT ha0]at hbl;refine NS (v:=tx (Zi a)) hF rfl (enters_of func233 wy rfl) (λw' hw'=>Builder_String_any w.heap.size b10 (Zi a) w' (hbl.is hw') (by obtain⟨F',h'⟩:=hw';exact h'.ext.size))<|wQ I<|QY ?_
 exact QS () I (wN I) rfl w8
def Yo(c:UInt8)(s:List UInt8):List UInt8×List UInt8×Bool:=if s.contains c then(s.takeWhile (· != c),(s.dropWhile (· != c)).drop 1,true)else(s,[],false)
theorem UW(c:UInt8)(s:List UInt8):iX s c=if s.contains c then((s.takeWhile (· != c)).length:Int)else -1:=by
 induction s with
 |nil=>rfl
 |cons b s ih =>
  unfold iX;by_cases h:b=c
  ·subst h;simp
  have h1:(b==c)=false:=beq_eq_false_iff_ne.2 h;have h2:(b != c)=true:=by simp[bne,h1]
  have h3:(c==b)=false:=beq_eq_false_iff_ne.2 (λe=>h e.symm);rw[ih];simp only[h1,bU,if_false,im,h3,fz,fV,h2,if_true];by_cases h4:s.contains c=true
  ·simp only[h4,if_true];have:(((s.takeWhile (· != c)).length:Int)==-1)=false:=by
    apply beq_eq_false_iff_ne.2;omega
   simp only[this,bU,if_false,aM];omega
  have h5:¬c∈s:=by simpa using h4
  simp[h5]
theorem V6(p:UInt8->Bool)(s:List UInt8):s.take (s.takeWhile p).length=s.takeWhile p/\s.drop (s.takeWhile p).length=s.dropWhile p:=by
 induction s with
 |nil=>simp
 |cons b s ih =>
  simp only[fV,fX];split<;>simp[ih]
def kL(c:UInt8)(s:List UInt8):fm s [c]=Yo c s:=by
 have h:Lib.index s [c]=if s.contains c then((s.takeWhile (· != c)).length:Int)else -1:=by
  rw[<-UW];exact Lib.index_one s c
 unfold fm Yo;rw[h];by_cases h4:s.contains c=true
 ·simp only[h4,if_true];rw[if_pos O,ba,(V6 _ s).1];have:=(V6 (· != c) s).2;rw[<-List.drop_drop,this];rfl
 simp only[h4,bU,if_false];rw[if_neg O]
theorem Eh{a b:List UInt8}(h:a.contains c=false):Yo c (a++c::b)=(a,b,true):=by
 have h1:∀x∈a,(x != c)=true:=λx hx=>by
  simp only[bne_iff_ne,ne_eq];rintro rfl;have:a.contains x=true:=by simpa using hx
  rw[this]at h;cases h
 unfold Yo;rw[if_pos wz];have h2:(a++c::b).takeWhile (· != c)=a:=by
  rw[List.takeWhile_append_of_pos h1];simp
 have h3:(a++c::b).dropWhile (· != c)=c::b:=by
  rw[List.dropWhile_append_of_pos h1];simp
 rw[h2,h3];rfl
def TX{a:List UInt8}(h:a.contains c=false):Yo c a=(a,[],false):=by
 unfold Yo;rw[h];simp
def Cc(h:ZG l=true)(hc:I1 c=false):l.contains c=false:=by
 cases hx:l.contains c with
 |false=>rfl
 |true =>
  have:c∈l:=by simpa using hx
  rw[ZG,iF]at h;rw[h c this]at hc;cases hc
def Mo(z:Int)(hc:I1 c=false)(h:c≠45):(Zi z).contains c=false:=by
 by_cases hz:z<0
 ·rw[Kf hz,im,Cc (J0 _) hc];simp[h]
 rw[XT O];exact Cc (J0 _) hc
def kK(r:Rat):fm (Js r) [47]=if r.den=1 then(Zi r.num,[],false)else(Zi r.num,ae r.den,true):=by
 rw[kL];unfold Js;split
 ·exact TX (Mo _ wu wu)
 exact Eh (Mo _ wu wu)
def Hf(z:Int):ag (Zi z) [45]=ae z.natAbs:=by
 unfold ag;by_cases h:z<0
 ·rw[Kf h];simp[aB,ei]
 rw[XT O,Va (J0 _)];simp
def V5(h:ZG l=true):ag l [45]=l:=by
 unfold ag;rw[Va h];simp
def YP(h:ZG l=true):Y7 l=Jc l:=by
 unfold Y7;rw[Va h];simp
def lim:Nat:=10^600
def CI(u:Nat):(600<(ae u).length)↔lim<=u:=by unfold lim;rw[aS];exact Lp wu
def j3:2^1800<lim:=by
 decide +kernel
def RU(z:Int):Bool:=decide (lim<=z.natAbs)
def Jt(r:Rat):Bool:=RU r.num||RU r.den
theorem yU(hF:Fits F w)(hG:JE F)(h:XD F g a)(hza:sz a<=100000000):Qg prog 163 [g.v] w F (.bool (RU a)):=by
 refine QV.intro (G:=λF=>JE F/\XD F g a) func163 rfl wy rfl rfl hF (λF' hF'=>⟨hG.le hF',h.le hF'⟩)<|QI7<|Qs rfl (vs:=[_,_]) rfl λb1=>wQ rfl<|QI7<|QA (wH I Qi .here)<|QI rfl (λ_ _ f k=>QB1 f k.2 (ab hza wu)) λ_=>QA (QT rfl rfl rfl)<|QH0 rfl ?_
 refine Ql (t:=6) rfl (λhb6=>?_) λhb6=>?_
 ·refine QM I I<|QA (wH I Qi .here)<|QM I I<|QI I (λ_ _ f k=>D8 f k.1.1 k.1.2 hza) λ_=>QM I I<|QI I (λ_ _ f k=>D0 f ) λ_=>QM I I<|QA (Xj I Zk)<|QJK 7 I ?_
  exact QS () I (wN I) (congrArg ah (by rw[Hf];exact decide_eq_decide.2 (Iff.trans (b:=600<(ae a.natAbs).length) (CI a.natAbs).symm (by constructor<;>intro h<;>omega)))) w8
 refine QJK 10 I ?_;exact QS () I (wN I) (congrArg ah (by have h1:=QJH hb6;have h2:sz a<=1800:=O;have h3:=(XO a 1800).1 h2;exact decide_eq_false (Nat.not_le.2 (Nat.lt_trans h3 j3)))) w8
theorem EU{x:Fr}{r:Rat}(hF:Fits F w)(hG:JE F)(h:JN F x r)(hz:JU r<=100000000):Qg prog 87 [x.v] w F (.bool (Jt r)):=by
 refine QV.intro (G:=λF=>JE F/\JN F x r) func87 rfl wy rfl rfl hF (λF' hF'=>⟨hG.le hF',h.le hF'⟩)<|QI7<|Qs rfl (vs:=[_,_,_,_]) rfl λb1=>wQ rfl<|QI7<|QA (QH rfl Zo Qi)<|QA (wH I Qi .here)<|QI rfl (λ_ _ f k=>yU (g:=x.n) f k.1 k.2.1 (ab (Jx r) hz)) λ_=>QH0 rfl ?_
 refine Ql (t:=6) rfl (λhb6=>?_) λhb6=>?_
 ·refine QJK 8 I ?_;exact QS () I (wN I) (congrArg ah (by unfold Jt;rw[hb6,Bool.true_or])) w8
 refine QM I I<|QA (QH I Zn Qi)<|QM I I<|QA (QJ (vs:=[_,_]) I Qi .here (.skip (.skip .h2)) I)<|QM I I<|QI I (λ_ _ f k=>yU (g:=x.d) f k.1.1 k.1.2.2 (ab (Jo r) hz)) λ_=>QJK 5 I ?_
 exact QS () I (wN I) (congrArg ah (by unfold Jt;rw[hb6,fz])) w8
def Ay(h:sz z<=k):(Zi z).length<=k+2:=by
 have h2:=E7 z;have h1:(ae z.natAbs).length<=k+1:=by
  rw[aS];exact Kg (aA h2 (ab (bK wu (show sz z<=k+1 by omega)) (eP wu _))) O
 by_cases hz:z<0
 ·rw[Kf hz,aM];omega
 rw[XT O];omega
def CC(n:Nat):Zi (n:Int)=ae n:=by rw[XT O];rfl
theorem N4{x:Fr}{r:Rat}(hF:Fits F w)(hG:JE F)(h:JN F x r)(hz:JU r<=100000000):Qg prog 112 [x.v] w F (tx (Js r)):=by
 have hl1:=Ay (ab (Jx r) hz);have hl2:=Ay (ab (Jo r) hz);refine QV.intro (G:=λF=>JE F/\JN F x r) func112 rfl wy rfl rfl hF (λF' hF'=>⟨hG.le hF',h.le hF'⟩)<|QI7<|Qs rfl (vs:=[_,_,_,_]) rfl λb1=>wQ rfl<|QG<|QI7<|QA (wJ I QN .here)<|QI rfl (λ_ _ f k=>MR (x:=x) (r:=r) f ⟨k.2.1,k.2.2⟩) λ_=>QE<|QC ?_
 refine QR I (λhc=>?_) λhc=>?_
 ·refine QI7<|QA (QH I Zo Qi)<|QA (wH I Qi .here)<|QI I (λ_ _ f k=>D8 (g:=x.n) f k.1.1 k.1.2.1 (ab (Jx r) hz)) λ_=>wQ I<|QY ?_
  exact QS () I (wN I) (congrArg tx (by unfold Js;rw[if_pos (by simp at hc;omega)])) w8
 refine QJL 3 I<|JH QIM mixed wm<|QK (QH I Zo Qi)<|QK (wH I Qi .here)<|QP I (λ_ _ f k=>D8 (g:=x.n) f k.1.1 k.1.2.1 (ab (Jx r) hz)) λ_=>QK (Yi I I w6)<|QK (QH I Zn Qi)<|QK (QJ (vs:=[_,_]) I Qi .here (.skip (.skip .h2)) I)<|QP I (λ_ _ f k=>D8 (g:=x.d) f k.1.1.1 k.1.1.2.2 (ab (Jo r) hz)) λ_=>QK (Yi I I w6)<|QK (QF I)<|Q7<|QC<|QY ?_
 exact QS () I (wN I) (congrArg tx (by unfold Js;rw[if_neg (by simp at hc;omega),CC];simp)) w8
theorem Kj{r:Rat}(hF:Fits F w)(hG:JE F)(hs:s=Js r)(hl:s.length<=10000000):X0 prog 81 [tx s] w F r:=by
 have hcut:=kK r;rw[<-hs]at hcut;refine QV.intro (G:=λF=>JE F) func81 rfl wy rfl rfl hF (λF' hF'=>hG.le hF')<|QI7<|Qc Jy λb2=>QHz<|wR rfl<|QI rfl (λ_ _ f k=>cy f k O) λ_=>?_
 rw[hcut];refine QJK 13 I<|QA (XB I)<|QE<|QC ?_
 refine QR I (λhc=>?_) λhc=>?_
 ·refine wR I<|QI I (λ_ _ f k=>RA f (by have h1:r.den=1:=(by by_cases h:r.den=1;exact h;rw[if_neg h]at hc;cases hc);rw[if_pos h1,Hf];exact J0 _) (by have h1:r.den=1:=(by by_cases h:r.den=1;exact h;rw[if_neg h]at hc;cases hc);rw[if_pos h1];have e:s=Zi r.num:=(by rw[hs];unfold Js;rw[if_pos h1]);rw[<-e];exact hl)) λg15=>QI I (λ_ _ f k=>Dx f k.2) λx16=>QU (vs:=[_,_,_,_]) I I I QN I .here .h4 wV<|QHz<|QY ?_
  exact QS (_) rfl (.JX (c:=[_,_,_,_]) I QN .here .nil) rfl λF ⟨⟨⟨hGl,_⟩,h15⟩,⟨h16,h16_⟩⟩=>(by have h1:r.den=1:=(by by_cases h:r.den=1;exact h;rw[if_neg h]at hc;cases hc);have e:((r.num:Int):Rat)=r:=(by apply Rat.ext;rfl;simp[h1]);rw[if_pos h1]at h16 h16_;rw[Ks]at h16 h16_;rw[e]at h16 h16_;exact⟨h16,h16_⟩)
 refine QO<|QC<|wR rfl<|QI rfl (λw F hF ⟨hGl,_⟩=>RA hF (by have h1:¬r.den=1:=(by intro h;rw[if_pos h]at hc;cases hc);rw[if_neg h1,Hf];exact J0 _) (by have h1:¬r.den=1:=(by intro h;rw[if_pos h]at hc;cases hc);rw[if_neg h1];have e:s=Zi r.num++47::ae r.den:=(by rw[hs];unfold Js;rw[if_neg h1]);rw[e,aq]at hl;show(Zi r.num).length<=_;omega)) λg18=>QH0 rfl<|QI rfl (λw F hF ⟨⟨hGl,_⟩,h18⟩=>RA hF (by have h1:¬r.den=1:=(by intro h;rw[if_pos h]at hc;cases hc);rw[if_neg h1];show ZG (ag (ae r.den) [45])=true;rw[V5 (J0 _)];exact J0 _) (by have h1:¬r.den=1:=(by intro h;rw[if_pos h]at hc;cases hc);rw[if_neg h1];have e:s=Zi r.num++47::ae r.den:=(by rw[hs];unfold Js;rw[if_neg h1]);rw[e,aq,aM]at hl;show(ae r.den).length<=_;omega)) λg20=>QA (Q2 I ML Jy (.cons (vs:=[_,_]) I I I .h2 (.cons (vs:=[_,_]) I I I (.skip (.skip .h2)) .nil)))<|QU (vs:=[_,_,_,_]) I I I QN I .here .h4 wV<|QHz<|QY ?_
 exact QS (⟨g18,g20⟩:Fr) rfl (.JX (c:=[_,_,_,_]) rfl QN .here .nil) rfl λF ⟨⟨⟨hGl,_⟩,h18⟩,h20⟩=>(by have h1:¬r.den=1:=(by intro h;rw[if_pos h]at hc;cases hc);rw[if_neg h1]at h18 h20;rw[Ks]at h18;have e:Y7 (ae r.den)=(r.den:Int):=(by rw[YP (J0 _),Xd]);exact⟨h18,e ▸ h20⟩)
def Qx(F:Gs)(q:Option Addr)(n sz:Nat)(cs:List Value):Prop :=
 cs.length=n*sz/\(0<n->∃b off arr T,q=some ⟨b,off,none⟩/\F b=some (arr,T)/\∀j u,cs[j]?=some u->arr[off+j]?=some u)
theorem Qx.le{q:Option Addr}{sz:Nat}(h:Qx F q n sz cs)(k:Gs.le F F'):Qx F' q n sz cs :=
 ⟨h.1,λhn=>by obtain⟨b,off,arr,T,e1,e2,e3⟩:=h.2 hn;exact⟨b,off,arr,T,e1,k _ _ e2,e3⟩⟩
theorem Qx.of{sz:Nat}(h:F b=some (cs.toArray,T))(hl:cs.length=n*sz):Qx F (some ⟨b,0,none⟩) n sz cs :=
 ⟨hl,λ_=>⟨b,0,_,T,rfl,h,λj u hu=>by rw[aV];simpa using hu⟩⟩
def Qx.nil(F:Gs)(q:Option Addr)(sz:Nat):Qx F q 0 sz []:=⟨wz,λh=>absurd h (Nat.lt_irrefl 0)⟩
def Qx.ptr{q:Option Addr}{sz:Nat}(h:Qx F q n sz cs)(hn:0<n):∃b off,q=some ⟨b,off,none⟩:=by
 obtain⟨b,off,_,_,e,_⟩:=h.2 hn;exact⟨b,off,e⟩
section
variable[Dr][df:Df]{P:Program}{Q:Exit->Act->World->Prop}{N:Nat}{m:Sl}{E E0:Env}{ops:Array Oper}{l:List Oper}{w0:World}{F0:Gs}{bs:List (Nat×Obj)}{G:Gs->Prop}
theorem Ws(hw:St ⟨w0,F0,bs,G⟩ w){b off n sz j:Nat}{cs:List Value}{u:Value}(hr:∀F,G F->Qx F (some ⟨b,off,none⟩) n sz cs)(hn:0<n)(hu:cs[j]?=some u):w.cell? ⟨b,off+j,none⟩=some u:=by
 obtain⟨F,hw⟩:=hw;obtain⟨b',off',arr,T,e,hF,ha⟩:=(hr F hw.hG).2 hn;simp only[bO,fk]at e;obtain⟨rfl,rfl,_⟩:=e;obtain⟨fr,e⟩:=hw.fits.row _ _ _ hF;simp[eF,e,ha j u hu]
theorem Ym{ty:TypeId}{sz:Nat}{u:Value}(hx:ev m x=some (.pointer (some ⟨b,off+j,none⟩)))(ht:Z5 P T=some (false,k))(hr:∀F,G F->Qx F (some ⟨b,off,none⟩) n sz cs)(hn:0<n)(hu:cs[j]?=some u):
  Qt P N m (St ⟨w0,F0,bs,G⟩) (.load T x) ty u:=λa w _ _ _ _ ha hw=>by
 have hrun:=Z1 (P:=P) ht (Ws hw hr hn hu);simp only[execOp,ha.ev hx,eT,eG,er,ep,bB,hrun]
theorem qE{ty:TypeId}{sz:Nat}{vs:List Value}(hx:ev m x=some (.pointer (some ⟨b,off+j,none⟩)))(ht:Z5 P T=some (true,k))(hr:∀F,G F->Qx F (some ⟨b,off,none⟩) n sz cs)(hn:0<n)(hl:vs.length=k)(hu:∀i v,vs[i]?=some v->cs[j+i]?=some v):
  Qt P N m (St ⟨w0,F0,bs,G⟩) (.load T x) ty (.agg vs.toArray):=λa w _ _ _ _ ha hw=>by
 have hrun:=Ka (P:=P) ht hl (w:=w) (b:=b) (off:=off+j) (λi v hv=>by rw[eQ];exact Ws hw hr hn (hu i v hv));simp only[execOp,ha.ev hx,eT,eG,er,ep,bB,hrun]
theorem Qp{d:Nat}{ty:TypeId}{pos:String}{bs0:List (Nat×Obj)}{t e:TypeId}{sz:Nat}{z:List Value}{g:Bool}{parts:Array (Nat×Operand)}{ps:List (Nat×Value)}(hp:W4 m parts.toList=some ps)(ht:P.underlying t=some (.slice e))(hs:Z5 P e=some (g,sz))(hz:XE P e=some z)
  (hc:Kh sz 0 ps=some cs) (hl:cs.length=n*sz) (k:∀b,JD P ops Q ⟨w0,F0,bs0,G0⟩ l N ((d,.slice (some ⟨b,0,none⟩) n n)::m) ⟨w0,F0,bs,λF=>G F/\F b=some (cs.toArray,e)⟩) (hE:∀w,St ⟨w0,F0,bs,G⟩ w->St ⟨w0,F0,bs0,G0⟩ w) (h24:j9 (n*sz) 16777216=true:=by rfl) (hn:Nat.beq (n*sz) 0=false:=by rfl)
  (hd:J5 N (some d)=true:=by rfl):JD P ops Q ⟨w0,F0,bs0,G0⟩ (⟨some d,.buildSlice t n parts,ty,pos,aft,none⟩::l) N m ⟨w0,F0,bs,G⟩:=λ_ a w ha hw=>by
 have hS:=hw.kb cs.toArray e;have sub:∀w' b,St ⟨w0,F0,bs,λF=>G F/\F b=some (cs.toArray,e)⟩ w'->St ⟨w0,F0,bs0,G0⟩ w':=λw' b h=>hE w' (h.B3 λ_ h=>h.1);refine .inr ⟨rfl,?_⟩;rw[if_pos (by simp[fl])];exact upon_value (K4 ha hp ht hs hz hc hl h24 hn) ⟨sub _ _ hS,k _ (λw' h=>sub w' _ h) _ _ (ha.put hd _) hS⟩
end
section
variable[Dr][df:Df]{P:Program}{Q:Exit->Act->World->Prop}{N:Nat}{m:Sl}{E E0:Env}{ops:Array Oper}{l:List Oper}{ty:TypeId}{pos:String}{aft:Array Edge}{o:Op}{g t:Nat}{want:Bool}
theorem SQ{a:Act}(ha:Ja N m a){g t:Nat}(hg:(ops[g]?).bind (·.dst)=some t)(hb:look m t=some undef):yielded ops a.tmps g=none:=by
 unfold yielded;rw[hg];have:=ha.get t _ hb;simp[this,undef]
theorem Jn{d:Nat}(hg:(ops[g]?).bind (·.dst)=some t)(hb:look m t=some undef)(hf:JS P ops Q l N ((d,undef)::m) E)(hd:J5 N (some d)=true:=by rfl):JS P ops Q (⟨some d,o,ty,pos,aft,some (g,want)⟩::l) N m E:=by
 intro a w ha hw;unfold wpList;have hy:=SQ ha hg hb;rw[if_neg (by simp[fl,hy])];exact hf _ w (ha.put hd undef) hw
end
def Qu:List Int->Int
 |[]=>0
 |x::l=>if x=0 then Qu l else x
def Wm{l:List Int}(hi:i<l.length)(h:l[i]=0):Qu (l.drop i)=Qu (l.drop (i+1)):=by
 rw[bj hi,Qu,if_pos h]
def Db{l:List Int}(hi:i<l.length)(h:l[i]≠0):Qu (l.drop i)=l[i]:=by
 rw[bj hi,Qu,if_neg h]
def Jr(x:Int):Value:=.int .i64 x
structure Uw(n:Nat)(p:Nat->Prop) where
 i:Nat
 le:i<=n
 h:p i
theorem Pn{b:Bool}{e:Int}(hF:Fits F w):Qg prog 135 [.bool b,.int .i64 e] w F (.int .i64 (if b=true then e else 0)):=by
 refine QV.intro (G:=λ_=>True) func135 rfl wy rfl rfl hF w8<|QI7<|wQ rfl<|QG<|wR rfl<|QE<|QC ?_
 refine QR I (λhc=>?_) λhc=>?_
 ·refine wA 7 I ?_;exact QS () I (wN I) (by rw[if_pos hc]) w8
 refine QJL 8 I ?_;exact QS () I (wN I) (by rw[if_neg (by rw[hc];decide)]) w8
theorem CR{q:Option Addr}{c:Nat}{l:List Int}(hF:Fits F w)(hR:Qx F q n 1 (l.map Jr))(hn:n<=1000000000):Qg prog 234 [.slice q n c] w F (.int .i64 (Qu l)):=by
 have hln:l.length=n:=by have:=hR.1;simpa using this
 refine QV.intro (G:=λF=>Qx F q n 1 (l.map Jr)) func234 rfl wy rfl rfl hF (λF' hF'=>hR.le hF')<|QI7<|wQ rfl<|QG<|wR rfl<|QA (Qh rfl ZJ)<|QH0 rfl<|QHz<|QW<|YA (ι:=Uw n λi=>Qu (l.drop i)=Qu l) (λi=>[(5,.slice q n c),(6,.int .i64 n),(7,.int .i64 i.i)]) (λ_=>[]) (λ_ F=>Qx F q n 1 (l.map Jr)) (λi=>n-i.i) ⟨0,eH _,rfl⟩ wU QIM w9 λi=>?_
 have hle:=i.le;refine wA 6 I ?_;refine QR I (λhc=>?_) λhc=>?_
 ·have hi:i.i<n:=by simp at hc;omega
  have hil:i.i<l.length:=O;refine XS _ (λ_ _ f h=>h.ptr O) (λhq=>?_);obtain⟨qb,qo,rfl⟩:=hq;refine QJL 6 I<|QA (JJ I I ZJ YV hi)<|QA (Ym I YV w9 O (u:=.int .i64 l[i.i]) (by simp[hil,Jr]))<|QJK 9 I ?_
  refine QR I (λhc=>?_) λhc=>?_
  ·refine wA 7 I ?_
   repeat first|refine Q6 ?_|refine Qy ?_
   exact QS () I (wN I) (congrArg (ak .i64) (i.h.symm.trans (Db hil (by simpa using hc)))) w8
  refine QO<|Qk<|QC<|QB<|QA (Qw I I O)<|wB 2 I ?_
  exact Qm (⟨i.i+1,O,by rw[<-Wm hil (by simpa using hc)];exact i.h⟩:Uw n λi=>Qu (l.drop i)=Qu l) (by show n-(i.i+1)<n-i.i;omega) wU QIM w9
 refine Qz ?_
 repeat first|refine QZ ?_|refine QQ wy ?_
 refine Qa<|QJM 7 I ?_
 exact QS () I (wN I) (by rw[<-i.h,fG (by simp at hc;omega)];rfl) w8
def xU(hi:i<s.length)(h:ZG (s.take i)=true)(hd:I1 s[i]=true):ZG (s.take (i+1))=true:=by
 rw[eU hi,VN,h];simp[ZG,hd]
def UF(hi:i<s.length)(hd:I1 s[i]=false):ZG s=false:=by
 cases h:ZG s with
 |false=>rfl
 |true=>rw[ZG,iF]at h;rw[h _ (e9 hi)]at hd;cases hd
def ND(s:List UInt8):Bool:=ZG s&&!s.isEmpty
theorem kF(hF:Fits F w)(hl:s.length<=1000000000):Qg prog 201 [tx s] w F (.bool (ND s)):=by
 refine QV.intro (G:=λ_=>True) func201 rfl wy rfl rfl hF w8<|QI7<|wQ rfl<|QG<|wR rfl<|QA (Xj rfl Zk)<|QH0 rfl<|QHz<|QW<|YA (ι:=Uw s.length λi=>ZG (s.take i)=true) (λi=>[(0,tx s),(5,.int .i64 s.length),(6,.int .i64 i.i)]) (λ_=>[]) (λ_ _=>True) (λi=>s.length-i.i) ⟨0,eH _,rfl⟩ wU QIM w9 λi=>?_
 have hle:=i.le;refine wA 6 I ?_;refine QR I (λhc=>?_) λhc=>?_
 ·have hi:i.i<s.length:=by simp at hc;omega
  refine QJL 14 I<|QA (Hj I I Zk (hi))<|wB 2 I ?_
  refine Ql (t:=13) rfl (λhb13=>?_) λhb13=>?_
  ·refine QJK 7 I ?_;refine QR I (λhc=>?_) λhc=>?_
   ·refine wA 6 I ?_
    repeat first|refine Q6 ?_|refine Qy ?_
    exact QS () I (wN I) (congrArg ah (by unfold ND;rw[UF hi (by have h1:=QJG hb13;cases hd:I1 s[i.i]with | false=>rfl | true=>(have:=Ki.1 hd;omega))];rfl)) w8
   refine QO<|Qk<|QC<|QB<|QA (Qw I I O)<|wB 2 I ?_
   cases hc
  refine wB 5 I<|QA (Hj I I Zk (hi))<|QJK 5 I ?_
  refine QR I (λhc=>?_) λhc=>?_
  ·refine wA 6 I ?_
   repeat first|refine Q6 ?_|refine Qy ?_
   exact QS () I (wN I) (congrArg ah (by unfold ND;rw[UF hi (by have h1:=QJG hc;cases hd:I1 s[i.i]with | false=>rfl | true=>(have:=Ki.1 hd;omega))];rfl)) w8
  refine QO<|Qk<|QC<|QB<|QA (Qw I I O)<|wB 2 I ?_
  exact Qm (⟨i.i+1,O,xU hi i.h (Ki.2 (by have h1:=QJH hb13;have h2:=QJH hc;constructor<;>omega))⟩:Uw s.length λi=>ZG (s.take i)=true) (by show s.length-(i.i+1)<s.length-i.i;omega) wU QIM w9
 refine Qz ?_
 repeat first|refine QZ ?_|refine QQ wy ?_
 refine Qa<|QC<|wR I<|QA (zM I I)<|wQ I<|QY ?_
 exact QS () I (wN I) (congrArg ah (by have h1:=i.h;rw[ao (by simp at hc;omega)]at h1;unfold ND;rw[h1];cases s<;>rfl)) w8
theorem head_ne(h:0<s.length):((s[0].toNat:Int) != 48)=!(s.head?==some 48):=by
 cases s with
 |nil=>simp at h
 |cons c s =>
  simp only[List.getElem_cons_zero,List.head?_cons];by_cases e:c=48
  ·subst e;rfl
  have e1:c.toNat≠48:=λh=>e (eO (by rw[h];rfl));have e2:((c.toNat:Int) != 48)=true:=by simp only[bne_iff_ne,ne_eq];omega
  have e3:(some c==some 48)=false:=by simp[e]
  rw[e2,e3];rfl
def F5(h:ND s=true):0<s.length:=by
 cases s with
 |nil=>cases h
 |cons=>simp
theorem Rl(hF:Fits F w)(hl:s.length<=1000000000):Qg prog 153 [tx s] w F (.bool (Xt s)):=by
 refine QV.intro (G:=λ_=>True) func153 rfl wy rfl rfl hF w8<|QI7<|wQ rfl<|wR rfl<|QI rfl (λ_ _ f _=>kF f hl) λ_=>QH0 rfl ?_
 refine Ql (t:=5) rfl (λhb5=>?_) λhb5=>?_
 ·refine wB 3 I<|QA (K6 I I)<|wB 2 I ?_
  refine Ql (t:=8) rfl (λhb8=>?_) λhb8=>?_
  ·refine QJK 10 I ?_;exact QS () I (wN I) (congrArg ah (by have h:=hb5;unfold ND at h;unfold Xt;rw[h,hb8];rfl)) w8
  refine wB 3 I<|QA (Hj (i:=0) rfl rfl Zk (F5 hb5))<|QJK 9 I ?_
  exact QS () I (wN I) (congrArg ah (by have h:=hb5;unfold ND at h;unfold Xt;rw[h,hb8,head_ne (F5 hb5)];rfl)) w8
 refine wB 3 I<|Jn I I<|Jn I I<|Jn I I<|QJK 6 I ?_
 exact QS () I (wN I) (congrArg ah (by have h:=hb5;unfold ND at h;unfold Xt;rw[h];rfl)) w8
def I9(size d:List UInt8)(neg fr:Bool):Bool:=!Xt size||(neg&&size==[48])||(fr&&(!Xt d||d==[48]||d==[49]))
def Hn(n d:List UInt8)(fr:Bool):Int :=
 if I9 (ag n [45]) d (aB n [45]) fr=true then 1
 else if(decide (600<(ag n [45]).length)||decide (600<d.length))=true then 4
 else if(fr&&!(j8 (Jc (ag n [45])) (Jc d)==1))=true then 1 else 0
def Jk(s:List UInt8):Int:=Hn (Yo 47 s).1 (Yo 47 s).2.1 (Yo 47 s).2.2
theorem kM(c:UInt8)(s:List UInt8):(Yo c s).1.length<=s.length/\(Yo c s).2.1.length<=s.length:=by
 have h:=V6 (· != c) s;have h1:=congrArg fb h.1;have h2:=congrArg fb h.2;simp at h1 h2;unfold Yo;split
 ·refine⟨?_,?_⟩
  ·show(s.takeWhile (· != c)).length<=_;exact(List.takeWhile_sublist _).length_le
  show((s.dropWhile (· != c)).drop 1).length<=_;rw[bh];have:=(List.dropWhile_sublist (l:=s) (· != c)).length_le;omega
 exact⟨aE _,wz⟩
def WC(h:Xt s=true):ZG s=true:=by
 simp only[Xt,ay]at h;exact h.1.1
def AM(s p:List UInt8):(ag s p).length<=s.length:=by unfold ag;split<;>simp
theorem Ek(hF:Fits F w)(hG:JE F)(hl:s.length<=1000000):Qg prog 80 [tx s] w F (.int .i64 (Jk s)):=by
 have hcl:=kM 47 s;unfold Jk;refine QV.intro (G:=λF=>JE F) func80 rfl wy rfl rfl hF (λF' hF'=>hG.le hF')<|QI7<|wQ rfl<|wR rfl<|QI rfl (λ_ _ f k=>cy f k O) λ_=>?_
 rw[kL];generalize Yo 47 s=cp at hcl ⊢;obtain⟨n,d,fr⟩:=cp;dsimp only at hcl ⊢;have htl:=AM n [45];refine QJK 12 I<|QI I (λ_ _ f k=>F7 f ) λ_=>QJK 8 I ?_
 refine Et 46 (.bool (I9 (ag n [45]) d (aB n [45]) fr)) ?_ ?_
 ·refine wA 2 I<|QI I (λ_ _ f k=>Rl f O) λ_=>QA (XB I)<|QH0 I ?_
  refine Ql (t:=24) rfl (λhb24=>?_) λhb24=>?_
  ·refine wB 2 I<|Jn I I<|Jn I I<|wB 5 I<|Jn I I<|Jn I I<|Jn I I<|Jn I I<|Jn I I<|Jn I I<|Jn I I<|Jn I I<|Jn I I<|Jn I I<|Jn I I<|wB 3 I ?_
   exact ZS (exd 27 rfl rfl) (congrArg (λb=>some (ah b)) (by rw[au];simp_all [I9])) QIM tA
  refine wB 4 I ?_;refine Ql (t:=26) rfl (λhb26=>?_) λhb26=>?_
  ·refine wB 3 I<|QA (K6 I I)<|wB 4 I ?_
   refine Ql (t:=31) rfl (λhb31=>?_) λhb31=>?_
   ·refine wB 2 I<|Jn I I<|Jn I I<|Jn I I<|Jn I I<|Jn I I<|Jn I I<|Jn I I<|Jn I I<|Jn I I<|Jn I I<|Jn I I<|wB 3 I ?_
    exact ZS (exd 29 rfl rfl) (congrArg (λb=>some (ah b)) (by rw[au];simp_all [I9])) QIM tA
   refine wB 4 I ?_;refine Ql (t:=33) rfl (λhb33=>?_) λhb33=>?_
   ·refine wB 3 I<|QI I (λ_ _ f k=>Rl f O) λ_=>QM I I<|QA (XB I)<|wB 2 I ?_
    refine Ql (t:=37) rfl (λhb37=>?_) λhb37=>?_
    ·refine wB 14 I ?_;exact ZS (exd 31 rfl rfl) (congrArg (λb=>some (ah b)) (by rw[au];simp_all [I9])) QIM λ_ h=>h.1.1
    refine wB 3 I<|QA (K6 I I)<|wB 4 I ?_
    refine Ql (t:=41) rfl (λhb41=>?_) λhb41=>?_
    ·refine wB 8 I ?_;exact ZS (exd 32 rfl rfl) (congrArg (λb=>some (ah b)) (by rw[au];simp_all [I9])) QIM λ_ h=>h.1.1
    refine wB 3 I<|QA (K6 I I)<|wB 6 I ?_
    exact ZS (exd 32 rfl rfl) (congrArg (λb=>some (ah b)) (by rw[au];simp_all [I9])) QIM λ_ h=>h.1.1
   refine wB 4 I<|Jn I I<|Jn I I<|wB 2 I<|Jn I I<|Jn I I<|wB 5 I ?_
   exact ZS (exd 30 rfl rfl) (congrArg (λb=>some (ah b)) (by rw[au];simp_all [I9])) QIM tA
  refine wB 10 I ?_;refine Ql (t:=33) rfl (λhb33=>?_) λhb33=>?_
  ·refine wB 3 I<|QI I (λ_ _ f k=>Rl f O) λ_=>QM I I<|QA (XB I)<|wB 2 I ?_
   refine Ql (t:=37) rfl (λhb37=>?_) λhb37=>?_
   ·refine wB 14 I ?_;exact ZS (exd 30 rfl rfl) (congrArg (λb=>some (ah b)) (by rw[au];simp_all [I9])) QIM λ_ h=>h.1.1
   refine wB 3 I<|QA (K6 I I)<|wB 4 I ?_
   refine Ql (t:=41) rfl (λhb41=>?_) λhb41=>?_
   ·refine wB 8 I ?_;exact ZS (exd 31 rfl rfl) (congrArg (λb=>some (ah b)) (by rw[au];simp_all [I9])) QIM λ_ h=>h.1.1
   refine wB 3 I<|QA (K6 I I)<|wB 6 I ?_
   exact ZS (exd 31 rfl rfl) (congrArg (λb=>some (ah b)) (by rw[au];simp_all [I9])) QIM λ_ h=>h.1.1
  refine wB 4 I<|Jn I I<|Jn I I<|wB 2 I<|Jn I I<|Jn I I<|wB 5 I ?_
  exact ZS (exd 29 rfl rfl) (congrArg (λb=>some (ah b)) (by rw[au];simp_all [I9])) QIM tA
 refine QR I (λhc46=>?_) λhc46=>?_
 ·refine wA 6 I ?_;exact QS () I (wN I) (congrArg (ak .i64) (by unfold Hn;rw[if_pos hc46])) w8
 refine QJL 3 I ?_;refine Et 54 (.bool (decide (600<(ag n [45]).length)||decide (600<d.length))) ?_ ?_
 ·refine wA 2 I<|QA (Xj I Zk)<|wB 2 I ?_
  refine Ql (t:=50) rfl (λhb50=>?_) λhb50=>?_
  ·refine wB 5 I ?_;exact ZS (exd 9 rfl rfl) (congrArg (λb=>some (ah b)) (by simp at *;first | omega | (rw[au];simp;omega))) QIM w9
  refine wB 3 I<|QA (Xj I Zk)<|wB 4 I ?_
  exact ZS (exd 9 rfl rfl) (congrArg (λb=>some (ah b)) (by simp at *;first | omega | (rw[au];simp;omega))) QIM w9
 refine QR I (λhc54=>?_) λhc54=>?_
 ·refine wA 6 I ?_;exact QS () I (wN I) (congrArg (ak .i64) (by unfold Hn;rw[if_neg (by rw[hc46];decide),if_pos hc54])) w8
 refine QJL 8 I ?_;refine QR I (λhc55=>?_) λhc55=>?_
 ·have hl54:(ag n [45]).length<=600/\d.length<=600:=by simp at hc54;omega
  have hwh:Xt (ag n [45])=true/\Xt d=true:=by
   subst hc55;simp only[I9,bJ,fy,eR]at hc46;exact⟨hc46.1.1,hc46.2.1.1⟩
  have hsa:=WC hwh.1;have hda:=WC hwh.2;have hz1:=D2 hsa;have hz2:=D2 hda;refine wR I<|QI I (λ_ _ f k=>RA f (by rw[V5 hsa];exact hsa) O) λg58=>QH0 I<|QI I (λ_ _ f k=>RA f (by rw[V5 hda];exact hda) O) λg60=>QI I (λ_ _ f k=>cY f k.1.2 k.2 (by rw[YP hsa];omega) (by rw[YP hda];omega)) λg61=>QI I (λw F hF ⟨⟨⟨⟨⟨hGl,_⟩,_⟩,h58⟩,h60⟩,h61⟩=>gn hF (by assumption)) λc62=>JM _ (λ_ _ f h=>h.2) λhsm=>?_
  rw[YP hsa,YP hda,Int.gcd_natCast_natCast]at hsm;refine QJK 7 I ?_;refine Et 70 (.bool (!(j8 (Jc (ag n [45])) (Jc d)==1))) ?_ ?_
  ·refine wA 2 I<|QA (XB I)<|QH0 I ?_
   refine Ql (t:=67) rfl (λhb67=>?_) λhb67=>?_
   ·refine wB 4 I ?_;exact ZS (exd 7 rfl rfl) (congrArg (λb=>some (ah b)) (by rcases hsm with ⟨e1,e2,e3⟩ | ⟨e1,e2⟩<;>rw[au]<;>simp_all<;>omega)) QIM w9
   refine wB 6 I ?_;exact ZS (exd 7 rfl rfl) (congrArg (λb=>some (ah b)) (by rcases hsm with ⟨e1,e2,e3⟩ | ⟨e1,e2⟩<;>rw[au]<;>simp_all<;>omega)) QIM w9
  refine QR I (λhc70=>?_) λhc70=>?_
  ·refine wA 6 I ?_;exact QS () I (wN I) (congrArg (ak .i64) (by unfold Hn;rw[if_neg (by rw[hc46];decide),if_neg (by rw[hc54];decide),if_pos (by rw[hc55,hc70];rfl)])) w8
  refine QJL 8 I ?_;exact QS () I (wN I) (congrArg (ak .i64) (by unfold Hn;rw[if_neg (by rw[hc46];decide),if_neg (by rw[hc54];decide),if_neg (by rw[hc55,hc70];decide)])) w8
 refine QJL 8 I ?_;exact QS () I (wN I) (congrArg (ak .i64) (by unfold Hn;rw[if_neg (by rw[hc46];decide),if_neg (by rw[hc54];decide),if_neg (by rw[hc55];simp)])) w8
def Qo(s:List UInt8):Rat:=if(Yo 47 s).2.2=true then mkRat (Y7 (Yo 47 s).1) (Jc (Yo 47 s).2.1)else((Y7 (Yo 47 s).1:Int):Rat)
theorem Mp(h:c∈s):∃r,s.dropWhile (· != c)=c::r:=by
 induction s with
 |nil=>cases h
 |cons b s ih =>
  simp only[fX];by_cases e:b=c
  ·subst e;exact⟨s,wz⟩
  have h1:(b != c)=true:=by simp[e]
  rw[if_pos h1];exact ih (by rcases List.mem_cons.1 h with h | h;exact absurd h.symm e;exact h)
def qx(c:UInt8)(s:List UInt8):((Yo c s).2.2=true->s=(Yo c s).1++c::(Yo c s).2.1)/\((Yo c s).2.2=false->s=(Yo c s).1/\(Yo c s).2.1=[]):=by
 unfold Yo;by_cases h:s.contains c=true
 ·rw[if_pos h];refine⟨λ_=>?_,λe=>(by cases e)⟩;obtain⟨r,hr⟩:=Mp (c:=c) (s:=s) (by simpa using h);have hh:s.dropWhile (· != c)=c::(s.dropWhile (· != c)).drop 1:=by rw[hr];rfl
  show s=s.takeWhile (· != c)++c::(s.dropWhile (· != c)).drop 1;rw[<-hh,List.takeWhile_append_dropWhile]
 rw[if_neg h];exact⟨λe=>(by cases e),λ_=>⟨rfl,rfl⟩⟩
def Sh(h:Xt l=true)(h0:l≠[48]):0<Jc l:=by
 simp only[Xt,ay,iN,beq_iff_eq,iD,fp]at h;rcases h.2 with h1 | h1
 ·exact absurd h1 h0
 exact(Ef h.1.1 h.1.2 (by simpa using h1)).2
theorem Cq(h:Xt l=true)(h0:l≠[48])(h1:l≠[49]):2<=Jc l:=by
 have hp:=Sh h h0;have hd:=Eg h;rcases aR (Jc l) 2 with g | g
 ·have:Jc l=1:=O;rw[this]at hd;exact absurd (hd.symm.trans (by rw[ae];rfl)) h1
 exact g
theorem dS{n:List UInt8}(h:Xt (ag n [45])=true)(h0:(aB n [45]&&ag n [45]==[48])=false):Zi (Y7 n)=n/\(Y7 n).natAbs=Jc (ag n [45]):=by
 unfold Y7;by_cases hp:aB n [45]=true
 ·have hn:n=45::n.drop 1:=by
   cases n with
   |nil=>cases hp
   |cons c r =>
    have h45:(45==c)=true:=by simpa[aB,ei]using hp
    have:45=c:=by simpa using h45
    rw[<-this];rfl
  have ht:ag n [45]=n.drop 1:=by unfold ag;rw[if_pos hp];rfl
  rw[ht]at h h0 ⊢;rw[hp,fy]at h0;have hpos:=Sh h (by simpa using h0);rw[if_pos hp];refine⟨?_,O⟩;rw[Kf O,show(-(Jc (n.drop 1):Int)).natAbs=Jc (n.drop 1) by omega,Eg h,<-hn]
 have ht:ag n [45]=n:=by unfold ag;rw[if_neg hp]
 rw[ht]at h ⊢;rw[if_neg hp];refine⟨?_,O⟩;rw[XT O,show((Jc n:Nat):Int).natAbs=Jc n by omega,Eg h]
theorem Aj(h:ZG l=true)(hl:l.length<=600):Jc l<lim:=by
 have h1:=HK h;have h2:10^l.length<=lim:=by have key:∀k,l.length<=k->10^l.length<=10^k:=λk h=>bK wu h;unfold lim;exact key 600 hl
 omega
theorem XH(h:Jk s=0):s=Js (Qo s)/\Jt (Qo s)=false:=by
 unfold Jk at h;have hj:=qx 47 s;unfold Qo;generalize Yo 47 s=c at h hj ⊢;obtain⟨n,d,fr⟩:=c;dsimp only at h hj ⊢;unfold Hn at h;split at h
 ·cases h
 rename_i h1;split at h
 ·cases h
 rename_i h2;split at h
 ·cases h
 rename_i h3;have h1':=eq_false_of_ne_true h1;simp only[I9,bJ,eR]at h1';obtain⟨⟨hw,hz⟩,hf⟩:=h1';have hsa:=WC hw;have hl:(ag n [45]).length<=600/\d.length<=600:=by simp at h2;omega
 obtain⟨hn1,hn2⟩:=dS hw hz;have hlim:=Aj hsa hl.1;cases fr with
 |false =>
  rw[if_neg wu];obtain⟨hs,_⟩:=hj.2 rfl;refine⟨?_,?_⟩
  ·unfold Js;rw[ey,if_pos rfl,ew,hn1];exact hs
  unfold Jt RU;rw[ew,ey,hn2];rw[decide_eq_false O,fz];refine decide_eq_false ?_;have:((1:Nat):Int).natAbs<lim:=wv;omega
 |true =>
  rw[if_pos rfl];simp only[fy,bJ,eR]at hf;obtain⟨⟨hwd,hd0⟩,hd1⟩:=hf;have hd2:=Cq hwd (by simpa using hd0) (by simpa using hd1);have hda:=WC hwd;have hg:j8 (Jc (ag n [45])) (Jc d)=1:=by simpa using h3
  have hco:Nat.Coprime (Y7 n).natAbs (Jc d):=by rw[hn2];exact hg
  have hmk:=Rat.mk_eq_mkRat (Y7 n) (Jc d) O hco;rw[<-hmk];refine⟨?_,?_⟩
  ·unfold Js;show s=if Jc d=1 then _ else Zi (Y7 n)++47::ae (Jc d)
   rw[if_neg O,hn1,Eg hwd];exact hj.1 I
  unfold Jt RU;show(decide (lim<=(Y7 n).natAbs)||decide (lim<=((Jc d:Nat):Int).natAbs))=false;have:=Aj hda hl.2;rw[hn2,decide_eq_false O,decide_eq_false O];rfl
theorem Gg{r:Rat}(h:Jt r=false):JU r<=2400:=by
 unfold Jt RU at h;rw[bJ]at h;have h1:=QJH h.1;have h2:=QJH h.2;have e:lim<=2^2400:=by
  decide +kernel
 unfold JU;have a:=(XO r.num 2400).2 (aA (iK h1) e);have b:=(XO (r.den:Int) 2400).2 (aA (iK h2) e);omega
def Yf(h:Jk s=0):JU (Qo s)<=2400:=Gg (XH h).2
theorem qm{q:Option Addr}{c f:Nat}{vs:Nat->Value}{es:List Int}{c1 c2:List Value}(hF:Fits F w)(hg:∀F F',Gs.le F F'->G0 F->G0 F')(h0:G0 F)(hR:Qx F q n 1 cs)(hn:es.length=n)(hb:n<=1000000000)
  (hv:∀i,i<n->cs[i*1]?=some (vs i)) (hc:∀i (hi:i<es.length) w F,Fits F w->G0 F->Qg prog f (c1++[vs i]++c2) w F (.int .i64 es[i])) :
  Qg prog 195 [.slice q n c,.func (.func f) c1.toArray c2.toArray] w F (.int .i64 (Qu es)):=by
 refine QV.intro (G:=λF=>G0 F/\Qx F q n 1 cs) func195 rfl wy rfl rfl hF (λF' hF'=>⟨hg F F' hF' h0,hR.le hF'⟩)<|QI7<|wQ rfl<|QG<|wR rfl<|QA (Qh rfl KE)<|QH0 rfl<|QHz<|QW<|YA (ι:=Uw n λi=>Qu (es.drop i)=Qu es) (λi=>[(1,.func (.func f) c1.toArray c2.toArray),(8,.slice q n c),(9,.int .i64 n),(10,.int .i64 i.i)]) (λ_=>[]) (λ_ F=>G0 F/\Qx F q n 1 cs) (λi=>n-i.i) ⟨0,eH _,rfl⟩ wV QIM w9 λi=>?_
 have hle:=i.le;refine wA 6 I ?_;refine QR I (λhc1=>?_) λhc1=>?_
 ·have hi:i.i<n:=by simp at hc1;omega
  have hil:i.i<es.length:=O;refine XS _ (λ_ _ f h=>h.2.ptr O) (λhq=>?_);obtain⟨qb,qo,rfl⟩:=hq;refine QJL 6 I<|QA (JJ I I KE JP hi)<|QA (Ym I JP tB O (hv i.i hi))<|QJK 7 I<|GY I I (λw F f h=>hc i.i hil w F f h.1) λ_=>QJK 9 I ?_
  refine QR I (λhc1=>?_) λhc1=>?_
  ·refine wA 7 I ?_
   repeat first|refine Q6 ?_|refine Qy ?_
   exact QS () I (wN I) (congrArg (ak .i64) (i.h.symm.trans (Db hil (by simpa using hc1)))) w8
  refine QO<|Qk<|QC<|QB<|QA (Qw I I O)<|wB 2 I ?_
  exact Qm (⟨i.i+1,O,by rw[<-Wm hil (by simpa using hc1)];exact i.h⟩:Uw n λi=>Qu (es.drop i)=Qu es) (by show n-(i.i+1)<n-i.i;omega) wV QIM tA
 refine Qz ?_
 repeat first|refine QZ ?_|refine QQ wy ?_
 refine Qa<|QJM 7 I ?_
 exact QS () I (wN I) (by rw[<-i.h,fG (by simp at hc1;omega)];rfl) w8
theorem kW{q:Option Addr}{c:Nat}{l:List (List UInt8)}(hF:Fits F w)(hG:JE F)(hR:Qx F q n 1 (l.map tx))(hl:n<=1000000/\∀s∈l,s.length<=1000000):Qg prog 134 [.slice q n c] w F (.int .i64 (Qu (l.map Jk))):=by
 have hln:l.length=n:=by have:=hR.1;simpa using this
 refine QV.intro (G:=λF=>JE F/\Qx F q n 1 (l.map tx)) func134 rfl wy rfl rfl hF (λF' hF'=>⟨hG.le hF',hR.le hF'⟩)<|QI7<|wQ rfl<|QI7<|QH0 rfl ?_
 refine QI I (λw F hF ⟨hGl,hR⟩=>qm (c1:=[]) (c2:=[]) (vs:=λi=>tx (l.getD i [])) (es:=l.map Jk) (G0:=JE) hF (λ_ _ h k=>k.le h) hGl hR (by simpa using hln) O (λi hi=>by
  have:i<l.length:=O;simp[this]) (λi hi w F hF hG=>by
  have hi':i<l.length:=by simpa using hi
  have e:l.getD i []=l[i]:=by simp[hi']
  have:=Ek hF hG (hl.2 l[i] (e9 hi'));rw[List.getElem_map];show Qg _ _ [tx (l.getD i [])] _ _ _;rw[e];exact this)) λc4=>?_
 refine wQ I<|QY ?_
 exact QS () I (wN I) rfl w8
def MX{b:Int}(h:Qu [a,b]=0):a=0/\b=0:=by
 simp only[Qu]at h;by_cases h1:a=0
 ·rw[if_pos h1]at h;by_cases h2:b=0
  ·exact⟨h1,h2⟩
  rw[if_neg h2]at h;exact absurd h h2
 rw[if_neg h1]at h;exact absurd h h1
def two(b:Int):Int:=2^b.toNat
def xX{b:Int}(h1:b<=64):sz (two b)<=129:=by
 have:=Bw 2 b.toNat;have e:sz 2=2:=wu;rw[e]at this;unfold two;omega
def To(b:Int):two b≠0:=Int.ne_of_gt (Int.pow_pos wu)
theorem xV{n b:Int}(h:sz n<=k)(h1:b<=64):JU (aF n (two b))<=max k 129:=by
 have:=VY (a:=n) (To b);have:=xX h1;omega
def XX(lo hi:List UInt8):Int:=if Qu [Jk lo,Jk hi]=0 then(if Yb (Qo lo) (Qo hi)>0 then 11 else 0)else Qu [Jk lo,Jk hi]
def Bs{lo hi:List UInt8}(h:XX lo hi=0):Jk lo=0/\Jk hi=0/\¬Yb (Qo lo) (Qo hi)>0:=by
 unfold XX at h;split at h
 ·rename_i h0;have:=MX h0;refine⟨this.1,this.2,?_⟩;split at h
  ·cases h
  assumption
 rename_i h0;exact absurd h h0
theorem Wr{lo hi:List UInt8}(hF:Fits F w)(hG:JE F)(hl:lo.length<=1000000/\hi.length<=1000000):Qg prog 62 [.agg #[tx lo,tx hi]] w F (.int .i64 (XX lo hi)):=by
 refine QV.intro (G:=λF=>JE F) func62 rfl wy rfl rfl hF (λF' hF'=>hG.le hF')<|QI7<|Qs rfl (vs:=[_,_]) rfl λb1=>wQ rfl<|QG<|QI7<|QA (QH rfl B4 JP)<|QA (Qf rfl JP .here .h1)<|QA (QH rfl De JP)<|QA (Qf rfl JP .here (.skip .h1))<|Qb rfl (Q4 KE) JP Cn rfl rfl λb8=>QI rfl (λw F hF ⟨hGl,hs8⟩=>kW (l:=[lo,hi]) hF hGl (Qx.of (cs:=List.map tx [lo,hi]) hs8 rfl) ⟨wu,λs hs=>by simp at hs;rcases hs with rfl | rfl;exact hl.1;exact hl.2⟩) λ_=>QJK 9 I ?_
 refine QR I (λhc=>?_) λhc=>?_
 ·refine wA 7 I ?_;exact QS () I (wN I) (by unfold XX;rw[if_neg (by simpa using hc)];rfl) w8
 have h0:Qu [Jk lo,Jk hi]=0:=by simpa using hc
 have h1:=MX h0;have hz1:=Yf h1.1;have hz2:=Yf h1.2;refine QJL 3 I<|JH QIM mixed wm<|QK (QH I B4 JP)<|QK (Qf I JP .here .h1)<|QP I (λ_ _ f k=>Kj f k.1.1 (XH h1.1).1 O) λx15=>QK (QH I De JP)<|QK (Qf I JP .here (.skip .h1))<|QP I (λ_ _ f k=>Kj f k.1.1.1 (XH h1.2).1 O) λx18=>QP I (λ_ _ f k=>Gv (r:=Qo lo) (s:=Qo hi) f ⟨k.1.2.1,k.1.2.2⟩ ⟨k.2.1,k.2.2⟩ O O) λ_=>QK (QT I I I)<|QP I (λ_ _ f k=>Pn f ) λ_=>QK (QF I)<|Q7<|QC<|QY ?_
 exact QS () I (wN I) (congrArg (ak .i64) (by unfold XX;rw[if_pos h0];simp)) w8
structure Sp where
 lo:Fr
 hi:Fr
@[reducible] def Sp.v (x:Sp):Value:=.agg #[.int .i64 x.lo.n.s,.slice x.lo.n.q x.lo.n.n x.lo.n.cap,.int .i64 x.lo.d.s,.slice x.lo.d.q x.lo.d.n x.lo.d.cap,.int .i64 x.hi.n.s,.slice x.hi.n.q x.hi.n.n x.hi.n.cap,.int .i64 x.hi.d.s,.slice x.hi.d.q x.hi.d.n x.hi.d.cap]
def Ji(F:Gs)(x:Sp)(r:Rat×Rat):Prop:=JN F x.lo r.1/\JN F x.hi r.2
def Ji.le{x:Sp}{r:Rat×Rat}(h:Ji F x r)(k:Gs.le F F'):Ji F' x r:=⟨h.1.le k,h.2.le k⟩
abbrev Xn(P:Program)(f:FuncId)(args:List Value)(w:World)(F:Gs)(r:Rat×Rat):Prop:=QV P f args w F Sp.v λx F=>Ji F x r
def Z7(r:Rat×Rat)(b:Int):Rat×Rat:=(aF (r.1*((two b:Int):Rat)).floor (two b),aF (-(-(r.2*((two b:Int):Rat))).floor) (two b))
def ZI(s:Rat×Rat)(x:Rat):Rat×Rat:=(if Yb x s.1<0 then x else s.1,if Yb x s.2>0 then x else s.2)
def Y3(r:Rat)(l:List Rat):Rat×Rat:=l.foldl ZI (r,r)
def Kl(x:Fr):List Value:=[.int .i64 x.n.s,.slice x.n.q x.n.n x.n.cap,.int .i64 x.d.s,.slice x.d.q x.d.n x.d.cap]
def CQ{f:α->List Value}(hf:∀x,(f x).length=k):∀(l:List α) (i j:Nat) (h:i<l.length),j<k->(l.flatMap f)[i*k+j]?=(f l[i])[j]?
 |[],_,_,h,_=>by simp at h
 |x::l,0,j,_,hj=>by
  rw[eV,fL,aV,aQ,if_pos (by rw[hf];exact hj)];rfl
 |x::l,i+1,j,h,hj=>by
  rw[eV,aQ,if_neg (by rw[hf,bL];omega),hf];have:=CQ hf l i j (by simpa using h) hj;rw[show(i+1)*k+j-k=i*k+j by rw[bL];omega,this];rfl
def MW{f:α->List Value}(hf:∀x,(f x).length=k)(l:List α):(l.flatMap f).length=l.length*k:=by
 induction l with
 |nil=>simp
 |cons x l ih=>rw[eV,aq,hf,ih,aM,bL];omega
def Jg(a b:Rat×Rat):Rat×Rat:=Y3 (a.1*b.1) [a.1*b.2,a.2*b.1,a.2*b.2]
section
variable[Dr][df:Df]{P:Program}{Q:Exit->Act->World->Prop}{N:Nat}{m:Sl}{ops:Array Oper}{l:List Oper}{w0:World}{F0:Gs}{bs:List (Nat×Obj)}{G:Gs->Prop}{d:Nat}{ty:TypeId}{pos:String}{aft:Array Edge}
theorem IW(hx:ev m x=some (tx s))(hT:BZ P T=true)(k:∀b,JS P ops Q l N ((d,.pointer (some ⟨b,0,none⟩))::m) ⟨w0,F0,(b,.stringIter ⟨s.toArray⟩ 0)::bs,G⟩)(hd:J5 N (some d)=true:=by rfl):
  JS P ops Q (⟨some d,.range T x,ty,pos,aft,none⟩::l) N m ⟨w0,F0,bs,G⟩:=λa w ha hw=>by
 unfold BZ at hT;split at hT
 ·rename_i hu;have hrun:(execOp a.eval ⟨some d,.range T x,ty,pos,aft,none⟩).run P w = .ok (.value (.pointer (some ⟨w.heap.size,0,none⟩))) (w.alloc (.stringIter ⟨s.toArray⟩ 0)):=by
   simp[execOp,ha.ev hx,Instr.range,run_underlying hu,run_newObj,tx]
  exact wpList_plain rfl λK hK=>upon_value hrun (hK _ _ (k _ _ _ (ha.put hd _) (hw.alloc _ λc fr e=>by cases e)))
 cases hT
theorem OR{p:Nat}(hx:ev m x=some (.pointer (some ⟨b,0,none⟩)))(ho:Own bs b (.stringIter ⟨s.toArray⟩ p) f)(hp:p<s.length){c width:Nat}(hdec:bI ⟨s.toArray⟩ p=(c,width))
  (k:JS P ops Q l N ((d,.tuple #[.bool true,.int .i64 p,.int .i32 c])::m) ⟨w0,F0,f (.stringIter ⟨s.toArray⟩ (p+width)),G⟩) (hd:J5 N (some d)=true:=by rfl) :
  JS P ops Q (⟨some d,.next x true,ty,pos,aft,none⟩::l) N m ⟨w0,F0,bs,G⟩:=λa w ha hw=>by
 have hb:=hw.own ho;obtain⟨pre,post,e1,e2⟩:=ho.split;subst e1;rw[e2]at k;have hsz:p<(⟨s.toArray⟩:ByteArray).size:=by rw[Y2];exact hp
 have hrun:(execOp a.eval ⟨some d,.next x true,ty,pos,aft,none⟩).run P w = .ok (.value (.tuple #[.bool true,.int .i64 p,.int .i32 c])) { w with heap:=w.heap.setIfInBounds b (.stringIter ⟨s.toArray⟩ (p+width)) }:=by
  simp[execOp,ha.ev hx,lD,getObj,setObj,Sem.run,hb,hsz,hdec,goInt]
 exact wpList_plain rfl λK hK=>upon_value hrun (hK _ _ (k _ _ (ha.put hd _) (hw.write pre ⟨rfl,rfl,rfl,rfl,rfl⟩ λc fr e=>by cases e)))
theorem OT{p:Nat}(hx:ev m x=some (.pointer (some ⟨b,0,none⟩)))(ho:Own bs b (.stringIter ⟨s.toArray⟩ p) f)(hp:s.length<=p)
  (k:JS P ops Q l N ((d,.tuple #[.bool false])::m) ⟨w0,F0,bs,G⟩) (hd:J5 N (some d)=true:=by rfl) :
  JS P ops Q (⟨some d,.next x true,ty,pos,aft,none⟩::l) N m ⟨w0,F0,bs,G⟩:=λa w ha hw=>by
 have hb:=hw.own ho;have hsz:¬p<(⟨s.toArray⟩:ByteArray).size:=by rw[Y2];omega
 have hrun:(execOp a.eval ⟨some d,.next x true,ty,pos,aft,none⟩).run P w = .ok (.value (.tuple #[.bool false])) w:=by
  simp[execOp,ha.ev hx,lD,getObj,Sem.run,hb,hsz]
 exact wpList_plain rfl λK hK=>upon_value hrun (hK _ _ (k _ _ (ha.put hd _) hw))
end
theorem decode_high{p:Nat}(hp:p<s.length)(h:¬s[p].toNat<128):128<=(bI ⟨s.toArray⟩ p).1:=by
 have h0:((⟨s.toArray⟩:ByteArray).get! (p+0)).toNat=s[p].toNat:=by
  simp[il,hp]
 unfold bI;simp only[h0];rw[if_neg h];split
 ·split
  ·rename_i g;exact g
  decide
 split
 ·split
  ·rename_i g;simp only[ay,decide_eq_true_eq]at g;exact ab wu g.1
  decide
 split
 ·split
  ·rename_i g;simp only[ay,decide_eq_true_eq]at g;exact ab wu g.1
  decide
 decide
def qu{p:Nat}(hp:p<s.length):∃c width,bI ⟨s.toArray⟩ p=(c,width)/\((s[p].toNat<128/\c=s[p].toNat/\width=1)\/(128<=s[p].toNat/\128<=c)):=by
 have h0:((⟨s.toArray⟩:ByteArray).get! (p+0)).toNat=s[p].toNat:=by
  simp[il,hp]
 by_cases h:s[p].toNat<128
 ·exact⟨_,_,by unfold bI;simp only[h0];rw[if_pos h],.inl ⟨h,rfl,rfl⟩⟩
 exact⟨(bI ⟨s.toArray⟩ p).1,(bI ⟨s.toArray⟩ p).2,rfl,.inr ⟨O,decode_high hp h⟩⟩
def Yn(c:Nat):Bool:=(decide (97<=c)&&decide (c<=122))||(decide (65<=c)&&decide (c<=90))
section
variable{P:Program}{N:Nat}{m:Sl}{Y:World->Prop}{ty:TypeId}
def Sd(a:Addr):a.add 0=a:=by simp[Addr.add]
theorem NV{e:TypeId}{q:Option Addr}{c sz:Nat}{g:Bool}(h:Nat)(hx:ev m x=some (.slice q n c))(eh:L9 m hi=some vh)(hh:vh=some (.int .i64 (h:Int)))(hT:G9 P T=some e)(hs:Z5 P e=some (g,sz))(hc:h<=c):
  Qt P N m Y (.slice T x none hi none) ty (.slice q h c):=λa w _ _ _ _ ha _=>by
 subst hh;have e1:q.map (λa=>a.add 0)=q:=by cases q<;>simp[Sd]
 have hrun:(iY T (.slice q n c) none (some (.int .i64 (h:Int))) none).run P w = .ok (.slice q h c) w:=by
  simp[iY,run_underlying (Q4 hT),Instr.sliceBounds,Instr.sliceBound,asIntOf,hc,Ky hs,e1]
 simp[execOp,ha.ev hx,ha.L9 eh,iR,run_underlying (Q4 hT),hrun]
end
def XF(F:Gs)(r:Sr)(l:List Int):Prop:=Qx F r.q r.n 1 (l.map Jr)/\l.length=r.n/\r.n<=r.cap
def XF.le{r:Sr}{l:List Int}(h:XF F r l)(k:Gs.le F F'):XF F' r l:=⟨h.1.le k,h.2⟩
theorem Q9.fix{w0:World}{F0:Gs}{bs1:List (Nat×Obj)}{G:Gs->Prop}{sz:Nat}{v:Value}(hr:Q9 T sz v n cs ob):
  ∃r:Sr,v=r.v/\r.n=n/\n<=r.cap/\∀w,St ⟨w0,F0,bs1++ob,G⟩ w->St ⟨w0,F0,bs1,λF=>G F/\Qx F r.q n sz cs⟩ w:=by
 cases hr with
 |nil=>exact⟨⟨eW,0,0⟩,rfl,rfl,aE _,λw hw=>by
   have:=hw.B3 (G':=λF=>G F/\Qx F eW 0 sz []) (λF h=>⟨h,Qx.nil F eW sz⟩);simpa using this⟩
 |some h1 h2 h3 h4 =>
  rename_i b cap rest;refine⟨⟨Option.some ⟨b,0,eW⟩,n,cap⟩,rfl,rfl,h3,λw hw=>?_⟩;have:=St.freeze (pre:=bs1) (post:=[]) (b:=b) hw;rw[fc]at this;refine this.B3 λF h=>⟨h.1,h1,λ_=>⟨b,0,_,T,rfl,h.2,λj u hu=>?_⟩⟩;have hj:j<cs.length:=by rcases aR j cs.length with g | g;exact g;rw[aX g]at hu;cases hu
  rw[aV];simp only[List.getElem?_toArray];rw[aQ,if_pos hj];exact hu
theorem QCl{Q:Exit->Act->World->Prop}{e:Exit}{m:Sl}{E:Env}(h:∀w,St E w->St E' w)(k:Fin Q e N m E'):Fin Q e N m E:=λa w ha hw=>k a w ha (h w hw)
def B9:Int:=1000000000
theorem jc{Q:Exit->Act->World->Prop}{c:Code}{m:Sl}{E:Env}(h:∀w,St E w->St E' w)(k:J P c Q N m E'):J P c Q N m E:=λa w ha hw=>k a w ha (h w hw)
theorem K8.one{l:List Value}{v:Value}:∀ {n:Nat},n<l.length->K8 l n [v] (l.set n v):=by
 induction l with
 |nil=>intro n h;simp at h
 |cons x l ih =>
  intro n h;cases n with
  |zero=>exact .here .nil
  |succ n=>exact .skip (ih (by simpa using h))
def TZ(h:k<o.length):(o.map Jr)[0+k*1]?=some (.int .i64 (Qn o k)):=by
 rw[YM h];simp[h,Jr]
def J6(h:k<o.length):(o.map Jr)[k*1]?=some (.int .i64 (Qn o k)):=by
 rw[YM h];simp[h,Jr]
theorem SG(h:k<o.length)(x:Int):K8 (o.map Jr) (0+k*1) [.int .i64 x] ((o.set k x).map Jr):=by
 have:=K8.one (l:=o.map Jr) (n:=0+k*1) (v:=.int .i64 x) (by simpa using h);simpa[List.map_set,Jr]using this
def V9(h:k<o.length):(o.map Jr++rest)[0+k*1]?=some (.int .i64 (Qn o k)):=by
 rw[aQ,if_pos w6];exact TZ h
def dJ{l vs l':List Value}(h:K8 l n vs l'):K8 (l++rest) n vs (l'++rest):=by
 induction h with
 |nil=>exact .nil
 |here h ih=>exact .here ih
 |skip h ih=>exact .skip ih
def DF(h:k<o.length)(x:Int):K8 (o.map Jr++rest) (0+k*1) [.int .i64 x] ((o.set k x).map Jr++rest):=dJ (SG h x)
end Go.Proofs.YtbpmnjieoncbcaaGreatDoor
namespace Ig
structure Ij(b:Int)(U v:List Int)(j n i:Nat)(U':List Int)(c:Int):Prop where
 len:U'.length=U.length
 dg:DG b (U'.set (j+n) 0)
 lo:U'.take j=U.take j
 hi:U'.drop (j+i)=U.drop (j+i)
 c0:0<=c
 c1:c<=1
 h:dv b U'+b^(j+i)*c=dv b U+b^j*dv b (v.take i)
end Ig
namespace Go.Proofs.YtbpmnjieoncbcaaGreatDoor
variable{ds o post u:List Int}{B N b cap i j k m n off:Nat}{c:UInt8}{w w':World}{a z:Int}{α γ ι:Type}{x y:Operand}{l s:List UInt8}{F F':Gs}{P:Program}{f:Obj->List (Nat×Obj)}{args cs olds rest:List Value}{T yT:TypeId}{hi:Option Operand}{vh:Option Value}{bs' ob:List (Nat×Obj)}{G0:Gs->Prop}{fn:Func}{fr:Nat×Nat}{aft:Array Edge}{E':Env}{g g':Bg}
open Go.RowKit Ig
def el{α:Type}[Inhabited α](l:List α)(i:Nat):α:=l.getD i default
def JW[Inhabited α]{l:List α}{i:Nat}(h:i<l.length):el l i=l[i]:=by simp[el,h]
def Qv[Inhabited α]{l:List α}{i:Nat}(h:i<l.length):el l i∈l:=by rw[JW h];exact e9 h
theorem JQ[Inhabited α]{f:α->List Value}{k:Nat}(hf:∀x,(f x).length=k){l:List α}{i j:Nat}{u:Value}(h:i<l.length)(hj:(f (el l i))[j]?=some u):(l.flatMap f)[i*k+j]?=some u:=by
 have hlt:j<k:=by
  rcases aR j k with g | g
  ·exact g
  rw[aX (by rw[hf];exact g)]at hj;cases hj
 rw[CQ hf l i j h hlt,<-JW h];exact hj
def XL[Inhabited α]{f:α->Value}{l:List α}{i:Nat}(h:i<l.length):(l.map f)[i*1]?=some (f (el l i)):=by
 rw[fT,List.getElem?_map,fu h,JW h];rfl
def XU[Inhabited α]{l:List α}{i:Nat}(h:i<l.length):l.take (i+1)=l.take i++[el l i]:=by
 rw[eU h,JW h]
def Bo[Inhabited α]{l:List α}{i:Nat}(h:i<l.length):l.drop i=el l i::l.drop (i+1):=by
 rw[bj h,JW h]
def Yr{l:List Int}(h:i<l.length):Qn l i=el l i:=by rw[YM h,JW h]
def QAx(q:Option Addr):Nat:=(q.getD ⟨0,0,none⟩).block
def QAw(q:Option Addr):Nat:=(q.getD ⟨0,0,none⟩).off
section
variable[Dr][df:Df]{P:Program}{Q:Exit->Act->World->Prop}{N:Nat}{m:Sl}{E E0:Env}{ops:Array Oper}{l:List Oper}{w0:World}{F0:Gs}{bs:List (Nat×Obj)}{G:Gs->Prop}{ty:TypeId}
theorem Q3{e:TypeId}{q:Option Addr}{c sz sz':Nat}{g:Bool}(i:Nat)(hr:∀F,G F->Qx F q n sz' cs)(hx:ev m x=some (.slice q n c))(hy:ev m y=some (.int .i64 (i:Int)))(hT:G9 P T=some e)(hs:Z5 P e=some (g,sz))(hi:i<n):
  Qt P N m (St ⟨w0,F0,bs,G⟩) (.indexAddr T x y) ty (.pointer (some ⟨QAx q,QAw q+i*sz,none⟩)):=λa w _ _ _ _ ha hw=>by
 obtain⟨F,hF⟩:=id hw;obtain⟨b,off,rfl⟩:=(hr F hF.hG).ptr O;exact JJ hx hy hT hs hi a w _ _ _ _ ha hw
theorem Q5{q:Option Addr}{sz:Nat}(j:Nat){u:Value}(hr:∀F,G F->Qx F q n sz cs)(hn:0<n)(hx:ev m x=some (.pointer (some ⟨QAx q,QAw q+j,none⟩)))(ht:Z5 P T=some (false,k))(hu:cs[j]?=some u):
  Qt P N m (St ⟨w0,F0,bs,G⟩) (.load T x) ty u:=λa w _ _ _ _ ha hw=>by
 obtain⟨F,hF⟩:=id hw;obtain⟨b,off,rfl⟩:=(hr F hF.hG).ptr hn;exact Ym hx ht hr hn hu a w _ _ _ _ ha hw
theorem JK{q:Option Addr}{sz:Nat}{vs:List Value}(j:Nat)(hr:∀F,G F->Qx F q n sz cs)(hn:0<n)(hx:ev m x=some (.pointer (some ⟨QAx q,QAw q+j,none⟩)))(ht:Z5 P T=some (true,k))(hl:vs.length=k)(hu:∀i v,vs[i]?=some v->cs[j+i]?=some v):
  Qt P N m (St ⟨w0,F0,bs,G⟩) (.load T x) ty (.agg vs.toArray):=λa w _ _ _ _ ha hw=>by
 obtain⟨F,hF⟩:=id hw;obtain⟨b,off,rfl⟩:=(hr F hF.hG).ptr hn;exact qE hx ht hr hn hl hu a w _ _ _ _ ha hw
theorem KL.append{m:Sl}:∀ {k l:Sl},KL m k->KL m l->KL m (k++l)
 |[],_,_,h=>h
 |(_,_)::_,_,⟨h1,h2⟩,h=>⟨h1,KL.append h2 h⟩
theorem JV{c:Code}(K:Sl)(M:ι->Sl)(B:ι->List (Nat×Obj))(R:ι->Gs->Prop)(μ:ι->Nat)(i0:ι)
  (hk:KL m K) (hm:KL m (M i0)) (hb:(B i0).Sublist bs) (hg:∀F,G F->R i0 F)
  (round:∀i,J P c (Exit.then (Cm N w0 F0 (λi=>K++M i) B (λi F=>G F/\R i F) μ i) Q) N (K++M i) ⟨w0,F0,B i,λF=>G F/\R i F⟩):J P (.loop c) Q N m ⟨w0,F0,bs,G⟩ :=
 YA (λi=>K++M i) B (λi F=>G F/\R i F) μ i0 (hk.append hm) hb (λF h=>⟨h,hg F h⟩) round
theorem XK{c:Code}(K:Sl)(M:ι->Sl)(μ:ι->Nat)(i0:ι)(hk:KL m K)(hm:KL m (M i0))
  (round:∀i,J P c (Exit.then (Cm N w0 F0 (λi=>K++M i) (λ_=>bs) (λ_=>G) μ i) Q) N (K++M i) ⟨w0,F0,bs,G⟩):J P (.loop c) Q N m ⟨w0,F0,bs,G⟩ :=
 YA (λi=>K++M i) (λ_=>bs) (λ_=>G) μ i0 (hk.append hm) QIM w9 round
theorem Zc{x y:Code}(K M:Sl)(hk:KL m K)(h1:J P x (ZT λa w=>Ja N (K++M) a/\St ⟨w0,F0,bs,G⟩ w) N m ⟨w0,F0,bs,G⟩)(h2:J P y Q N (K++M) ⟨w0,F0,bs,G⟩):J P (.seq x y) Q N m ⟨w0,F0,bs,G⟩ :=
 QAK _ _ _ h1 h2
theorem Iy{x y:Code}(K:Sl)(M:ι->Sl)(B:ι->List (Nat×Obj))(R:ι->Gs->Prop)(hk:KL m K)(h1:J P x (ZT λa w=>∃i,Ja N (K++M i) a/\St ⟨w0,F0,B i,λF=>G F/\R i F⟩ w) N m ⟨w0,F0,bs,G⟩)
  (h2:∀i,J P y Q N (K++M i) ⟨w0,F0,B i,λF=>G F/\R i F⟩):J P (.seq x y) Q N m ⟨w0,F0,bs,G⟩ :=
 BU (λi=>K++M i) B (λi F=>G F/\R i F) h1 h2
end
def TM:(1:Int)<B9:=wu
end Go.Proofs.YtbpmnjieoncbcaaGreatDoor
