/- Steps of the proof of the theorem in the last file. -/
import Derived.Test.YtjcphjpkimmmjaaGreatDoorP0
import Derived.BigRegion
import Derived.StillTailTactics
import Derived.Deep.DeepCutAuto
import Derived.Deep.CutBlock
import Derived.Lib.AppendStr
import Derived.Lib.Builder
import Derived.Shelf.Strings.Builder1
import Derived.Test.YtjcphjpkimmmjaaGreatDoorChecked
import Derived.Lib.Walk
import Derived.Lib.ItoaMem
import Derived.WalkKit
import Derived.BigCall
import Derived.BigGuard
import Derived.Lib.ItoaNum
import Derived.Lib.Atoi
import Derived.Lib.Repeat
import Derived.Lib.IndexMore
import Derived.Lib.IndexBytes
set_option linter.all false
set_option maxHeartbeats 4000000
open Go.Proofs.Tryz
open Go.Lib renaming hid → aa,decDigits → ae,trimPrefix → ag,run_eql_slice_nil → ar,byteCells → ax,hasPrefix → aB,nDigits → aN,decDigits_length → aS,bitLen → bD,zeros24 → eM,decDigits_one → eY,repeatL → fh,cut → fq,strCells → fR,itoa → ie,decFrom → ig,byteCells_length → ij,byteCells_append → ik,lt_pow_nDigits → iB,TabIs → iM,strCells_eq → iQ,atoi → iV,indexByte → iX,pow10Tab → lk
open Nat renaming le_trans → ab,lt_of_lt_of_le → aA,le_refl → aE,mul_le_mul_left → aL,lt_or_ge → aR,zero_add → aV,pow_le_pow_right → bJ,add_mul → bK,pow_succ → bQ,zero_le → eI,pow_le_pow_left → eP,add_assoc → eQ,mul_assoc → fB,add_sub_cancel_left → fG,zero_mul → fM,mul_comm → fN,le_of_ble_eq_true → fS,mul_one → fU,mul_le_mul_right → fV,eq_zero_or_pos → iz,add_sub_cancel → iA,lt_of_not_le → iK,le_max_right → iL,strongRecOn → iO,le_max_left → iP,sub_zero → je,gcd → jf,ble → jg,pow_one → lE,pow_mul → lF,pow_add → lG,mul_add → lH
open Int renaming mul_le_mul_of_nonneg_left → af,mul_le_mul_of_nonneg_right → ai,mul_comm → aj,le_of_lt → aC,mul_ediv_add_emod → aD,mul_nonneg → aG,emod_lt_of_pos → aH,emod_nonneg → aK,toNat_natCast → ba,add_mul → bc,pow_succ → bm,natAbs_ediv_le_natAbs → bp,ediv_lt_of_lt_mul → bC,neg_mul → bM,ediv_nonneg → bP,add_zero → bR,tmod_lt_of_pos → bU,lt_trichotomy → bX,gcd → bY,mul_zero → ep,mul_ne_zero → eF,sub_mul → eL,one_mul → fg,natCast_pow → fi,natCast_mul → fj,le_antisymm → fk,mul_ediv_cancel_left → fC,eq_ofNat_of_zero_le → fJ,ediv_eq_zero_of_lt → fP,add_comm → fQ,pow_add → fZ,natAbs_of_nonneg → ia,emod_eq_of_lt → iG,pow_zero → jh,neg_tmod → ji,gcd_comm → jj,emod_one → lf,mul_one → lK,mul_neg → lL,mul_add → lM,le_refl → lN
open Go.Value renaming bool → ah,int → ak,pointer → av,ownBlock → fl
open List renaming take_of_length_le → ao,length_append → aq,eq_nil_of_length_eq_zero → aI,length_cons → aM,replicate → aO,drop_zero → aP,getElem?_append → aQ,take_succ_cons → aT,drop_succ_cons → aU,take_append_drop → aW,getElem?_eq_none → aX,perm_append_comm_assoc → aY,append_assoc → aZ,length_drop → bh,drop_eq_getElem_cons → bj,take_zero → bB,flatten_append → bO,getElem?_append_left → bW,append_cons → bZ,nil_append → ee,isPrefixOf → ei,singleton_append → eC,perm_append_comm → eD,length_singleton → eE,getD → eK,take_succ_eq_append_getElem → eU,flatMap_cons → eV,length_take → fa,getElem_mem → fb,cons_append → fc,length → fe,append_nil → ff,isEmpty_eq_false_iff → fu,getLast?_eq_getElem? → fw,getElem?_eq_getElem → fy,drop_of_length_le → fH,drop_eq_nil_of_le → fI,set_append_right → fO,replicate_succ' → fT,takeWhile_cons → fW,length_flatten → fX,dropWhile_cons → fY,contains_cons → im,drop → iE,all_eq_true → iF,map_cons → iU
open Bool renaming eq_iff_iff → au,and_eq_true → ay,or_eq_false_iff → bI,false_eq_true → bT,not_eq_false' → eR,true_and → fz,false_or → fA,not_eq_true' → iD,or_eq_true → iN
open Rat renaming divInt → aF,num_intCast → ey,den_intCast → eB,sub_eq_add_neg → iw,neg_divInt_neg → ix,lt_iff → iy,divInt_ofNat → iJ,num_divInt → iS,den_divInt → iT,floor_def → iW,add_def' → iZ,num_pow → lB,inv_def → lC,den_pow → lD
open Go.Builtin renaming zeroCells → aJ,append_ → ir
open Go.Value.slice renaming injEq → bw
open Go.IntWalk renaming i64_in → bz
open Go.Result renaming andThen_ok → bA
open Array renaming size_replicate → bF,ext' → bS,getElem?_eq_none → fF,getElem?_append → fK,replicate → iI
open And renaming intro → bG
open Go.Utf8 renaming decode → bH
open List.Perm renaming refl → bL
open Option.some renaming injEq → bN
open ByteArray renaming toList → bV,size → eZ,get! → il,ext → iu
open Go.Sem renaming run_pure → er,run_bind → eu
open Go.Proofs renaming enters_of → ew
open Go.World renaming cell? → eG,ownsRow_nil → iq
open Go.Instr renaming sureAddr → eH,loadAt → eT,sliceAt → iR,slice → iY,next → lA
open Go.Obj renaming cells → eN
open UInt8.toNat renaming inj → eO
open Option renaming none → eW
open Go.RowKit.Below renaming heap_alloc → eX,heap_setCell → ib
open Go.Addr.mk renaming injEq → fm
open Go.Region renaming wanted → fp
open Go.Sort renaming grow → fD
open UInt8 renaming ofNat → fL
open Go.Program renaming arrayLen → ic
open Go.Ending renaming returned → iC
open Go.Extern.AbiNoEscape renaming same → iH
open Go.Lib.decDigits renaming eq_1 → lz
open List.Sublist renaming cons_cons → lI,cons → lJ
namespace Go.Proofs.YtjcphjpkimmmjaaGreatDoor
variable{ds o post u:List Int}{B N b cap i j k m n off:Nat}{c:UInt8}{w w':World}{a z:Int}{α γ ι:Type}{x y:Operand}{l s:List UInt8}{F F':Gs}{P:Program}{f:Obj->List (Nat×Obj)}{args cs olds rest:List Value}{T yT:TypeId}{hi:Option Operand}{vh:Option Value}{bs' ob:List (Nat×Obj)}{G0:Gs->Prop}{fn:Func}{fr:Nat×Nat}{aft:Array Edge}{E':Env}
open Go.RowKit Ig
def YY(u v:List Int)(n:Nat)(q r a:Int):Prop :=
 (0<=q/\q<W)/\(0<=r/\r<W)/\(0<=a/\a<=1)/\q*Qm v (n+1)+r+W*a=Qm u (n+2)*W+Qm u (n+1)/\dv W u<(q+1)*dv W v
abbrev W5(u v:List Int)(n:Nat):Prop:=Hp W u v n
theorem Hp.qO{v:List Int}(h:W5 u v n)(f:Qm v (n+1)<=Qm u (n+2)):
  YY u v n (W-1) (XW (Qm u (n+1)) (Qm v (n+1)) 0) (Xy (Qm u (n+1)) (Qm v (n+1)) 0):=by
 have e:Qm u (n+2)=Qm v (n+1):=fk (Hp.top Nj h) f;obtain⟨a,b,c⟩:=HH (Ji h.hu (n+1)) (Ji h.hv (n+1)) (by decide:(0:Int)<=0/\(0:Int)<=1);refine⟨tF,b,c,?_,?_⟩
 ·rw[e];grind
 have:=h.lt;rw[show W-1+1=W from by omega];exact this
theorem Hp.qP{v:List Int}(h:W5 u v n)(i:Qm u (n+2)<Qm v (n+1)):
  YY u v n (L4 (Qm u (n+2)) (Qm u (n+1)) (Qm v (n+1))) (qU (Qm u (n+2)) (Qm u (n+1)) (Qm v (n+1))) 0:=by
 obtain⟨l,F,E⟩:=Kx Nj h.hu h.lu;obtain⟨b1,b2,b3⟩:=Wr Nj h.hv h.lv;have k:=Ji h.hu (n+2);have C:=Ji h.hu n;have B:=Ji h.hu (n+1);have j:=Ji h.hv n;have A:=Ji h.hv (n+1);have hp:=pow_pos Ju n;have hz:=h.nz;have z:=Ju;unfold L4 qU;unfold YY;rw[l,b1];generalize W^n=D at *
 generalize dv W (v.take n)=v' at *
 generalize dv W (u.take n)=u' at *
 generalize Qm u (n+2)=u0 at *
 generalize Qm u (n+1)=u1 at *
 generalize Qm u n=u2 at *
 generalize Qm v (n+1)=v1 at *
 generalize Qm v n=v2 at *
 have s:0<=u0*W:=aG k.1 O;have f:(u0+1)*W<=v1*W:=ai O O;have o:=aD (u0*W+u1) v1;have c:=aK (u0*W+u1) (by omega:v1≠0);have m:=aH (u0*W+u1) hz;have b:0<=(u0*W+u1)/v1:=bP O O;have a:(u0*W+u1)/v1<W:=by
  refine bC hz ?_;rw[bc]at f;rw[aj W v1];omega
 generalize (u0*W+u1)/v1=q at *
 generalize (u0*W+u1)%v1=r at *
 refine⟨⟨b,a⟩,⟨c,O⟩,O,by rw[aj q v1];omega,?_⟩;have g:(u0*W+u1+1)<=(q+1)*v1:=by rw[bc,aj q v1];omega
 have k2:(u0*W+u1+1)*(W*D)<=(q+1)*v1*(W*D):=ai g (aG O O);have y:0<=(q+1)*(v2*D):=aG O (aG j.1 O);have x:0<=(q+1)*v':=aG O b2;have w:(u2+1)*D<=W*D:=ai O O
 grind
theorem YY.less{v:List Int}{q r:Int}(h:W5 u v n)(g:YY u v n q r 0)(hb:r*W+Qm u n<q*Qm v n):
  YY u v n (q-1) (XW r (Qm v (n+1)) 0) (Xy r (Qm v (n+1)) 0):=by
 obtain⟨w,f,s,o,m⟩:=g;obtain⟨k,z,j⟩:=Kx Nj h.hu h.lu;obtain⟨b1,b2,b3⟩:=Wr Nj h.hv h.lv;obtain⟨a,b,c⟩:=HH f (Ji h.hv (n+1)) (by decide:(0:Int)<=0/\(0:Int)<=1);have hp:=pow_pos Ju n;have y:=Ji h.hu n;have x:=Ji h.hv n;have l:1<=q:=by
  refine Int.not_lt.1 λhc=>?_;have:q=0:=O;subst this;have:0<=r*W:=aG f.1 tF;omega
 refine⟨O,b,c,?_,?_⟩
 ·have:(q-1)*Qm v (n+1)=q*Qm v (n+1)-Qm v (n+1):=by grind
  omega
 rw[show q-1+1=q from by omega,k,b1];refine FR b2 j hp O ?_;generalize Qm u (n+2)=u0 at *
 generalize Qm u (n+1)=u1 at *
 generalize Qm u n=u2 at *
 generalize Qm v (n+1)=v1 at *
 generalize Qm v n=v2 at *
 have e:q*(v1*W+v2)=(q*v1+r)*W-r*W+q*v2:=by grind
 have i:q*v1+r=u0*W+u1:=O;rw[e,i];omega
theorem YY.fin{v:List Int}{q r a:Int}(h:W5 u v n)(g:YY u v n q r a)(hb:a=0->q*Qm v n<=r*W+Qm u n):
  (q-1)*dv W v<=dv W u/\dv W u<(q+1)*dv W v:=by
 obtain⟨j,i,s,f,c⟩:=g;refine⟨?_,c⟩;obtain⟨m,l,y⟩:=Kx Nj h.hu h.lu;obtain⟨b1,b2,b3⟩:=Wr Nj h.hv h.lv;have hp:=pow_pos Ju n;have x:=Ji h.hu n;have k:=Ji h.hv n;have w:=Ji h.hv (n+1);have hz:=h.nz;rw[m,b1];have o:q*Qm v n<=(r+W*a)*W+Qm u n:=by
  have:a=0\/a=1:=O;rcases this with rfl | rfl
  ·simpa using hb rfl
  have b:q*Qm v n<=W*W:=Int.mul_le_mul O O k.1 tF;have k2:0<=r*W:=aG i.1 tF;have e:(r+W*1)*W=r*W+W*W:=by grind
  rw[e];omega
 refine CF hp b3 l j.1 ?_ ?_ b2
 ·generalize Qm u (n+2)=u0 at *
  generalize Qm u (n+1)=u1 at *
  generalize Qm u n=u2 at *
  generalize Qm v (n+1)=v1 at *
  generalize Qm v n=v2 at *
  rw[<-f]
  grind
 have b:1*W<=Qm v (n+1)*W:=ai O tF;omega
def Ev(u v:List Int)(q:Int)(k:Nat)(ds:List Int)(b c:Int):Prop :=
 ds.length=k/\DG W ds/\(0<=b/\b<=1)/\(0<=c/\c<W)/\dv W ds-W^k*(b+c)=dv W (u.take k)-q*dv W (v.take k)
def Ev.start(u v:List Int)(q:Int):Ev u v q 0 [] 0 0:=⟨rfl,DG.nil _,tF,tF,tJ⟩
theorem Ev.step{v:List Int}{q b c:Int}(h:Ev u v q k ds b c)(hu:DG W u)(n:DG W v)(hq:0<=q/\q<W):
  Ev u v q (k+1) (ds++[Zk (Qm u k) (XW (XG q (Qm v k)) c 0) b]) (Vv (Qm u k) (XW (XG q (Qm v k)) c 0) b)
   (X6 q (Qm v k)+Xy (XG q (Qm v k)) c 0):=by
 obtain⟨h1,h2,h3,h4,h5⟩:=h;obtain⟨_,m,l,j,w,_,_⟩:=Ny hq (Ji n k) h4 (by decide:(0:Int)<=0/\(0:Int)<W);obtain⟨s,_,_⟩:=HH m h4 (by decide:(0:Int)<=0/\(0:Int)<=1);obtain⟨i,f,g⟩:=D7 (Ji hu k) l h3;have o:XG q (Qm v k)+W*X6 q (Qm v k)=q*Qm v k:=by unfold XG X6;rw[fQ];exact aD _ _
 refine⟨by simp[h1],h2.append (DG.cons f.1 f.2 (DG.nil _)),g,j,?_⟩;rw[X9,h1,XS,XS,bm];generalize XG q (Qm v k)=lo at *
 generalize X6 q (Qm v k)=hi at *
 generalize Xy lo c 0=ch at *
 generalize XW lo c 0=cl at *
 generalize Vv (Qm u k) cl b=sh at *
 generalize Zk (Qm u k) cl b=sl at *
 generalize Qm u k=a at *
 generalize Qm v k=x at *
 have A:W^k*(sl-W*sh)=W^k*(a-cl-b):=by rw[i]
 have z:W^k*(cl+W*ch)=W^k*(lo+c+0):=by rw[s]
 have y:W^k*(lo+W*hi)=W^k*(q*x):=by rw[o]
 grind
theorem zX{v:List Int}{q b c:Int}(h:W5 u v n)(m:Ev u v q (n+2) ds b c)(hq:(q-1)*dv W v<=dv W u/\dv W u<(q+1)*dv W v)
  (hb:Vv (Qm u (n+2)) c b=0) :
  DG W (ds++[Zk (Qm u (n+2)) c b])/\q=dv W u/dv W v/\dv W (ds++[Zk (Qm u (n+2)) c b])=dv W u%dv W v:=by
 obtain⟨h1,h2,h3,h4,h5⟩:=m;obtain⟨g,f,k⟩:=D7 (Ji h.hu (n+2)) h4 h3;rw[ao (by have:=h.lv;omega:v.length<=n+2)]at h5;have e:=XS u (n+2);rw[ao (by have:=h.lu;omega:u.length<=n+2+1)]at e;have i:DG W (ds++[Zk (Qm u (n+2)) c b]):=h2.append (DG.cons f.1 f.2 (DG.nil _));have h0:=JJ Ju i;have a:0<dv W v:=by
  have:=h.lt;have:=JJ Ju h.hu;refine Int.not_le.1 λhc=>?_;have:W*dv W v<=W*0:=af hc tF;omega
 have j:dv W (ds++[Zk (Qm u (n+2)) c b])=dv W u-q*dv W v:=by
  rw[X9,h1,e];rw[hb]at g;generalize Zk (Qm u (n+2)) c b=sl at *
  have:W^(n+2)*(sl-W*0)=W^(n+2)*(Qm u (n+2)-c-b):=by rw[g]
  grind
 rw[j]at h0 ⊢;refine⟨i,(YE a O hq.2).symm,(YQ O hq.2).symm⟩
def dO{v es:List Int}{q b c k:Int}(h:W5 u v n)(m:Ev u v q (n+2) ds b c)(hq:(q-1)*dv W v<=dv W u/\dv W u<(q+1)*dv W v)
  (hb:Vv (Qm u (n+2)) c b=1) (ha:Mi ds v (n+2) es k) :
  q-1=dv W u/dv W v/\dv W es=dv W u%dv W v/\Zk (Qm u (n+2)) c b+k=W:=by
 obtain⟨h1,h2,h3,h4,h5⟩:=m;obtain⟨D,w,K,s⟩:=ha;obtain⟨x,j,E⟩:=D7 (Ji h.hu (n+2)) h4 h3;rw[ao (by have:=h.lv;omega:v.length<=n+2)]at h5 s;rw[ao (by omega:ds.length<=n+2)]at s;have e:=XS u (n+2);rw[ao (by have:=h.lu;omega:u.length<=n+2+1)]at e;have f:0<dv W v:=by
  have:=h.lt;have:=JJ Ju h.hu;refine Int.not_le.1 λhc=>?_;have:W*dv W v<=W*0:=af hc tF;omega
 have C:=Kl Ju w;have H:=JJ Ju w;have B:=JJ Ju h2;have i:=Kl Ju h2;have v1:=Kl Ju h.hv;rw[h.lv]at v1;rw[D]at C;rw[h1]at i;rw[hb]at x;have hp:=pow_pos Ju (n+2);generalize Zk (Qm u (n+2)) c b=sl at *
 have A:dv W ds+W^(n+2)*(sl-W)=dv W u-q*dv W v:=by
  have j:W^(n+2)*(sl-W)=W^(n+2)*Qm u (n+2)-W^(n+2)*(b+c):=by
   rw[<-Int.mul_sub];congr 1;omega
  rw[e,j];omega
 have a:dv W u<q*dv W v:=by
  have:W^(n+2)*(sl-W)<=W^(n+2)*(-1):=af O O;omega
 have G:(q-1)*dv W v=q*dv W v-dv W v:=by rw[eL,fg]
 have o:(q-1+1)*dv W v=q*dv W v:=by rw[show q-1+1=q from by omega]
 have l:dv W u-(q-1)*dv W v=dv W es+W^(n+2)*(sl+k-W):=by
  have F:W^(n+2)*(sl+k-W)=W^(n+2)*(sl-W)+W^(n+2)*k:=by rw[<-lM];congr 1;omega
  omega
 have hk:sl+k=W:=by
  have z:0<=dv W u-(q-1)*dv W v:=O;have y:dv W u-(q-1)*dv W v<W^(n+2):=O;rw[l]at z y;rcases bX (sl+k) W with g | g | g
  ·have:W^(n+2)*(sl+k-W)<=W^(n+2)*(-1):=af O O;omega
  ·exact g
  have:W^(n+2)*1<=W^(n+2)*(sl+k-W):=af O O;omega
 refine⟨(YE f O (by rw[o];exact a)).symm,?_,hk⟩;rw[YQ (q:=q-1) O (by rw[o];exact a),l,hk];simp
structure DO(B:Nat)(w w':World):Prop where
 os:w'.os=w.os
 tape:w'.tape=w.tape
 output:w'.output=w.output
 size:w.heap.size<=w'.heap.size
 block:∀k,k<w.heap.size->k≠B->w'.heap[k]?=w.heap[k]?
def DO.refl(B:Nat)(w:World):DO B w w:=⟨rfl,rfl,rfl,aE _,λ_ _ _=>rfl⟩
theorem DO.QBW(B:Nat)(h:Ext w w'):DO B w w':=⟨h.os,h.tape,h.output,h.size,λk hk _=>h.block k hk⟩
theorem DO.trans{a b c:World}(h:DO B a b)(k:DO B b c):DO B a c :=
 ⟨k.os.trans h.os,k.tape.trans h.tape,k.output.trans h.output,ab h.size k.size,λi hi f=>(k.block i (aA hi h.size) f).trans (h.block i hi f)⟩
def DO.ext{a b c:World}(h:DO B a b)(k:Ext b c):DO B a c:=h.trans (DO.QBW B k)
def DO.drew{a b:World}(h:DO B a b):DO B a b.drew:=⟨h.os,h.tape,h.output,h.size,h.block⟩
def DO.setCell{a b:World}(h:DO B a b)(off:Nat)(v:Value):DO B a (b.setCell ⟨B,off,none⟩ v) :=
 h.trans ⟨rfl,rfl,rfl,by simp[World.setCell],λk _ c=>ib _ _ _ _ c⟩
theorem DO.QAp{a b c:World}(h:DO B b c)(k:Ext a b)(f:a.heap.size<=B):Ext a c :=
 ⟨h.os.trans k.os,h.tape.trans k.tape,h.output.trans k.output,ab k.size h.size,λi hi=>(h.block i (aA hi k.size) O).trans (k.block i hi)⟩
def DO.cell(h:DO B w w'){p:Addr}{v:Value}(hp:p.block≠B)(a:w.cell? p=some v):w'.cell? p=some v:=by
 rw[World.cell?_of_block (w:=w) (h.block p.block (World.block_lt_of_cell? w p a) hp)];exact a
theorem DO.cells[Inhabited α]{B:Nat}{w w':World}(h:DO B w w'){q:Option Addr}{enc:E5 α}{l:List α}(hq:∀a,q=some a->a.block≠B)(hc:Cells w q enc l):Cells w' q enc l:=by
 intro i hi;obtain⟨b,off,h1,h2,h3⟩:=hc i hi;exact⟨b,off,h1,(by obtain⟨c,fr,e⟩:=id h2;exact⟨c,fr,by rw[h.block b h2.lt (show b≠B from hq ⟨b,off,none⟩ h1)];exact e⟩),h.cell (p:=⟨b,off+i,none⟩) (show b≠B from hq ⟨b,off,none⟩ h1) h3⟩
def DO.Hs{E:Nat}(h:DO B w w'){enc:E5 α}{l:List α}(hb:b≠B)(k:Y7 w b E enc l):Y7 w' b E enc l:=by
 unfold Y7;rw[h.block b k.lt hb];exact k
def Lm{pre r:List Int}{x:Int}(a:pre.length=j)(hk:ds.length=k):(pre++((ds++x::r)++post)).getD (j+k) default=x:=by
 subst a hk;simp[eK]
def Ll{pre r:List Int}{x:Int}(a:pre.length=j)(hk:ds.length=k):j+k<(pre++((ds++x::r)++post)).length:=by
 subst a hk;simp
def Nz{pre r:List Int}{x:Int}(a:pre.length=j)(hk:ds.length=k)(y:Int):(pre++((ds++x::r)++post)).set (j+k) y=pre++((ds++y::r)++post):=by
 subst a;rw[fO _ _ O,fG,aZ,fc,Gq _ _ _ _ _ hk,aZ,fc]
theorem Lr{l:List Int}(h:DG W l)(i:NZ l)(h1:W^n<=dv W l)(h2:dv W l<W^(n+1)):l.length=n+1:=by
 have a:=Kl Ju h;have f:l≠[]:=by rintro rfl;have:=pow_pos Ju n;simp at h1;omega
 have b:=Rm Ju h i f;have c:0<l.length:=List.length_pos_iff.2 f;rcases Nat.lt_trichotomy l.length (n+1)with g | g | g
 ·have:=X0 (b:=W) tF (m:=l.length) (n:=n) O;omega
 ·exact g
 have:=X0 (b:=W) tF (m:=n+1) (n:=l.length-1) O;omega
def uS(la:List Int)(y:Int)(k:Nat)(a:List Int)(r:Int):Prop :=
 a.length+k=la.length/\DG W a/\(0<=r/\r<y)/\dv W (la.drop k)=y*dv W a+r
theorem uS.step{la a:List Int}{y r:Int}(h:uS la y (k+1) a r)(ha:DG W la)(hy:0<y/\y<W):
  uS la y k (L4 r (Qm la k) y::a) (qU r (Qm la k) y):=by
 obtain⟨h1,h2,h3,h4⟩:=h;have hd:=Ji ha k;have l:0<=r*W:=aG h3.1 tF;have i:(r+1)*W<=y*W:=ai O tF;have j:=aD (r*W+Qm la k) y;have g:=aK (r*W+Qm la k) (by omega:y≠0);have f:=aH (r*W+Qm la k) hy.1;have c:0<=(r*W+Qm la k)/y:=bP O O;have b:(r*W+Qm la k)/y<W:=by
  refine bC hy.1 ?_;rw[bc]at i;rw[aj W y];omega
 refine⟨tK,DG.cons c b h2,⟨g,f⟩,?_⟩;rw[Xr O,Vi,Vi,h4];unfold L4 qU;generalize (r*W+Qm la k)/y=q at *
 generalize (r*W+Qm la k)%y=t at *
 grind
def Wj(U V:Int)(n k m:Nat)(o a:List Int):Prop :=
 o.length=m+1/\DG W o/\a.length+k=m-(n+2)+1/\DG W a/\U=V*(W^k*dv W a)+dv W o/\dv W o<W^k*V
def Wj.start{s:Nat}{A B:Int}(f:o.length=m+1)(hd:DG W o)(b:dv W o=A*p2 s)(c:s<64)(h:A<W^m)
  (g:W^(n+1)*9223372036854775808<=B*p2 s) (hm:n+2<=m):Wj (A*p2 s) (B*p2 s) n (m-(n+2)+1) m o []:=by
 refine⟨f,hd,tJ,DG.nil _,by simp[b],?_⟩;rw[b];have hp:=cJ c;have a:=YU s;have j:A*p2 s<W^m*p2 s:=Int.mul_lt_mul_of_pos_right h a;have k2:W^m*p2 s<=W^m*9223372036854775808:=af (tD HK) (aC (pow_pos Ju m));have i:W^(m-(n+2)+1)*(W^(n+1)*9223372036854775808)<=W^(m-(n+2)+1)*(B*p2 s):=af g (aC (pow_pos Ju _));have e:W^(m-(n+2)+1)*(W^(n+1)*9223372036854775808)=W^m*9223372036854775808:=by
  rw[<-Int.mul_assoc,<-fZ,show m-(n+2)+1+(n+1)=m from by omega]
 omega
theorem Wj.QAY{U V:Int}{l v:List Int}(h:Wj U V n (j+1) m o l)(f:DG W v)(c:v.length=n+2)(s:0<Qm v (n+1))(g:dv W v=V)(E:n+2<=m):
  ∃pre u post,o=pre++(u++post)/\pre.length=j/\W5 u v n/\dv W post=0/\post.length=m-(j+n+2)/\j+n+2<=m:=by
 obtain⟨h1,h2,h3,h4,h5,h6⟩:=h;have A:j+n+2<=m:=O;have B:o=o.take j++((o.drop j).take (n+3)++(o.drop j).drop (n+3)):=by rw[aW,aW]
 have z:(o.take j).length=j:=by rw[fa];omega
 have y:((o.drop j).take (n+3)).length=n+3:=by rw[fa,bh];omega
 have x:((o.drop j).drop (n+3)).length=m-(j+n+2):=by rw[bh,bh];omega
 have D:DG W (o.take j):=h2.take j;have k:DG W ((o.drop j).take (n+3)):=(h2.drop j).take _;have C:DG W ((o.drop j).drop (n+3)):=(h2.drop j).drop _;have L:dv W o=dv W (o.take j)+W^j*(dv W ((o.drop j).take (n+3))+W^(n+3)*dv W ((o.drop j).drop (n+3))):=by
  rw[Vy W o j O,Vy W (o.drop j) (n+3) (by rw[bh];omega)]
 generalize o.take j=pre at *
 generalize (o.drop j).take (n+3)=u at *
 generalize (o.drop j).drop (n+3)=post at *
 have n1:=JJ Ju D;have F:=JJ Ju k;have w:=JJ Ju C;have hp:=pow_pos Ju j;have b:=Kl Ju f;rw[c,g]at b;have K:W^(j+1)*V=W^j*(W*V):=by rw[bm];grind
 have i:dv W u+W^(n+3)*dv W post<W*V:=by
  refine Int.not_le.1 λhc=>?_;have:=af hc (aC hp);omega
 have a:dv W post=0:=by
  refine fk (Int.not_lt.1 λhc=>?_) w;have H:W^(n+3)*1<=W^(n+3)*dv W post:=af O (aC (pow_pos Ju _));have k2:W*V<=W*W^(n+2):=af O tF;have G:W^(n+3)=W*W^(n+2):=by rw[bm];grind
  omega
 refine⟨pre,u,post,B,z,⟨k,f,y,c,s,?_⟩,a,x,A⟩;rw[a]at i;rw[g];simpa using i
theorem Wj.step{U V:Int}{pre u s v g:List Int}(h:Wj U V n (j+1) m (pre++(u++post)) s)(i:pre.length=j)(D:u.length=n+3)
  (l:DG W g) (y:g.length=n+3) (A:dv W v=V) (o:0<V) (a:dv W post=0) (hq:dv W u/dv W v<W) (k:0<=dv W u) (b:dv W g=dv W u%dv W v) :
  Wj U V n j m (pre++(g++post)) (dv W u/dv W v::s):=by
 obtain⟨h1,h2,h3,h4,h5,h6⟩:=h;rw[A]at *
 have q0:0<=dv W u/V:=bP k O;have w:=aD (dv W u) V;have C:=aK (dv W u) (by omega:V≠0);have B:=aH (dv W u) o;have c:DG W pre:=h2.left;have f:DG W post:=h2.right.right;have x:=Kl Ju c;rw[i]at x;have hp:=pow_pos Ju j;rw[YD,YD,i,a]at h5 h6;refine⟨by simp at h1 ⊢;omega,c.append (l.append f),tK,DG.cons q0 hq h4,?_,?_⟩
 ·rw[YD,YD,i,a,Vi,b,h5,bm];generalize dv W u/V=q at *
  generalize dv W u%V=r at *
  have e:W^j*(V*q+r)=W^j*dv W u:=by rw[w]
  grind
 rw[YD,YD,i,a,b];have z:W^j*(dv W u%V+1)<=W^j*V:=af O O;rw[lM]at z;simp only[ep,bR];omega
def Vt(o:List Int)(s k:Nat)(ds:List Int):Prop :=
 ds.length=k/\DG W ds/\dv W ds*p2 s+Qm o 0%p2 s=dv W (o.take k)+W^k*(Qm o k%p2 s)
def Vt.start(o:List Int)(s:Nat):Vt o s 0 []:=⟨rfl,DG.nil _,tJ⟩
def Oe{x:Int}{s:Nat}(a:s<64)(hx:0<=x/\x<W):0<=x/p2 s/\x/p2 s<p2 (64-s):=by
 refine⟨bP hx.1 (aC (YU s)),bC (YU s) ?_⟩;rw[Gv a];exact hx.2
theorem Vt.step{s:Nat}(h:Vt o s k ds)(i:DG W o)(f:s<64)(g:0<s):
  Vt o s (k+1) (ds++[Qm o k/p2 s+Qm o (k+1)*p2 (64-s)%W]):=by
 obtain⟨h1,h2,h3⟩:=h;have hx:=Ji i k;have b:=Oe f hx;obtain⟨_,c⟩:=T9 (x:=Qm o (k+1)) (s:=64-s) O b.1 b.2;have hy:0<=Qm o (k+1)*p2 (64-s)%W:=aK _ tF;refine⟨by simp[h1],h2.append (DG.cons O c (DG.nil _)),?_⟩;rw[X9,h1,XS,bm];have m:Qm o (k+1)*p2 (64-s)%W=p2 (64-s)*(Qm o (k+1)%p2 s):=by
  have:=Og (x:=Qm o (k+1)) (s:=64-s) O;rw[show 64-(64-s)=s from by omega]at this;exact this
 rw[m];have l:=aD (Qm o k) (p2 s);have j:=Gv f;generalize Qm o k/p2 s=a at *
 generalize Qm o k%p2 s=b' at *
 generalize Qm o (k+1)%p2 s=c' at *
 have u:W^k*(p2 s*a+b')=W^k*Qm o k:=by rw[l]
 have n:W^k*(p2 (64-s)*p2 s)*c'=W^k*W*c':=by rw[j]
 grind
def Vt.ue(h:Vt o 0 k ds)(a:DG W o):Vt o 0 (k+1) (ds++[Qm o k/p2 0]):=by
 obtain⟨h1,h2,h3⟩:=h;have hx:=Ji a k;simp only[T8,lf,Int.ediv_one,lK,ep,bR]at *
 exact⟨by simp[h1],h2.append (DG.cons hx.1 hx.2 (DG.nil _)),by simp only[T8,lf,lK,ep,bR];rw[X9,h1,h3,XS]⟩
theorem pg{a:List Int}{s:Nat}{A B:Int}(h:Wj (A*p2 s) (B*p2 s) n 0 m o a)(y:s<64)(F:0<B)(E:B*p2 s<W^(n+2))(hm:n+2<=m)
  (hr:Vt o s (n+2) ds):dv W a=A/B/\dv W ds=A%B:=by
 obtain⟨h1,h2,h3,h4,h5,h6⟩:=h;obtain⟨M,w,c⟩:=hr;simp only[jh,fg]at h5 h6;have hp:=YU s;have N:=JJ Ju h2;have i:=Vy W o (n+2) O;have L:=JJ Ju (h2.take (n+2));have u:=JJ Ju (h2.drop (n+2));have z:dv W (o.drop (n+2))=0:=by
  refine fk (Int.not_lt.1 λhc=>?_) u;have P:W^(n+2)*1<=W^(n+2)*dv W (o.drop (n+2)):=af O (aC (pow_pos Ju _));omega
 have j:Qm o (n+2)=0:=by
  have H:=Xr (l:=o) (k:=n+2) O;rw[H,Vi]at z;have T:=Ji h2 (n+2);have K:=JJ Ju (h2.drop (n+2+1));have S:0<=W*dv W (o.drop (n+2+1)):=aG tF K;omega
 rw[j,Int.zero_emod,ep,bR]at c;rw[z,ep,bR]at i;have b:Qm o 0%p2 s=0:=by
  have R:dv W o=Qm o 0+W*dv W (o.drop 1):=by
   have:=Xr (l:=o) (k:=0) O;rw[aP]at this;rw[congrArg (dv W) this,Vi]
  have Q:dv W o=p2 s*(A-B*dv W a):=by grind
  have G:Qm o 0=p2 s*(A-B*dv W a-p2 (64-s)*dv W (o.drop 1)):=by
   have:=Gv y;have e:Qm o 0=p2 s*(A-B*dv W a)-W*dv W (o.drop 1):=O;rw[e,<-this];grind
  rw[G];exact Int.mul_emod_right _ _
 rw[b,bR,<-i]at c;have x:A=B*dv W a+dv W ds:=by
  have:p2 s*A=p2 s*(B*dv W a+dv W ds):=by rw[aj,h5,<-c];grind
  exact Int.eq_of_mul_eq_mul_left O this
 have C:dv W ds<B:=by
  refine Int.not_le.1 λhc=>?_;have:=ai hc (aC hp);omega
 have D:=JJ Ju w;have g:dv W a*B<=A:=by rw[aj];omega
 have f:A<(dv W a+1)*B:=by rw[bc,aj (dv W a)];omega
 exact⟨(YE F g f).symm,by rw[YQ g f,aj (dv W a)];omega⟩
def Uw(A B:Int)(r:Value)(w':World):Prop :=
 ∃p p' lq lr,r = .tuple #[p,p']/\SL w' p Jm lq/\SL w' p' Jm lr/\(DG W lq/\NZ lq)/\(DG W lr/\NZ lr)/\dv W lq=A/B/\dv W lr=A%B
def BM{x y:Int}(h:y<=x):0<=YF x y:=by unfold YF;split<;>(try split)<;>omega
theorem Fs(v c:Value)(la lb:List Int)(w:World)(ha:DG W la)(hb:DG W lb)(f:NZ la)(nb:NZ lb)(g:SL w v Jm la)(b:SL w c Jm lb)(a:dv W la<dv W lb):
  Calls prog 286 #[v,c] w λe w'=>Zl w (Uw (dv W la) (dv W lb)) e w':=by
 have H3:=aa (G7 a);have H0:=aa (JJ Ju ha);have HL:=aa a;clear a;go_enter func286,ntmps286
 go_wp2_with (go_at_call 279;refine(Zt _ _ _ _ _ ha hb f nb g b).mono ?_;rw[H3.out];rintro e w' ⟨rfl,hx⟩)
 go_ret2
 exact⟨_,rfl,⟨_,_,[],la,rfl,SL.nil _ _,g.ext hx,⟨DG.nil _,by simp[NZ]⟩,⟨ha,f⟩,(fP H0.out HL.out).symm,(iG H0.out HL.out).symm⟩,hx⟩
def Ac(x z:α)(k:Nat)(a:List α):(aO (k+1) z++a).set k x=aO k z++x::a:=by
 rw[fT,aZ,fO _ _ tJ];simp
set_option maxRecDepth 100000 in
set_option maxHeartbeats 800000 in
theorem L2(v:Value)(q':Option Addr)(n:Nat)(la:List Int)(y:Int)(w:World)(ha:DG W la)(hy:0<y/\y<W)(na:NZ la)(hs:SL w v Jm la)(D:SL w (.slice q' 1 n) Jm [y])(T:y<=dv W la)(h1:la.length<=100000000000):
  Calls prog 286 #[v,.slice q' 1 n] w λe w'=>Zl w (Uw (dv W la) y) e w':=by
 have H3:0<=YF (dv W la) y:=BM T;have hb:DG W [y]:=DG.cons O hy.2 (DG.nil _);have nb:NZ [y]:=by simp[NZ];omega
 have HS:=aa hs;obtain⟨q,cap,rfl,hcap,hmax,G⟩:=hs;have HA:=aa G;have HS':=aa D;obtain⟨q2,cap2,e2,V,S,F⟩:=D;obtain⟨x,oy,hq,X,o⟩:=F 0 tJ;simp only[aM,List.length_nil,bw]at e2;obtain⟨rfl,_,rfl⟩:=e2;subst hq;have o:w.cell? ⟨x,oy,none⟩=some (.int .u64 y):=by simpa[Jm]using o
 have R:=λw=>Ye la.length O w;clear G F;go_enter func286,ntmps286
 go_wp2_with (go_at_call 279;refine(Zt _ _ _ _ _ ha hb na nb HS.out HS'.out).mono ?_;rintro e z ⟨rfl,h⟩)
 go_loopw [8,7] (λi r wr=>∃(k:Nat) (f:List Int) (g:Int),k<=la.length/\i = .int .i64 ((k:Int)-1)/\r = .int .u64 g/\uS la y k f g/\Y7 wr z.heap.size 297 Jm (aO k 0++f)/\Ext z wr)
  (λi _ _=>(intOf i+1).toNat)
 case atStart=>exact⟨la.length,[],0,aE _,rfl,rfl,⟨tJ,DG.nil _,⟨lN _,hy.1⟩,tJ⟩,by rw[ff];exact Y7.made z _ Jm 0 _ _ I,(Ext.refl _).alloc _⟩
 case round =>
  obtain⟨k,f,g,hk,rfl,rfl,Z,m,hE⟩:=hrel;clear R;cases k with
  |zero =>
   obtain⟨N,i2,M,K⟩:=Z;have hW:=HK;have U:DG W [g]:=DG.cons M.1 O (DG.nil _);simp only[List.replicate_zero,ee]at m;have s:=SL.BE m la.length O O;rw[ao O,show f.length=la.length from by omega]at s;have HSL:=aa s;have HB:=aa m;have HF:Hid (dv W f=dv W la/y/\g=dv W la%y):=by
    rw[aP]at K;have g1:dv W f*y<=dv W la:=by rw[aj];omega
    have g2:dv W la<(dv W f+1)*y:=by rw[bc,aj (dv W f)];omega
    exact⟨(YE hy.1 g1 g2).symm,by rw[YQ g1 g2,aj (dv W f)];omega⟩
   clear s m N K hW;go_wp2_with fail
   refine(VV _ _ _ HSL.out).mono ?_;rintro e w' ⟨⟨v1,rfl,Q⟩,rfl⟩;go_wp2_with fail
   refine(VV _ [g] _ ⟨_,1,rfl,aE _,tF,(Y7.new _ 297 Jm [g] _ I).row.cells (Y7.new _ 297 Jm [g] _ I).RW⟩).mono ?_;rintro e w' ⟨⟨v2,rfl,P⟩,rfl⟩;go_wp2
   go_ret2
   refine⟨_,rfl,⟨_,_,_,_,rfl,Q.ext ((Ext.refl _).alloc _),P,⟨i2.Jf,Zu _⟩,⟨U.Jf,Zu _⟩,by rw[ZH];exact HF.out.1,by rw[ZH];simpa using HF.out.2⟩,(h.trans hE).alloc _⟩
  |succ k =>
   have E:k<la.length:=O;have C:=Z.step ha hy;obtain⟨N,i2,M,K⟩:=Z;obtain⟨b,off,rfl,Y,hc⟩:=HA.out k E;rw[Z8 E]at hc;simp only[Jm]at hc;have B:=h.trans hE;have hc:=B.cell hc;have l:=B.cell o;have hx:=Ji ha k;have j:k<(aO (k+1) 0++f).length:=tK;have c:=m.cell j;have hz:(aO (k+1) (0:Int)++f).getD k default=0:=by simp[eK,bW]
   rw[hz]at c;simp only[Jm]at c;have hfr:=m.frozen k;have HB:=aa m;have HST:=aa C;have e1:((k+1:Nat):Int)-1=(k:Int):=O;have hk0:(0:Int)<=(k:Int):=O;have hk1:(k:Int)<(la.length:Int):=O;have H:b≠z.heap.size:=tD<|aA Y.lt h.size
   have A:x≠z.heap.size:=tD<|aA X.lt h.size
   clear m j hz C K N;rw[e1];clear e1;go_wp2
   go_region_held3 (λw'=>w'.cell? ⟨b,off+k,none⟩=some (.int .u64 (Qm la k))/\w'.cell? ⟨x,oy,none⟩=some (.int .u64 y))
    (first | exact⟨a.cell hc,a.cell l⟩ | exact⟨Xx H (a.cell hc),Xx A (a.cell l)⟩ | go_keep)
    (first | (go_at_call 321;refine(TT _ _ _ _ M hx hy.2).mono ?_;rintro e w' ⟨rfl,a⟩;have L:=a.cell c;have hfr':=(HB.out.ext (((Ext.refl _).drewN _).trans a)).frozen k))
   have u:=(HB.out.ext (((Ext.refl _).drewN _).trans a)).set k (L4 g (Qm la k) y);rw[Ac]at u;have HBs:=aa u;clear u;go_wp2
   go_roundw
   case rel=>exact⟨k,_,_,O,by go_num,rfl,HST.out,HBs.out,(hE.trans (((Ext.refl _).drewN _).trans a)).X5 (aE _) _⟩
   case measure=>simp[intOf]
structure W6(w:World)(u v pre post:List Int)(n j B bv ov:Nat):Prop where
 hB:Y7 w B 297 Jm (pre++(u++post))
 hv:Cells w (some ⟨bv,ov,none⟩) Jm v
def W6.ext{v pre:List Int}{bv a:Nat}(h:W6 w u v pre post n j B bv a)(k:Ext w w'):W6 w' u v pre post n j B bv a :=
 ⟨h.hB.ext k,h.hv.ext k⟩
def W6.atu{v pre:List Int}{bv a:Nat}(h:W6 w u v pre post n j B bv a)(b:pre.length=j)(i:Nat)(hi:i<u.length):
  w.cell? ⟨B,j+i,none⟩=some (.int .u64 (Qm u i)):=by
 have h1:=h.hB.cell (i:=j+i) tK;have e:(pre++(u++post)).getD (j+i) default=Qm u i:=by
  rw[Z9 hi];subst b;simp only[eK];rw[List.getElem?_append_right O,fG,bW hi,fy hi];rfl
 rw[e]at h1;exact h1
theorem W6.atv{v pre:List Int}{bv a:Nat}(h:W6 w u v pre post n j B bv a)(i:Nat)(hi:i<v.length):
  w.cell? ⟨bv,a+i,none⟩=some (.int .u64 (Qm v i)):=by
 obtain⟨b,o,e,_,hc⟩:=h.hv i hi;cases e;rw[Z8 hi]at hc;exact hc
set_option maxRecDepth 100000 in
set_option maxHeartbeats 4000000 in
theorem Ct(u v pre post:List Int)(n j B capu capv bv ov:Nat)(w:World)(h:W5 u v n)(hj:pre.length=j)(hmax:n<=100000000000)
  (T:W6 w u v pre post n j B bv ov) (hne:bv≠B) :
  Calls prog 324 #[.slice (some ⟨B,j,none⟩) (n+3) capu,.slice (some ⟨bv,ov,none⟩) (n+2) capv] w λe w' =>
   (e = .returned (.int .u64 (dv W u/dv W v))/\∃u',Y7 w' B 297 Jm (pre++(u'++post))/\u'.length=n+3/\DG W u'/\dv W u'=dv W u%dv W v)/\DO B w w':=by
 have A:=aa h.lu;have F:=aa h.lv;have HJ:=aa hj;clear hj;have hw1:IntKind.i64.wrap ((n:Int)+2-1)=(n:Int)+1:=by rw[show(n:Int)+2-1=(n:Int)+1 from by omega];exact bz _ O
 have ht1:((n:Int)+1).toNat=n+1:=O;have h01:0<=(n:Int)+1:=O;have h02:(n:Int)+1<(n:Int)+2:=O;have ht2:((n:Int)+2).toNat=n+2:=O;have h03:0<=(n:Int)+2:=O;have h04:(n:Int)+2<(n:Int)+3:=O;have h05:(n:Int)+1<(n:Int)+3:=O;have hu2:=T.atu HJ.out (n+2) (tD A.out);have hu1:=T.atu HJ.out (n+1) (tD A.out);have hv1:=T.atv (n+1) (tD F.out);have du1:=Ji h.hu (n+1);have du2:=Ji h.hu (n+2);have M:=Ji h.hv (n+1);go_enter func324,ntmps324
 go_wp2_with fail
 go_quiet (fail)
 go_upto_if 30 with (fail)
 go_cut [6,7,8] λq r o wx=>∃f m V,q = .int .u64 f/\r = .int .u64 m/\o = .int .u64 V/\YY u v n f m V/\Ext w wx
 case first =>
  by_cases hge:Qm v (n+1)<=Qm u (n+2)
  ·have HG:=aa (Hp.qO h hge);have ha:=λw=>KH (Qm u (n+1)) (Qm v (n+1)) 0 du1.1 M.1 tF tF w;go_wp2
   go_quiet (fail)
   go_wp2
   go_meet
   exact⟨_,_,_,rfl,rfl,rfl,HG.out,(((Ext.refl w).drewN _).drewN _)⟩
  have HG:=aa (Hp.qP h O);have hdy:Qm v (n+1)<W:=M.2;have hdh:0<=Qm u (n+2)/\Qm u (n+2)<Qm v (n+1):=⟨du2.1,O⟩;go_wp2
  go_region_held3 (λw'=>w'.cell? ⟨B,j+(n+2),none⟩=some (.int .u64 (Qm u (n+2)))/\w'.cell? ⟨B,j+(n+1),none⟩=some (.int .u64 (Qm u (n+1)))/\w'.cell? ⟨bv,ov+(n+1),none⟩=some (.int .u64 (Qm v (n+1))))
   (first | go_keep | exact⟨hx.cell hu2,hx.cell hu1,hx.cell hv1⟩)
   (first | (go_at_call 321;refine(TT _ _ _ _ hdh du1 hdy).mono ?_;rintro e w' ⟨rfl,hx⟩))
  go_wp2
  go_meet
  exact⟨_,_,_,rfl,rfl,rfl,HG.out,((Ext.refl w).drewN _).trans hx⟩
 case rest =>
  obtain⟨q1,r1,o1,rfl,rfl,rfl,hG,z⟩:=hcut;have HM0:=aa T;clear hu2 hu1 hv1 du1 du2 T;go_upto_block 0 with (fail)
  go_cut [6] λq wx=>∃f,q = .int .u64 f/\(0<=f/\f<W)/\((f-1)*dv W v<=dv W u/\dv W u<(f+1)*dv W v)/\Ext w wx
  case first =>
   have hw2:IntKind.i64.wrap ((n:Int)+2-2)=(n:Int):=by rw[show(n:Int)+2-2=(n:Int)from by omega];exact bz _ O
   have hn0:(0:Int)<=(n:Int):=O;go_wp2_with fail
   go_loopw [6,7,8] (λq r o Z=>∃f m V,q = .int .u64 f/\r = .int .u64 m/\o = .int .u64 V/\YY u v n f m V/\Ext w Z) λ_ r o _=>(2*W-(intOf r+W*intOf o)).toNat
   case atStart=>exact⟨_,_,_,rfl,rfl,rfl,hG,z⟩
   case round =>
    clear hG z;obtain⟨f,m,V,rfl,rfl,rfl,hG,z⟩:=hrel;obtain⟨g1,g2,g3,g4,g5⟩:=id hG;have HG:=aa hG;clear hG g4 g5;by_cases ho:V=0
    ·subst ho;have T:=HM0.out.ext z;have hv0:=T.atv n (tD F.out);have hv1:=T.atv (n+1) (tD F.out);have hu0:=T.atu HJ.out n (tD A.out);have U:=Ji h.hv n;have du0:=Ji h.hu n;have e1:XG f (Qm v n)+W*X6 f (Qm v n)=f*Qm v n:=by unfold XG X6;rw[fQ];exact aD _ _
     have l0:0<=XG f (Qm v n)/\XG f (Qm v n)<W:=⟨aK _ tF,aH _ Ju⟩;have HY:Hid (f*Qm v n<=m*W+Qm u n->(f-1)*dv W v<=dv W u/\dv W u<(f+1)*dv W v):=λhy=>HG.out.fin h (λ_=>hy);have HN:Hid (m*W+Qm u n<f*Qm v n->YY u v n (f-1) (XW m (Qm v (n+1)) 0) (Xy m (Qm v (n+1)) 0)):=λhy=>HG.out.less h hy;have C:Hid (m*W+Qm u n<f*Qm v n->1<=f):=λhy=>by
      have:=(HN.out hy).1;omega
     have hnz:=h.nz;have hq2:f<=18446744073709551615:=by have:=g1.2;simp only[HK]at this;omega
     have hme:Hid (2*W-(XW m (Qm v (n+1)) 0+W*Xy m (Qm v (n+1)) 0)<2*W-(m+W*0)):=by
      have:=(HH g2 M (by decide:(0:Int)<=0/\(0:Int)<=1)).1;show _<_;omega
     have X:Hid (0<2*W-(m+W*0)):=by show _<_;omega
     have ha:=λw=>KH m (Qm v (n+1)) 0 g2.1 M.1 tF tF w;generalize D:X6 f (Qm v n)=mh at *
     generalize E:XG f (Qm v n)=ml at *
     have HMH:=aa D;have HML:=aa E;have E1:Hid (f*Qm v n=ml+W*mh):=e1.symm;clear D E e1;have cmpY:Hid (mh<m->f*Qm v n<=m*W+Qm u n):=λhh=>by
      have:W*(mh+1)<=W*m:=af O tF;rw[E1.out];grind
     have cmpY2:Hid (mh=m->ml<=Qm u n->f*Qm v n<=m*W+Qm u n):=λhh hl=>by
      rw[E1.out,hh];grind
     have Y:Hid (m<mh->m*W+Qm u n<f*Qm v n):=λhh=>by
      have:W*(m+1)<=W*mh:=af O tF;rw[E1.out];grind
     have N:Hid (mh=m->Qm u n<ml->m*W+Qm u n<f*Qm v n):=λhh hl=>by
      rw[E1.out,hh];grind
     rcases bX mh m with g | g | g
     ·have HF:=aa (HY.out (cmpY.out g));go_wp2_with (go_at_call 264;refine(KK _ _ _ g1 U).mono ?_;rw[HMH.out,HML.out];rintro e w' ⟨rfl,rfl⟩)
      go_meet
      exact⟨_,rfl,HG.out.1,HF.out,z⟩
     ·have gb:(mh==m)=true:=by simpa using g
      have gl:m<=mh:=O;have G:=aa g;clear g;by_cases hl:ml<=Qm u n
      ·have HF:=aa (HY.out (cmpY2.out G.out hl));go_wp2_with (go_at_call 264;refine(KK _ _ _ g1 U).mono ?_;rw[HMH.out,HML.out];rintro e w' ⟨rfl,rfl⟩)
       go_meet
       exact⟨_,rfl,HG.out.1,HF.out,z⟩
      have hl':Qm u n<ml:=O;have HF:=aa (HN.out (N.out G.out hl'));have C:=C.out (N.out G.out hl');clear hl;go_wp2_with (go_at_call 264;refine(KK _ _ _ g1 U).mono ?_;rw[HMH.out,HML.out];rintro e w' ⟨rfl,rfl⟩)
      go_roundw
      case rel=>exact⟨_,_,_,rfl,rfl,rfl,HF.out,z⟩
      case measure=>have:=hme.out;have:=X.out;simp only[intOf];omega
     have HF:=aa (HN.out (Y.out g));have C:=C.out (Y.out g);have gb:(mh==m)=false:=tK;go_wp2_with (go_at_call 264;refine(KK _ _ _ g1 U).mono ?_;rw[HMH.out,HML.out];rintro e w' ⟨rfl,rfl⟩)
     go_roundw
     case rel=>exact⟨_,_,_,rfl,rfl,rfl,HF.out,z⟩
     case measure=>have:=hme.out;have:=X.out;simp only[intOf];omega
    have ho1:(V==0)=false:=by simpa using ho
    have HF:=aa (HG.out.fin h λe=>absurd e ho);go_wp2
    go_meet
    exact⟨_,rfl,HG.out.1,HF.out,z⟩
  case rest =>
   clear hG z;obtain⟨f,rfl,hq,hF,z⟩:=hcut;have HF:=aa hF;have HB0:=aa (HM0.out.ext z).hB;have HU0:Hid (DO B w _):=(DO.refl B w).ext z;clear hF z M h05 h02 h04;go_wp2
   go_loopw [105,11,12] (λi b c Z=>∃(k:Nat) (ds:List Int) (bb s:Int),k<=n+2/\i = .int .i64 k/\b = .int .u64 bb/\c = .int .u64 s/\Ev u v f k ds bb s/\Y7 Z B 297 Jm (pre++((ds++u.drop k)++post))/\DO B w Z)
    (λi _ _ _=>n+2-(intOf i).toNat)
   case atStart=>exact⟨0,[],0,0,O,rfl,rfl,rfl,Ev.start u v f,HB0.out,HU0.out⟩
   case round =>
    clear HB0 HU0;obtain⟨k,ds,bb,s,hk,rfl,rfl,rfl,hI,y,S⟩:=hrel;by_cases hlt:k<n+2
    ·have hst:=hI.step h.hu h.hv hq;obtain⟨K,R,Q,H,hd5⟩:=hI;have HD1:=aa K;have hvk:=S.cell (p:=⟨bv,ov+k,none⟩) hne (HM0.out.atv k (tD F.out));rw[Xr (tD A.out)]at y;have a:=y.cell (Ll HJ.out HD1.out);rw[Lm HJ.out HD1.out]at a;simp only[Jm]at a;have hfr:=y.frozen (j+k);have l:=y.set (j+k) (Zk (Qm u k) (XW (XG f (Qm v k)) s 0) bb);rw[Nz HJ.out HD1.out,bZ ds]at l;have HBs:=aa l;have HS:=aa hst;have hy:=Ji h.hv k;have hx:=Ji h.hu k;obtain⟨_,g2,g3,g4,g5,_,_⟩:=Ny hq hy H (by decide:(0:Int)<=0/\(0:Int)<W);clear K hd5 y l hst;generalize D:X6 f (Qm v k)=mh at *
     generalize E:XG f (Qm v k)=ml at *
     have HMH:=aa D;have HML:=aa E;clear D E;have ha1:=λw=>KH ml s 0 g2.1 H.1 tF tF w;have ha2:=λw=>Bc (Qm u k) (XW ml s 0) bb hx g3 Q w;have b1:0<=mh+Xy ml s 0:=g4.1;have b2:mh+Xy ml s 0<=18446744073709551615:=by have:=g4.2;simp only[HK]at this;omega
     go_wp2_with (go_at_call 264;refine(KK _ _ _ hq hy).mono ?_;rw[HMH.out,HML.out];rintro e w' ⟨rfl,rfl⟩)
     go_roundw
     case rel=>exact⟨k+1,_,_,_,O,by go_num,rfl,rfl,HS.out,HBs.out,S.setCell _ _⟩
     case measure=>simp[intOf];omega
    have hk':k=n+2:=O;subst hk';have HI:=aa hI;obtain⟨K,R,Q,H,hd5⟩:=hI;have HD1:=aa K;rw[Xr (tD A.out)]at y;have a:=y.cell (Ll HJ.out HD1.out);rw[Lm HJ.out HD1.out]at a;simp only[Jm]at a;have hfr:=y.frozen (j+(n+2));have l:=y.set (j+(n+2)) (Zk (Qm u (n+2)) s bb);rw[Nz HJ.out HD1.out,fI (tD A.out)]at l;have HBs:=aa l;have hx:=Ji h.hu (n+2);have hs:=(D7 hx H Q).2;have ha2:=λw=>Bc (Qm u (n+2)) s bb hx H Q w;clear K hd5 y l;have hs3:=hs.2;have hs2:=hs.1;clear hs;by_cases L:Vv (Qm u (n+2)) s bb=0
    ·have hR:=zX h HI.out HF.out L;have HR:=aa hR;have hbb:(Vv (Qm u (n+2)) s bb==0)=true:=by simpa using L
     clear hR L;go_wp2
     go_ret
     exact⟨⟨congrArg (λx=>iC (.int .u64 x)) HR.out.2.1,_,HBs.out,by simp[HD1.out],HR.out.1,HR.out.2.2⟩,S.setCell _ _⟩
    have hb1:Vv (Qm u (n+2)) s bb=1:=O;have hbb:(Vv (Qm u (n+2)) s bb==0)=false:=by simpa using L
    have HB1:=aa hb1;clear L hb1;have HU1:Hid (DO B w _):=S.setCell (j+(n+2)) (Jm (Zk (Qm u (n+2)) s bb));have hdL:DG W (ds++[Zk (Qm u (n+2)) s bb]):=R.append (DG.cons hs2.1 hs2.2 (DG.nil _));go_wp2
    go_loopw [157,17] (λi c Z=>∃(k:Nat) (es:List Int) (c2:Int),k<=n+2/\i = .int .i64 k/\c = .int .u64 c2/\Mi ds v k es c2/\Y7 Z B 297 Jm (pre++((es++(ds++[Zk (Qm u (n+2)) s bb]).drop k)++post))/\DO B w Z)
     (λi _ _=>n+2-(intOf i).toNat)
    case atStart=>exact⟨0,[],0,O,rfl,rfl,⟨rfl,DG.nil _,tF,tJ⟩,HBs.out,HU1.out⟩
    case round =>
     clear HU1 HBs a hfr S ha2;obtain⟨k,es,c2,hk,rfl,rfl,hA,y,S⟩:=hrel;have HA:=aa hA;obtain⟨he1,he2,he3,he4⟩:=hA;have HE1:=aa he1;clear he1 he4;have hll:(ds++[Zk (Qm u (n+2)) s bb]).length=n+3:=by simp[HD1.out]
     rw[Xr O]at y;have HLL:=aa hll;clear hll;have a:=y.cell (Ll HJ.out HE1.out);rw[Lm HJ.out HE1.out]at a;simp only[Jm]at a;have hfr:=y.frozen (j+k);by_cases hlt:k<n+2
     ·have hvk:=S.cell (p:=⟨bv,ov+k,none⟩) hne (HM0.out.atv k (tD F.out));have P:Hid (Qm (ds++[Zk (Qm u (n+2)) s bb]) k=Qm ds k):=by
       have h1:k<ds.length:=tD HD1.out;show _=_;rw[Z9 (tD HLL.out),Z9 h1,List.getElem_append_left h1]
      rw[P.out]at a y;have l:=y.set (j+k) (XW (Qm ds k) (Qm v k) c2);rw[Nz HJ.out HE1.out,bZ es]at l;have HBs:=aa l;have HS:=aa (HA.out.step R h.hv);have hx:=Ji R k;have hy:=Ji h.hv k;have ha1:=λw=>KH (Qm ds k) (Qm v k) c2 hx.1 hy.1 he3.1 he3.2 w;have hk0:(0:Int)<=(k:Int):=O;have hk1:(k:Int)<(n:Int)+2:=O;have hk2:(k:Int)<(n:Int)+3:=O;clear l y;go_wp2
      go_region
      go_wp2
      go_roundw
      case rel=>exact⟨k+1,_,_,O,by go_num,rfl,HS.out,HBs.out.drew,(S.setCell _ _).drew⟩
      case measure=>simp[intOf];omega
     have hk':k=n+2:=O;subst hk';have hR:=dO h HI.out HF.out HB1.out HA.out;have HR:=aa hR;clear hR;have P:Hid (Qm (ds++[Zk (Qm u (n+2)) s bb]) (n+2)=Zk (Qm u (n+2)) s bb):=by
      show _=_;rw[Z9 (tD HLL.out)];simp[HD1.out]
     rw[P.out,fI (tD HLL.out)]at y;rw[P.out]at a;have l:=y.set (j+(n+2)) 0;rw[Nz HJ.out HE1.out]at l;have HBs:=aa l;have C:1<=f:=by
      have h0:=JJ Ju h.hu;have h1:=JJ Ju h.hv;have:=bP h0 h1;rw[<-HR.out.1]at this;omega
     have hq2:f<=18446744073709551615:=by have:=hq.2;simp only[HK]at this;omega
     have hwr:IntKind.u64.wrap (Zk (Qm u (n+2)) s bb+c2)=0:=by
      rw[HR.out.2.2];decide
     clear y l;go_wp2
     go_ret
     exact⟨⟨congrArg (λx=>iC (.int .u64 x)) HR.out.1,_,HBs.out,by simp[HE1.out],he2.append (DG.cons (lN _) Ju (DG.nil _)),by rw[X9,HR.out.2.1];simp⟩,S.setCell _ _⟩
theorem Cells.ME{q:Option Addr}{l:List Int}{o:Nat}{v:Value}(h:Cells w q Jm l)(hb:∀a,q=some a->a.block≠b):Cells (w.setCell ⟨b,o,none⟩ v) q Jm l:=by
 intro i hi;obtain⟨b',off,h1,h2,h3⟩:=h i hi;exact⟨b',off,h1,h2.set _ _ _,Xx (hb _ h1) h3⟩
theorem Cells.old{q:Option Addr}{l:List Int}(h:Cells w q Jm l)(c:l≠[])(b:Nat)(hb:w.heap.size<=b):∀a,q=some a->a.block≠b:=by
 intro a ha;obtain⟨b',off,h1,h2,_⟩:=h 0 (List.length_pos_iff.2 c);rw[h1]at ha;cases ha;show b'≠b;have:=h2.lt;omega
def Y7.ME{E b' o:Nat}{enc:E5 α}{l:List α}{v:Value}(h:Y7 w b E enc l)(hb:b≠b'):Y7 (w.setCell ⟨b',o,none⟩ v) b E enc l:=by
 unfold Y7;rw[ib _ _ _ _ hb];exact h
theorem Li{lb:List Int}{s:Nat}(hb:DG W lb)(j:lb.length=n+2)(g:s<64)(h1:Qm lb (n+1)*p2 s<W)(h2:9223372036854775808<=Qm lb (n+1)*p2 s):
  W^(n+1)*9223372036854775808<=dv W lb*p2 s/\dv W lb*p2 s<W^(n+2):=by
 have e:=XS lb (n+1);rw[ao (by omega:lb.length<=n+1+1)]at e;have f:=JJ Ju (hb.take (n+1));have c:=Kl Ju (hb.take (n+1));rw[fa,Nat.min_eq_left O]at c;have hp:=pow_pos Ju (n+1);have a:=YU s;have top:(Qm lb (n+1)+1)*p2 s<=W:=by
  have h:=Gv g;have:Qm lb (n+1)<p2 (64-s):=by
   refine Int.not_le.1 λhc=>?_;have:=ai hc (aC a);omega
  have:=ai (show Qm lb (n+1)+1<=p2 (64-s) by omega) (aC a);omega
 constructor
 ·have b:W^(n+1)*9223372036854775808<=W^(n+1)*(Qm lb (n+1)*p2 s):=af h2 (aC hp);have k2:0<=dv W (lb.take (n+1))*p2 s:=aG f (aC a);have i:dv W lb*p2 s=dv W (lb.take (n+1))*p2 s+W^(n+1)*(Qm lb (n+1)*p2 s):=by rw[e];grind
  omega
 have b:(dv W (lb.take (n+1))+1)*p2 s<=W^(n+1)*p2 s:=ai O (aC a);have k2:W^(n+1)*((Qm lb (n+1)+1)*p2 s)<=W^(n+1)*W:=af top (aC hp);have i:dv W lb*p2 s=dv W (lb.take (n+1))*p2 s+W^(n+1)*(Qm lb (n+1)*p2 s):=by rw[e];grind
 rw[bm W (n+1)];have h:W^(n+1)*((Qm lb (n+1)+1)*p2 s)=W^(n+1)*(Qm lb (n+1)*p2 s)+W^(n+1)*p2 s:=by grind
 rw[bc]at b;omega
set_option maxRecDepth 100000 in
set_option maxHeartbeats 2000000 in
theorem Fq(v v':Value)(la lb:List Int)(n:Nat)(w:World)(ha:DG W la)(hb:DG W lb)(na:NZ la)(nb:NZ lb)(B:SL w v Jm la)(hs':SL w v' Jm lb)(hge:dv W lb<=dv W la)
  (hn:lb.length=n+2) (h1:la.length<=10000000000) (h2:lb.length<=10000000000) :
  Calls prog 286 #[v,v'] w λe w'=>Zl w (Uw (dv W la) (dv W lb)) e w':=by
 have H3:0<=YF (dv W la) (dv W lb):=BM hge;have hm:n+2<=la.length:=by
  refine Nat.not_lt.1 λhc=>?_;have:=ZQ Nj ha hb nb O;omega
 have HS:=aa B;obtain⟨q,cap,rfl,hcap,hmax,hca⟩:=B;have HA:=aa hca;have HS':=aa hs';obtain⟨q2,cap2,rfl,Z,hmax2,Y⟩:=hs';have HB:=aa Y;obtain⟨bb,ob,rfl,hbb,z⟩:=Y (n+1) O;rw[Z8 O]at z;simp only[Jm]at z;clear hca Y;have hL:=aa hn;rw[hn]at HS' Z ⊢;have hyp:0<Qm lb (n+1)/\Qm lb (n+1)<W:=by
  have:=Ji hb (n+1);have hz:Qm lb (n+1)≠0:=by
   intro e;apply nb;rw[fw,hn];rw[Z9 O]at e;simp[hn,e]
  omega
 clear hn;have hb1:((n:Int)+2==1)=false:=tK;have e57:(n:Int)+2-1=(n:Int)+1:=O;go_enter func286,ntmps286
 go_wp2_with (first | (go_at_call 279;refine(Zt _ _ _ _ _ ha hb na nb HS.out HS'.out).mono ?_;rintro e w1 ⟨rfl,l⟩;have z:=l.cell z) | (go_at_call 322;fail))
 go_wp2_with fail
 refine(zo _ _ hyp).mono ?_;rintro e w' ⟨⟨s,rfl,B,S,hs2⟩,rfl⟩;have hbv:=Li hb hL.out B S hs2;have HBV:=aa hbv;clear S hs2 z hbv;go_wp2_with fail
 refine(Mr s _ lb _ B hb (HS'.out.ext l) O).mono ?_;rintro e N ⟨_,rfl,⟨l1,rfl,hB1,V,f,m⟩,R⟩;rw[hL.out]at V;have A:=SL.BE hB1 (n+3) O O;rw[ao O,V]at A;have HSL1:=aa A;rw[hL.out];clear A hB1 V;go_wp2_with fail
 refine(VV _ _ _ HSL1.out).mono ?_;rintro e w' ⟨⟨_,rfl,qv,capv,rfl,hcv1,hcv2,hcv⟩,rfl⟩;have U:(Jf l1).length=n+2:=Lr f.Jf (Zu _) (by rw[ZH,m];have:=HBV.out.1;have:=af (show(1:Int)<=9223372036854775808 by decide) (aC (pow_pos Ju (n+1)));omega) (by rw[ZH,m];exact HBV.out.2);have hdv:DG W (Jf l1):=f.Jf;have hnv:NZ (Jf l1):=Zu _;have HVV:Hid (dv W (Jf l1)=dv W lb*p2 s):=by show _=_;rw[ZH,m]
 generalize Jf l1=lv at *
 rw[U]at hcv1 ⊢;have HLV:=aa U;have HCV:=aa hcv;clear m f hcv U;go_wp2_with fail
 refine(Mr s _ la _ B ha ((HS.out.ext l).ext R) O).mono ?_;rintro e w3 ⟨_,rfl,⟨o0,rfl,hB3,hl3,y,hv3⟩,Q⟩;have hmk:=λw=>Ye (la.length-(n+2)+1) O w;have ec:((la.length-(n+2)+1:Nat):Int)=(la.length:Int)-((n:Int)+2)+1:=O;simp only[ec]at hmk;clear ec;have H:lv≠[]:=by intro e;have:=HLV.out;rw[e]at this;simp at this
 have L:=HCV.out.old H N.heap.size (aE _);have K:=HCV.out.old H w3.heap.size Q.size;have HSTART:Hid (Wj (dv W la*p2 s) (dv W lb*p2 s) n (la.length-(n+2)+1) la.length o0 []) :=
  Wj.start hl3 y hv3 B (Kl Ju ha) HBV.out.1 hm
 have HB3:=aa hB3;have HX2:Hid (Ext w N):=l.trans R;have HXB:=aa Q;have hsz:N.heap.size<w3.heap.size:=hB3.lt;have HN1:=aa L;have HN2:=aa K;clear hB3 hl3 y hv3 l R Q hge H3 L K;go_wp2
 go_loopw [14] (λi wr=>∃(k:Nat) (o G:List Int),k<=la.length-(n+2)+1/\i = .int .i64 ((k:Int)-1)/\Wj (dv W la*p2 s) (dv W lb*p2 s) n k la.length o G /\
   Y7 wr N.heap.size 297 Jm o/\Y7 wr w3.heap.size 297 Jm (aO k 0++G)/\Cells wr qv Jm lv/\Ext N wr)
  (λi _=>(intOf i+1).toNat)
 case atStart=>exact⟨la.length-(n+2)+1,o0,[],aE _,by go_num,HSTART.out,HB3.out.ext ((Ext.refl _).alloc _),by rw[ff];exact Y7.made w3 _ Jm 0 _ _ I,(HCV.out.ext HXB.out).ext ((Ext.refl _).alloc _),HXB.out.alloc _⟩
 case round =>
  clear HSTART hmk HB3 HCV HXB;obtain⟨k,o,G,hk,rfl,hI,a,g,F,hE⟩:=hrel;cases k with
  |zero =>
   have HI:=aa hI;obtain⟨i1,i2,i3,i4,i5,i6⟩:=hI;have HI1:=aa i1;have HI3:=aa i3;have HBU:=aa a;have HBQ:Hid (Y7 _ w3.heap.size 297 Jm G):=g;clear i1 i3 i5 i6 a g F;rw[show((0:Nat):Int)-1 = -1 from rfl];go_wp2
   go_loopw [97] (λi wx=>∃(k:Nat) (ds:List Int),k<=n+2/\i = .int .i64 k/\Vt o s k ds/\Y7 wx N.heap.size 297 Jm (ds++o.drop k)/\Y7 wx w3.heap.size 297 Jm G/\Ext N wx)
    (λi _=>n+2-(intOf i).toNat)
   case atStart=>exact⟨0,[],O,rfl,Vt.start o s,HBU.out,HBQ.out,hE⟩
   case round =>
    clear HBU HBQ hE;obtain⟨k,ds,hk,rfl,hS,a,g,hE⟩:=hrel;have HBQ:=aa g;by_cases hlt:k<n+2
    ·have HS:=aa hS;obtain⟨f,hd2,y⟩:=hS;have HD1:=aa f;have X:k+1<o.length:=tD HI1.out;rw[Xr O,Xr X]at a;have hx:=Ji i2 k;have l:=Ji i2 (k+1);have c:=a.cell (i:=k) tK;have h:=a.cell (i:=k+1) tK;have g0:(ds++Qm o k::Qm o (k+1)::iE (k+1+1) o).getD k default=Qm o k:=by rw[<-HD1.out];simp[eK]
     have g1:(ds++Qm o k::Qm o (k+1)::iE (k+1+1) o).getD (k+1) default=Qm o (k+1):=by rw[<-HD1.out];simp[eK]
     rw[g0]at c;rw[g1]at h;simp only[Jm]at c h;have hfr:=a.frozen k;have HBU:=aa a;clear f y a g g0 g1;have hk0:(0:Int)<=(k:Int):=O;have hk1:(k:Int)<(la.length:Int)+1:=O;have hk2:(k:Int)+1<(la.length:Int)+1:=O;have hk3:(0:Int)<=(k:Int)+1:=O;have hk4:IntKind.i64.wrap ((k:Int)+1)=(k:Int)+1:=bz _ O;have hk5:((k:Int)+1).toNat=k+1:=O;have hk6:IntKind.i64.wrap (64-(s:Int))=64-(s:Int):=bz _ O;have hk7:(64-(s:Int)).toNat=64-s:=O;have hk8:¬(64-(s:Int)<0):=O;by_cases hs0:0<s
     ·have S:(0:Int)<(s:Int):=O;go_wp2
      go_region
      go_wp2
      go_roundw
      case rel =>
       refine⟨k+1,ds++[Qm o k/p2 s+Qm o (k+1)*p2 (64-s)%W],O,by go_num,HS.out.step i2 B hs0,?_,(HBQ.out.ME O).ME O,((hE.X5 tJ _).X5 tJ _).drew⟩;have b:=Oe B hx;obtain⟨b1,_⟩:=T9 (x:=Qm o (k+1)) (s:=64-s) O b.1 b.2;rw[Ph,show Qm o k/2^s=Qm o k/p2 s from rfl,b1];have h1:=HBU.out.set k (Qm o k/p2 s);rw[Gq _ _ _ _ _ HD1.out]at h1;have h2:=h1.set k (Qm o k/p2 s+Qm o (k+1)*p2 (64-s)%W);rw[Gq _ _ _ _ _ HD1.out,bZ ds,<-Xr X]at h2;exact h2.drew
      case measure=>simp[intOf];omega
     have hs9:s=0:=O;have HS0:Hid (Vt o s (k+1) (ds++[Qm o k/p2 s])):=by subst hs9;exact HS.out.ue i2
     clear hs9;go_wp2
     go_roundw
     case rel =>
      refine⟨k+1,ds++[Qm o k/p2 s],O,by go_num,HS0.out,?_,HBQ.out.ME O,hE.X5 tJ _⟩;have h1:=HBU.out.set k (Qm o k/p2 s);rw[Gq _ _ _ _ _ HD1.out,bZ ds,<-Xr X]at h1;exact h1
     case measure=>simp[intOf];omega
    have hk':k=n+2:=O;subst hk';have C:0<dv W lb:=by
     have h7:=HBV.out.1;have h8:=pow_pos Ju (n+1);refine Int.not_le.1 λhc=>?_;have:=ai hc (aC (YU s));omega
    have HF:=aa (pg HI.out B C HBV.out.2 hm hS);obtain⟨f,hd2,y⟩:=hS;have hq1:G.length=la.length-(n+2)+1:=tD HI3.out;have hSq:=SL.BE HBQ.out (la.length-(n+2)+1) O O;have E:=SL.BE a (n+2) tK (by simp;have:=HI1.out;omega);rw[ao O,hq1]at hSq;rw[List.take_append_of_le_length O,ao O]at E;have hol:(ds++iE (n+2) o).length=la.length+1:=by simp;have:=HI1.out;omega
    rw[hol]at E;have HSq:=aa hSq;have HSr:=aa E;have hn0:(0:Int)<=(n:Int)+2:=O;have hn1:(n:Int)+2<=(la.length:Int)+1:=O;have hn2:((n:Int)+2).toNat=n+2:=O;clear f y a g hSq E hq1 hol;go_wp2
    go_region_held3 (λ_=>True) (trivial) (first | (go_at_call 310;(with_reducible refine(VV _ _ _ (HSq.out.ext (Ext.refl _).drew)).mono ?_);rintro e w' ⟨⟨v1,rfl,m⟩,rfl⟩) | (go_at_call 310;(with_reducible refine(VV _ _ _ (HSr.out.ext (Ext.refl _).drew)).mono ?_);rintro e w' ⟨⟨v2,rfl,hv2⟩,rfl⟩))
    go_wp2
    go_ret2
    exact⟨_,rfl,⟨v1,v2,_,_,rfl,m,hv2,⟨i4.Jf,Zu _⟩,⟨hd2.Jf,Zu _⟩,by rw[ZH];exact HF.out.1,by rw[ZH];exact HF.out.2⟩,(HX2.out.trans hE).drew⟩
  |succ k =>
   obtain⟨pre,u,post,rfl,lj,D,T,P,hjm⟩:=hI.QAY hdv HLV.out (by
    have:=Ji hdv (n+1);have hz:Qm lv (n+1)≠0:=by
     intro e;apply hnv;rw[fw,HLV.out];rw[Z9 (tD HLV.out)]at e;simp[HLV.out,e]
    omega) HVV.out hm
   have HI:=aa hI;have LJ:=aa lj;have HBQ:=aa g;have e1:((k+1:Nat):Int)-1=(k:Int):=O;have hwin:Hid (k+n+2<=la.length):=hjm;have hk3:(k:Int)+((n:Int)+2)+1<=(la.length:Int)+1:=O;obtain⟨bq,oq,rfl,_,_⟩:=F 0 (tD HLV.out);have HCV:=aa F;have HBU:=aa a;clear hI lj g hjm P F a;rw[e1];clear e1;go_wp2_with fail
   rw[show k+(n+2)+1-k=n+3 from by omega];refine(Ct u lv pre post n k _ _ _ bq oq _ D LJ.out O ⟨HBU.out,HCV.out⟩ (HN1.out _ I)).mono ?_;rintro e w4 ⟨⟨rfl,u',hB',lu',du',vu'⟩,hU⟩;have j:=hU.Hs O HBQ.out;have M:k<(aO (k+1) (0:Int)++G).length:=tK;have c:=j.cell M;have hz:(aO (k+1) (0:Int)++G).getD k default=0:=by simp[eK,bW]
   rw[hz]at c;simp only[Jm]at c;have hfr:=j.frozen k;have hBs:=j.set k (dv W u/dv W lv);rw[Ac]at hBs;have HBs:=aa hBs;have C:0<dv W lb*p2 s:=by have:=HBV.out.1;have:=pow_pos Ju (n+1);omega
   have HQL:Hid (dv W u/dv W lv<W):=by
    refine bC (by rw[HVV.out];exact C) ?_;exact D.lt
   have HST:=aa (HI.out.step LJ.out D.lu du' lu' HVV.out C T HQL.out (JJ Ju D.hu) vu');have HB':=aa hB';have HU:=aa hU;clear hBs j hB' hU hz M vu';go_wp2
   go_roundw
   case rel=>exact⟨k,_,_,O,by go_num,HST.out,HB'.out.ME O,HBs.out,(HU.out.cells HN1.out HCV.out).ME HN2.out,(HU.out.QAp hE (aE _)).X5 tK _⟩
   case measure=>simp[intOf]
theorem L3(v f:Value)(la lb:List Int)(w:World)(ha:DG W la)(hb:DG W lb)(g:NZ la)(nb:NZ lb)(h:SL w v Jm la)(a:SL w f Jm lb)(i:lb≠[])
  (h1:la.length<=10000000000) (h2:lb.length<=10000000000) :
  Calls prog 286 #[v,f] w λe w'=>Zl w (Uw (dv W la) (dv W lb)) e w':=by
 by_cases b:dv W la<dv W lb
 ·exact Fs v f la lb w ha hb g nb h a b
 match lb,hb,nb,a,i,b,h2 with
 |[y],hb,nb,a,_,b,_ =>
  have e:dv W [y]=y:=tJ;rw[e]at b ⊢;have hy:=hb.head;have k:y≠0:=by intro e;subst e;exact nb rfl
  obtain⟨j,c,m,_⟩:=id a;subst m;exact L2 v j c la y w ha ⟨O,hy.2⟩ g h a O O
 |x::y::l,hb,nb,a,_,b,h2=>exact Fq v f la (x::y::l) l.length w ha hb g nb h a O rfl h1 h2
theorem KF.sign{s:Int}{q:Option Addr}(h:KF w s q n cap z):s<0↔z<0:=by
 rcases h with ⟨_,_,_,rfl,_⟩ | ⟨b,off,l,_,_,_,_,_,_,_,_,h,hz,hb⟩
 ·exact Iff.rfl
 rcases h with rfl | rfl<;>omega
def Bx.cV(w:World)(o:Obj)(T:TypeId)(c:Array Value):Bx ((w.alloc o).alloc (.cells c T)) (w.heap.size+1) T c.toList:=by
 have:=Bx.new (w.alloc o) T c;simpa using this
def Bx.zf(w:World)(o a:Obj)(T:TypeId)(c:Array Value):Bx (((w.alloc o).alloc (.cells c T)).alloc a) (w.heap.size+1) T c.toList:=(Bx.cV w o T c).alloc a
def Bx.CD(w:World)(o a:Obj)(T:TypeId)(c:Array Value):Bx (((w.alloc o).alloc a).alloc (.cells c T)) (w.heap.size+1+1) T c.toList:=by
 have:=Bx.new ((w.alloc o).alloc a) T c;simpa using this
def Bx.Ly(w:World)(o a:Obj)(T:TypeId)(c:Array Value):Bx (((w.alloc (.cells c T)).alloc o).alloc a) w.heap.size T c.toList:=((Bx.new w T c).alloc o).alloc a
def Ext.DV{a:World}(h:Ext a w){R:Nat}(b:a.heap.size<=R)(v0 v1:Value):Ext a ((w.setCell ⟨R,0,none⟩ v0).setCell ⟨R,1,none⟩ v1):=(h.X5 b v0).X5 b v1
theorem uH(v:Value)(z:Int)(w:World)(c:Xj w v z):
  Calls prog 256 #[v] w λe w'=>Zl w (λv w'=>Xj w' v (Js z)) e w':=by
 have HV:=aa c;obtain⟨s,q,n,cap,rfl,hp⟩:=c;have HP:=aa hp;by_cases i:s<0
 ·have HI:=aa (ET (hp.sign.1 i));have HB:=aa (Bx.cV w (.cells #[.int .i64 s,.slice q n cap] 133) 133 IZ);clear hp;go_enter func256,ntmps256
  go_wp2_with fail
  refine(UB _ z _ (HV.out.ext (((Ext.refl _).alloc _).alloc _))).mono ?_;rintro e k ⟨_,rfl,⟨f,g,h,a,rfl,b⟩,hx⟩;obtain⟨j,c1,m,l⟩:=(HB.out.ext hx).two;have HB2:=aa (HB.out.ext hx);go_wp2
  refine bodyPost_ret (v:=.agg #[.int .i64 f,.slice g h a]) (by simp[results,results256,go_sem,j,c1]) I ⟨_,rfl,?_,?_⟩
  ·rw[HI.out];exact⟨_,_,_,_,rfl,b.kp ((Kp.refl _).DV HB2.out.RW Ax _ _)⟩
  exact(((((Ext.refl w).alloc _).alloc _).trans hx).X5 tJ _).X5 tJ _
 have HI:=aa (GY (z:=z) (tD hp.sign));clear hp;go_enter func256,ntmps256
 go_wp2
 refine bodyPost_ret (v:=.agg #[.int .i64 s,.slice q n cap]) (by simp[results,results256,go_sem]) I ⟨_,rfl,?_,((Ext.refl _).alloc _).alloc _⟩;rw[HI.out];exact⟨_,_,_,_,rfl,HP.out.ext (((Ext.refl _).alloc _).alloc _)⟩
def ZE{l:List Int}(hd:DG W l)(a:NZ l)(h:dv W l=Js z)(hz:sz z<=1000000000):l.length<=1000000000:=by
 have:=QBl hd a;rw[h,Nq]at this;omega
def Ab{b:Int}(h:decide (a<0)=decide (b<0)):sg (decide (a<0)) (Js a+Js b)=a+b:=by
 unfold sg Js;by_cases ha:a<0<;>by_cases hb:b<0<;>simp[ha,hb]at h ⊢<;>omega
def Aa{b:Int}(h:decide (a<0)≠decide (b<0)):sg (decide (a<0)) (Js a-Js b)=a+b:=by
 unfold sg Js;by_cases ha:a<0<;>by_cases hb:b<0<;>simp[ha,hb]at h ⊢<;>omega
def Tu{b:Int}(h:decide (a<0)≠decide (b<0)):sg (decide (b<0)) (Js b-Js a)=a+b:=by
 unfold sg Js;by_cases ha:a<0<;>by_cases hb:b<0<;>simp[ha,hb]at h ⊢<;>omega
theorem Ma(s M:Int)(q L:Option Addr)(n X cap f:Nat)(a b:Int)(w:World)(hv:KF w s q n cap a)(hv':KF w M L X f b)
  (hc:q.isNone=false\/(q.isNone=true/\L.isNone=false)\/(q.isNone=true/\L.isNone=true/\(decide (s<wrap64 (s+M))==decide (0<M))=false))
  (ha:sz a<=1000000000) (hb:sz b<=1000000000) :
  Calls prog 223 #[.agg #[.int .i64 s,.slice q n cap],.agg #[.int .i64 M,.slice L X f]] w λe w'=>Zl w (λv w'=>Xj w' v (a+b)) e w':=by
 have hn:=λw=>ar (P:=prog) w 131 297 q n cap 0 0 underlying131;have hn':=λw=>ar (P:=prog) w 131 297 L X f 0 0 underlying131;have HV:Hid (Xj w (.agg #[.int .i64 s,.slice q n cap]) a):=⟨_,_,_,_,rfl,hv⟩;have HV':Hid (Xj w (.agg #[.int .i64 M,.slice L X f]) b):=⟨_,_,_,_,rfl,hv'⟩;have HBb:=aa (Bx.zf w (.cells #[.int .i64 s,.slice q n cap] 133) (.cells IZ 133) 133 #[.int .i64 M,.slice L X f]);have HBr:=aa (Bx.CD w (.cells #[.int .i64 s,.slice q n cap] 133) (.cells #[.int .i64 M,.slice L X f] 133) 133 IZ);clear hv hv';rcases hc with h1 | ⟨h1,h2⟩ | ⟨h1,h2,h3⟩
 all_goals
  rw[h1]at hn
  try rw[h2]at hn'
  go_enter func223,ntmps223
  go_wp2_with fail
  refine(KJ _ a _ (HV.out.ext ((((Ext.refl _).alloc _).alloc _).alloc _))).mono ?_;rintro e w1 ⟨_,rfl,⟨p,la,rfl,hsa,l,H,Q⟩,hx⟩;have HB1:=aa (HBb.out.ext hx);have HR1:=aa (HBr.out.ext hx);obtain⟨V,c1,f0,f1⟩:=HB1.out.two;have hlea:=ZE l H Q ha;have HVA:=aa Q;clear Q;go_wp2_with fail
  refine(KJ _ b _ (HV'.out.ext (((((Ext.refl _).alloc _).alloc _).alloc _).trans hx))).mono ?_;rintro e w2 ⟨_,rfl,⟨p',lb,rfl,A,k,G,N⟩,u⟩;have HR2:=aa (HR1.out.ext u);have hleb:=ZE k G N hb;have HVB:=aa N;clear N V c1 f0 f1;have j:=hsa.ext u;by_cases i:decide (a<0)=decide (b<0)
  ·have hgg:(decide (a<0)==decide (b<0))=true:=by simpa using i
   have HSG:Hid (sg (decide (a<0)) (dv W la+dv W lb)=a+b):=by
    show sg _ _=_;rw[HVA.out,HVB.out];exact Ab i
   clear i;go_wp2_with fail
   refine(Un _ _ la lb _ l k j A O O).mono ?_;rintro e w3 ⟨_,rfl,⟨l3,C,F,E,h⟩,c⟩;have HV3:=aa h;clear h;go_wp2_with fail
   refine(Wa _ _ l3 _ C F E).mono ?_;rw[HV3.out,HSG.out];rintro e w4 ⟨_,rfl,⟨Y,Z,n4,m,rfl,D⟩,g⟩;have HR4:=aa ((HR2.out.ext c).ext g);obtain⟨V,c1,f0,f1⟩:=HR4.out.two;go_wp2
   refine bodyPost_ret (v:=.agg #[.int .i64 Y,.slice Z n4 m]) (by simp[results,results223,go_sem,V,c1]) I ⟨_,rfl,⟨_,_,_,_,rfl,D.kp ((Kp.refl _).DV HR4.out.RW Ax _ _)⟩,?_⟩;exact(((((((Ext.refl w).alloc _).alloc _).alloc _).trans hx).trans u).trans c |>.trans g).DV O _ _
  have hgg:(decide (a<0)==decide (b<0))=false:=by simpa using i
  have T:=BM (x:=dv W la) (y:=dv W lb);have U:=G7 (x:=dv W la) (y:=dv W lb);by_cases K:dv W lb<=dv W la
  ·have HSG:Hid (sg (decide (a<0)) (dv W la-dv W lb)=a+b):=by
    show sg _ _=_;rw[HVA.out,HVB.out];exact Aa i
   have hc3:=T K;have S:lb.length<=la.length:=by
    refine Nat.not_lt.1 λR=>?_;have:=ZQ Nj l k G R;omega
   have HGE:=aa K;clear i T U K;go_wp2_with fail
   refine(Zt _ _ la lb _ l k H G j A).mono ?_;rintro e w3 ⟨rfl,c⟩;have B:=j.ext c;have z:=A.ext c;go_wp2_with fail
   refine(D8 _ _ la lb _ l k B z O S HGE.out).mono ?_;rintro e w4 ⟨_,rfl,⟨l3,C,F,E,h⟩,g⟩;have HV3:=aa h;clear h;go_wp2_with fail
   refine(Wa _ _ l3 _ C F E).mono ?_;rw[HV3.out,HSG.out];rintro e w5 ⟨_,rfl,⟨Y,Z,n4,m,rfl,D⟩,o⟩;have HR4:=aa (((HR2.out.ext c).ext g).ext o);obtain⟨V,c1,f0,f1⟩:=HR4.out.two;go_wp2
   refine bodyPost_ret (v:=.agg #[.int .i64 Y,.slice Z n4 m]) (by simp[results,results223,go_sem,V,c1]) I ⟨_,rfl,⟨_,_,_,_,rfl,D.kp ((Kp.refl _).DV HR4.out.RW Ax _ _)⟩,?_⟩;exact(((((((Ext.refl w).alloc _).alloc _).alloc _).trans hx).trans u).trans c |>.trans g |>.trans o).DV O _ _
  have HSG:Hid (sg (decide (b<0)) (dv W lb-dv W la)=a+b):=by
   show sg _ _=_;rw[HVA.out,HVB.out];exact Tu i
  have HC3:=aa (U O);have S:la.length<=lb.length:=by
   refine Nat.not_lt.1 λR=>?_;have:=ZQ Nj k l H R;omega
  have HGE:Hid (dv W la<=dv W lb):=by show _<=_;omega
  clear i T U K;go_wp2_with fail
  refine(Zt _ _ la lb _ l k H G j A).mono ?_;rw[HC3.out];rintro e w3 ⟨rfl,c⟩;have B:=j.ext c;have z:=A.ext c;go_wp2_with fail
  refine(D8 _ _ lb la _ k l z B O S HGE.out).mono ?_;rintro e w4 ⟨_,rfl,⟨l3,C,F,E,h⟩,g⟩;have HV3:=aa h;clear h;go_wp2_with fail
  refine(Wa _ _ l3 _ C F E).mono ?_;rw[HV3.out,HSG.out];rintro e w5 ⟨_,rfl,⟨Y,Z,n4,m,rfl,D⟩,o⟩;have HR4:=aa (((HR2.out.ext c).ext g).ext o);obtain⟨V,c1,f0,f1⟩:=HR4.out.two;go_wp2
  refine bodyPost_ret (v:=.agg #[.int .i64 Y,.slice Z n4 m]) (by simp[results,results223,go_sem,V,c1]) I ⟨_,rfl,⟨_,_,_,_,rfl,D.kp ((Kp.refl _).DV HR4.out.RW Ax _ _)⟩,?_⟩;exact(((((((Ext.refl w).alloc _).alloc _).alloc _).trans hx).trans u).trans c |>.trans g |>.trans o).DV O _ _
set_option maxRecDepth 100000 in
set_option maxHeartbeats 800000 in
theorem qt(s a:Int)(w:World)(h0 : -9223372036854775808<=s)(h1:s<=9223372036854775807)(i : -9223372036854775808<=a)(h:a<=9223372036854775807)
  (b : -9223372036854775808<=s+a) (c:s+a<=9223372036854775807) :
  Calls prog 223 #[.agg #[.int .i64 s,.slice none 0 0],.agg #[.int .i64 a,.slice none 0 0]] w λe w'=>Zl w (λv w'=>Xj w' v (s+a)) e w':=by
 have j:=λw=>ar (P:=prog) w 131 297 none 0 0 0 0 underlying131;have g:(decide (s<s+a)==decide (0<a))=true:=beq_iff_eq.2 (decide_eq_decide.2 O);have f:(decide (0<a)==decide (0<a))=true:=tJ;go_enter func223,ntmps223
 go_wp2_with fail
 exact bodyPost_ret (v:=.agg #[.int .i64 (s+a),.slice none 0 0]) (by simp[results,results223,go_sem]) I ⟨_,rfl,Xj.small _ b c,((((Ext.refl _).alloc _).alloc _).alloc _)⟩
theorem Ca(v j:Value)(a b:Int)(w:World)(l:Xj w v a)(g:Xj w j b)(ha:sz a<=1000000000)(hb:sz b<=1000000000):
  Calls prog 223 #[v,j] w λe w'=>Zl w (λv w'=>Xj w' v (a+b)) e w':=by
 obtain⟨s,q,n,cap,rfl,hp⟩:=l;obtain⟨f,m,o,k,rfl,c⟩:=g;rcases hp.isNone with ⟨rfl,rfl,rfl,rfl,h0,h1⟩ | ⟨_,_,rfl⟩
 ·rcases c.isNone with ⟨rfl,rfl,rfl,rfl,i,h⟩ | ⟨_,_,rfl⟩
  ·by_cases hl : -9223372036854775808<=s+f/\s+f<=9223372036854775807
   ·exact qt s f w h0 h1 i h hl.1 hl.2
   refine Ma _ _ _ _ _ _ _ _ _ _ w hp c (.inr (.inr ⟨rfl,rfl,?_⟩)) ha hb;simp only[wrap64,beq_eq_false_iff_ne,ne_eq,decide_eq_decide];omega
  exact Ma _ _ _ _ _ _ _ _ _ _ w hp c (.inr (.inl ⟨rfl,rfl⟩)) ha hb
 exact Ma _ _ _ _ _ _ _ _ _ _ w hp c (.inl rfl) ha hb
theorem OY(v H:Value)(a b:Int)(w:World)(K:Xj w v a)(x:Xj w H b)(ha:sz a<=1000000000)(hb:sz b<=1000000000):
  Calls prog 298 #[v,H] w λe w'=>Zl w (λv w'=>Xj w' v (a-b)) e w':=by
 have HV:=aa K;have HV':=aa x;obtain⟨s,q,n,cap,rfl,hp⟩:=K;obtain⟨m,o,u,g,rfl,B⟩:=x;have HBa:=aa (Bx.Ly w (.cells #[.int .i64 m,.slice o u g] 133) (.cells IZ 133) 133 #[.int .i64 s,.slice q n cap]);have HBb:=aa (Bx.zf w (.cells #[.int .i64 s,.slice q n cap] 133) (.cells IZ 133) 133 #[.int .i64 m,.slice o u g]);have HBr:=aa (Bx.CD w (.cells #[.int .i64 s,.slice q n cap] 133) (.cells #[.int .i64 m,.slice o u g] 133) 133 IZ);have C:sz (-b)<=1000000000:=by rw[Vm];exact hb
 have HE:Hid (a + -b=a-b):=(Int.sub_eq_add_neg).symm;clear hp B;go_enter func298,ntmps298
 go_wp2_with fail
 have h:Ext w (((w.alloc (.cells #[.int .i64 s,.slice q n cap] 133)).alloc (.cells #[.int .i64 m,.slice o u g] 133)).alloc (.cells IZ 133)):=(((Ext.refl w).alloc _).alloc _).alloc _;generalize L:(((w.alloc (.cells #[.int .i64 s,.slice q n cap] 133)).alloc (.cells #[.int .i64 m,.slice o u g] 133)).alloc (.cells IZ 133))=W0 at *
 have HW:=aa L;clear L;obtain⟨l,k,G,F⟩:=HBa.out.two;obtain⟨j,i,E,D⟩:=HBb.out.two;clear G F E D;go_region_held3 (λw'=>w'.cell? ⟨w.heap.size,0,none⟩=some (.int .i64 s)/\w'.cell? ⟨w.heap.size,1,none⟩=some (.slice q n cap)/\w'.cell? ⟨w.heap.size+1,0,none⟩=some (.int .i64 m)/\w'.cell? ⟨w.heap.size+1,1,none⟩=some (.slice o u g))
  (first | exact⟨c.cell l,c.cell k,c.cell j,c.cell i⟩ | exact⟨f.cell (c.cell l),f.cell (c.cell k),f.cell (c.cell j),f.cell (c.cell i)⟩ | exact⟨Xx O (Xx O (f.cell (c.cell l))),Xx O (Xx O (f.cell (c.cell k))),Xx O (Xx O (f.cell (c.cell j))),Xx O (Xx O (f.cell (c.cell i)))⟩ | go_keep)
  (first
   |(go_at_call 262;refine(UB _ b _ (HV'.out.ext (h.drew))).mono ?_;rintro e T ⟨_,rfl,⟨U,V,n1,M,rfl,A⟩,c⟩)
   |(go_at_call 223;refine(Ca _ _ a (-b) _ (HV.out.ext ((h.drew).trans c)) ⟨_,_,_,_,rfl,A⟩ ha C).mono ?_;rw[HE.out];rintro e S ⟨_,rfl,⟨N,P,Q,y,rfl,z⟩,f⟩;obtain⟨R,c1,Y,X⟩:=((HBr.out.drew.ext c).ext f).two))
 go_wp2
 refine bodyPost_ret (v:=.agg #[.int .i64 N,.slice P Q y]) (by simp[results,results298,go_sem,R,c1]) I ⟨_,rfl,⟨_,_,_,_,rfl,z.kp ((Kp.refl _).DV ((HBr.out.drew.ext c).ext f).RW Ax _ _)⟩,?_⟩;exact((h.drew.trans c).trans f).DV O _ _
def F2(a b:Int):Dm (a-b)=YF a b:=(y6 a b).symm
theorem qd(s a:Int)(w:World):
  Calls prog 236 #[.agg #[.int .i64 s,.slice none 0 0],.agg #[.int .i64 a,.slice none 0 0]] w λe w'=>e = .returned (.int .i64 (YF s a))/\Ext w w':=by
 have b:=λw=>ar (P:=prog) w 131 297 none 0 0 0 0 underlying131;rcases bX s a with g | g | g
 ·have HC:=aa (G7 g);go_enter func236,ntmps236
  go_wp2
  go_ret
  exact⟨by rw[HC.out];rfl,((Ext.refl _).alloc _).alloc _⟩
 ·subst g;have HC:=aa (SE s);go_enter func236,ntmps236
  go_wp2
  go_ret
  exact⟨by rw[HC.out];rfl,((Ext.refl _).alloc _).alloc _⟩
 have HC:=aa (Em g);have c:¬s<a:=O;go_enter func236,ntmps236
 go_wp2
 go_ret
 exact⟨by rw[HC.out];rfl,((Ext.refl _).alloc _).alloc _⟩
theorem CV(v o:Value)(a b:Int)(w:World)(s j:Int)(q f:Option Addr)(n i cap c:Nat)(u:KF w s q n cap a)(g:KF w j f i c b)(A:v = .agg #[.int .i64 s,.slice q n cap])(z:o = .agg #[.int .i64 j,.slice f i c])
  (hc:q.isNone=false\/(q.isNone=true/\f.isNone=false)) (ha:sz a<=1000000000) (hb:sz b<=1000000000) :
  Calls prog 236 #[v,o] w λe w'=>e = .returned (.int .i64 (YF a b))/\Ext w w':=by
 subst A z;have y:=λw=>ar (P:=prog) w 131 297 q n cap 0 0 underlying131;have m:=λw=>ar (P:=prog) w 131 297 f i c 0 0 underlying131;have HV:Hid (Xj w (.agg #[.int .i64 s,.slice q n cap]) a):=⟨_,_,_,_,rfl,u⟩;have HV':Hid (Xj w (.agg #[.int .i64 j,.slice f i c]) b):=⟨_,_,_,_,rfl,g⟩;have HC:=aa (F2 a b);clear u g;rcases hc with h1 | ⟨h1,h2⟩
 all_goals
  rw[h1]at y
  try rw[h2]at m
  go_enter func236,ntmps236
  go_wp2_with fail
  refine(OY _ _ a b _ (HV.out.ext (((Ext.refl _).alloc _).alloc _)) (HV'.out.ext (((Ext.refl _).alloc _).alloc _)) ha hb).mono ?_;rintro e C ⟨_,rfl,⟨D,E,n1,x,rfl,h⟩,l⟩;have HP1:=aa h;clear h;go_wp2_with fail
  refine(AX _ (a-b) _ ⟨_,_,_,_,rfl,HP1.out⟩).mono ?_;rw[HC.out];rintro e B ⟨rfl,k⟩;go_wp2
  go_ret
  exact⟨rfl,((((Ext.refl _).alloc _).alloc _).trans l).trans k⟩
theorem p4(v i:Value)(a b:Int)(w:World)(l:Xj w v a)(f:Xj w i b)(ha:sz a<=1000000000)(hb:sz b<=1000000000):
  Calls prog 236 #[v,i] w λe w'=>e = .returned (.int .i64 (YF a b))/\Ext w w':=by
 obtain⟨s,q,n,cap,h,hp⟩:=l;obtain⟨k,u,x,j,g,c⟩:=f;rcases hp.isNone with ⟨rfl,rfl,rfl,rfl,h0,h1⟩ | ⟨_,_,rfl⟩
 ·rcases c.isNone with ⟨rfl,rfl,rfl,rfl,o,m⟩ | ⟨_,_,rfl⟩
  ·subst h g;exact qd s k w
  exact CV _ _ _ _ w _ _ _ _ _ _ _ _ hp c h g (.inr ⟨rfl,rfl⟩) ha hb
 exact CV _ _ _ _ w _ _ _ _ _ _ _ _ hp c h g (.inl rfl) ha hb
def N1{s:Int}(h0 : -9223372036854775808<=s)(h1:s<=9223372036854775807):0<=Js s/\Js s<W:=by
 rw[VQ];have:=HK;omega
def zW{x y:Int}:XG x y+W*X6 x y=x*y:=by unfold XG X6;rw[fQ];exact aD _ _
def zU{s t:Int}:(if(decide (s<0)==decide (t<0))then Js s*Js t else -(Js s*Js t))=s*t:=by
 unfold Js;by_cases h1:s<0<;>by_cases h2:t<0<;>simp[h1,h2,bM,lL]
def xK{s t:Int}:sg (!(decide (s<0)==decide (t<0))) (Js s*Js t)=s*t:=by
 rw[<-zU (s:=s) (t:=t)];unfold sg;cases (decide (s<0)==decide (t<0))<;>simp
set_option maxRecDepth 100000 in
set_option maxHeartbeats 2000000 in
theorem qI(s a:Int)(w:World)(h0 : -9223372036854775808<=s)(h1:s<=9223372036854775807)(j : -9223372036854775808<=a)(i:a<=9223372036854775807)
  (n:Js s*Js a<=9223372036854775807) :
  Calls prog 183 #[.agg #[.int .i64 s,.slice none 0 0],.agg #[.int .i64 a,.slice none 0 0]] w λe w'=>Zl w (λv w'=>Xj w' v (s*a)) e w':=by
 have m:=λw=>ar (P:=prog) w 131 297 none 0 0 0 0 underlying131;have b1:=N1 h0 h1;have b2:=N1 j i;have f:0<=Js s*Js a:=aG b1.1 b2.1;have h:X6 (Js s) (Js a)=0:=fP f (tD HK);have g:XG (Js s) (Js a)=Js s*Js a:=iG f (tD HK);have HHI:=aa h;have HLO:=aa g;have HSG:=aa (zU (s:=s) (t:=a));have HBa:=aa (Bx.Ly w (.cells #[.int .i64 a,.slice none 0 0] 133) (.cells IZ 133) 133 #[.int .i64 s,.slice none 0 0]);have HBb:=aa (Bx.zf w (.cells #[.int .i64 s,.slice none 0 0] 133) (.cells IZ 133) 133 #[.int .i64 a,.slice none 0 0]);generalize Js s*Js a=p at *
 clear h g;by_cases c:(decide (s<0)==decide (a<0))=true
 all_goals
  have b:=HSG.out
  first | rw[if_pos c]at b | rw[if_neg c]at b
  have HS2:=aa b
  try have l:(decide (s<0)==decide (a<0))=false:=by simpa using c
  clear b;go_enter func183,ntmps183
  go_wp2_with fail
  go_region_held3 (λw'=>w'.cell? ⟨w.heap.size,0,none⟩=some (.int .i64 s)/\w'.cell? ⟨w.heap.size+1,0,none⟩=some (.int .i64 a))
   (first | go_keep)
   (first
    |(go_at_call 265;(with_reducible refine(H6 s _ h0 h1).mono ?_);rintro e k ⟨rfl,rfl⟩)
    |(go_at_call 265;(with_reducible refine(H6 a _ j i).mono ?_);rintro e k ⟨rfl,rfl⟩)
    |(go_at_call 264;refine(KK _ _ _ b1 b2).mono ?_;rw[HHI.out,HLO.out];rintro e k ⟨rfl,rfl⟩))
  go_wp2
  first
   |exact bodyPost_ret (v:=.agg #[.int .i64 (-p),.slice none 0 0]) (by simp[results,results183,go_sem]) I ⟨_,rfl,by rw[<-HS2.out];exact Xj.small _ O O,(((Ext.refl w).alloc _).alloc _).alloc _ |>.drewN 1⟩
   |exact bodyPost_ret (v:=.agg #[.int .i64 p,.slice none 0 0]) (by simp[results,results183,go_sem]) I ⟨_,rfl,by rw[<-HS2.out];exact Xj.small _ O O,(((Ext.refl w).alloc _).alloc _).alloc _ |>.drewN 1⟩
set_option maxRecDepth 100000 in
set_option maxHeartbeats 4000000 in
theorem TD(s k:Int)(q f:Option Addr)(n j cap c:Nat)(a b:Int)(w:World)(N:KF w s q n cap a)(u:KF w k f j c b)
  (hc:q.isNone=false\/(q.isNone=true/\f.isNone=false)) (ha:sz a<=1000000000) (hb:sz b<=1000000000) :
  Calls prog 183 #[.agg #[.int .i64 s,.slice q n cap],.agg #[.int .i64 k,.slice f j c]] w λe w'=>Zl w (λv w'=>Xj w' v (a*b)) e w':=by
 have Z:=λw=>ar (P:=prog) w 131 297 q n cap 0 0 underlying131;have K:=λw=>ar (P:=prog) w 131 297 f j c 0 0 underlying131;have HV:Hid (Xj w (.agg #[.int .i64 s,.slice q n cap]) a):=⟨_,_,_,_,rfl,N⟩;have HV':Hid (Xj w (.agg #[.int .i64 k,.slice f j c]) b):=⟨_,_,_,_,rfl,u⟩;have HBb:=aa (Bx.zf w (.cells #[.int .i64 s,.slice q n cap] 133) (.cells IZ 133) 133 #[.int .i64 k,.slice f j c]);have HBr:=aa (Bx.CD w (.cells #[.int .i64 s,.slice q n cap] 133) (.cells #[.int .i64 k,.slice f j c] 133) 133 IZ);clear N u;rcases hc with h1 | ⟨h1,h2⟩
 all_goals
  rw[h1]at Z
  try rw[h2]at K
  go_enter func183,ntmps183
  go_wp2_with fail
  refine(KJ _ a _ (HV.out.ext ((((Ext.refl _).alloc _).alloc _).alloc _))).mono ?_;rintro e w1 ⟨_,rfl,⟨p,la,rfl,C,z,G,i⟩,hx⟩;have HB1:=aa (HBb.out.ext hx);have HR1:=aa (HBr.out.ext hx);obtain⟨M,c1,T,S⟩:=HB1.out.two;have R:=ZE z G i ha;have HVA:=aa i;clear i;go_wp2_with fail
  refine(KJ _ b _ (HV'.out.ext (((((Ext.refl _).alloc _).alloc _).alloc _).trans hx))).mono ?_;rintro e w2 ⟨_,rfl,⟨p',lb,rfl,B,y,F,h⟩,g⟩;have HR2:=aa (HR1.out.ext g);have Q:=ZE y F h hb;have HVB:=aa h;clear h M c1 T S;have x:=C.ext g;have HSG:Hid (sg (!(decide (a<0)==decide (b<0))) (dv W la*dv W lb)=a*b):=by
   show sg _ _=_;rw[HVA.out,HVB.out];exact xK
  go_wp2_with fail
  refine(EM _ _ la lb _ z y x B O O).mono ?_;rintro e w3 ⟨_,rfl,⟨Y,D,L,H,o⟩,m⟩;have HV3:=aa o;clear o;go_wp2_with fail
  refine(Wa _ _ Y _ D L H).mono ?_;rw[HV3.out,HSG.out];rintro e w4 ⟨_,rfl,⟨U,V,X,A,rfl,E⟩,l⟩;have HR4:=aa ((HR2.out.ext m).ext l);obtain⟨M,c1,T,S⟩:=HR4.out.two;go_wp2
  refine bodyPost_ret (v:=.agg #[.int .i64 U,.slice V X A]) (by simp[results,results183,go_sem,M,c1]) I ⟨_,rfl,⟨_,_,_,_,rfl,E.kp ((Kp.refl _).DV HR4.out.RW Ax _ _)⟩,?_⟩;exact(((((((Ext.refl w).alloc _).alloc _).alloc _).trans hx).trans g).trans m |>.trans l).DV O _ _
set_option maxRecDepth 100000 in
set_option maxHeartbeats 4000000 in
theorem zV(s a:Int)(w:World)(h0 : -9223372036854775808<=s)(h1:s<=9223372036854775807)(k : -9223372036854775808<=a)(j:a<=9223372036854775807)
  (hl:9223372036854775808<=Js s*Js a) (ha:sz s<=1000000000) (hb:sz a<=1000000000) :
  Calls prog 183 #[.agg #[.int .i64 s,.slice none 0 0],.agg #[.int .i64 a,.slice none 0 0]] w λe w'=>Zl w (λv w'=>Xj w' v (s*a)) e w':=by
 have hn:=λw=>ar (P:=prog) w 131 297 none 0 0 0 0 underlying131;have b1:=N1 h0 h1;have b2:=N1 k j;have HV:=aa (Xj.small w h0 h1);have HV':=aa (Xj.small w k j);have HBa:=aa (Bx.Ly w (.cells #[.int .i64 a,.slice none 0 0] 133) (.cells IZ 133) 133 #[.int .i64 s,.slice none 0 0]);have HBb:=aa (Bx.zf w (.cells #[.int .i64 s,.slice none 0 0] 133) (.cells IZ 133) 133 #[.int .i64 a,.slice none 0 0]);have HBr:=aa (Bx.CD w (.cells #[.int .i64 s,.slice none 0 0] 133) (.cells #[.int .i64 a,.slice none 0 0] 133) 133 IZ);have B:=zW (x:=Js s) (y:=Js a);have u:X6 (Js s) (Js a)≠0\/9223372036854775808<=XG (Js s) (Js a):=by
  by_cases h:X6 (Js s) (Js a)=0
  ·right;rw[h]at B;omega
  exact .inl h
 have i:(X6 (Js s) (Js a)==0)=false\/((X6 (Js s) (Js a)==0)=true/\9223372036854775808<=XG (Js s) (Js a)):=by
  by_cases h:X6 (Js s) (Js a)=0
  ·exact .inr ⟨by simpa using h,by rcases u with g | g;exact absurd h g;exact g⟩
  exact .inl (by simpa using h)
 clear u B hl;generalize A:X6 (Js s) (Js a)=mh at *
 generalize z:XG (Js s) (Js a)=ml at *
 have HMH:=aa A;have HML:=aa z;clear A z;rcases i with g1 | ⟨g1,g2⟩
 all_goals
  go_enter func183,ntmps183
  go_wp2_with fail
  go_region_held3 (λw'=>w'.cell? ⟨w.heap.size,0,none⟩=some (.int .i64 s)/\w'.cell? ⟨w.heap.size+1,0,none⟩=some (.int .i64 a))
   (first | go_keep)
   (first
    |(go_at_call 265;(with_reducible refine(H6 s _ h0 h1).mono ?_);rintro e F ⟨rfl,rfl⟩)
    |(go_at_call 265;(with_reducible refine(H6 a _ k j).mono ?_);rintro e F ⟨rfl,rfl⟩)
    |(go_at_call 264;refine(KK _ _ _ b1 b2).mono ?_;rw[HMH.out,HML.out];rintro e F ⟨rfl,rfl⟩))
  go_wp2_with fail
  refine(KJ _ s _ (HV.out.ext (((((Ext.refl _).alloc _).alloc _).alloc _).drew))).mono ?_;rintro e F ⟨_,rfl,⟨p,la,rfl,H,D,N,f⟩,hx⟩;have HB1:=aa (HBb.out.drew.ext hx);have HR1:=aa (HBr.out.drew.ext hx);obtain⟨S,c1,X,V⟩:=HB1.out.two;have U:=ZE D N f ha;have HVA:=aa f;clear f;go_wp2_with fail
  refine(KJ _ a _ (HV'.out.ext ((((((Ext.refl _).alloc _).alloc _).alloc _).drew).trans hx))).mono ?_;rintro e w2 ⟨_,rfl,⟨p',lb,rfl,G,C,M,c⟩,b⟩;have HR2:=aa (HR1.out.ext b);have T:=ZE C M c hb;have HVB:=aa c;clear c S c1 X V;have o:=H.ext b;have HSG:Hid (sg (!(decide (s<0)==decide (a<0))) (dv W la*dv W lb)=s*a):=by
   show sg _ _=_;rw[HVA.out,HVB.out];exact xK
  go_wp2_with fail
  refine(EM _ _ la lb _ D C o G O O).mono ?_;rintro e w3 ⟨_,rfl,⟨l3,K,R,Q,n⟩,m⟩;have HV3:=aa n;clear n;go_wp2_with fail
  refine(Wa _ _ l3 _ K R Q).mono ?_;rw[HV3.out,HSG.out];rintro e w4 ⟨_,rfl,⟨Y,Z,n4,E,rfl,L⟩,l⟩;have HR4:=aa ((HR2.out.ext m).ext l);obtain⟨S,c1,X,V⟩:=HR4.out.two;go_wp2
  refine bodyPost_ret (v:=.agg #[.int .i64 Y,.slice Z n4 E]) (by simp[results,results183,go_sem,S,c1]) I ⟨_,rfl,⟨_,_,_,_,rfl,L.kp ((Kp.refl _).DV HR4.out.RW Ax _ _)⟩,?_⟩;exact((((((((Ext.refl w).alloc _).alloc _).alloc _).drew).trans hx).trans b).trans m |>.trans l).DV O _ _
theorem dN(v j:Value)(a b:Int)(w:World)(l:Xj w v a)(i:Xj w j b)(ha:sz a<=1000000000)(hb:sz b<=1000000000):
  Calls prog 183 #[v,j] w λe w'=>Zl w (λv w'=>Xj w' v (a*b)) e w':=by
 obtain⟨s,q,n,cap,rfl,hp⟩:=l;obtain⟨h,o,u,k,rfl,c⟩:=i;rcases hp.isNone with ⟨rfl,rfl,rfl,rfl,h0,h1⟩ | ⟨_,_,rfl⟩
 ·rcases c.isNone with ⟨rfl,rfl,rfl,rfl,g,f⟩ | ⟨_,_,rfl⟩
  ·by_cases m:Js s*Js h<=9223372036854775807
   ·exact qI s h w h0 h1 g f m
   exact zV s h w h0 h1 g f O ha hb
  exact TD _ _ _ _ _ _ _ _ _ _ w hp c (.inr ⟨rfl,rfl⟩) ha hb
 exact TD _ _ _ _ _ _ _ _ _ _ w hp c (.inl rfl) ha hb
theorem QBX(n:Int)(w:World)(h0 : -9223372036854775808<=n)(h1:n<=9223372036854775807):
  Calls prog 184 #[.int .i64 n] w λe w'=>Zl w (λv w'=>Xj w' v n) e w':=by
 go_enter func184,ntmps184
 go_wp2
 exact bodyPost_ret (v:=.agg #[.int .i64 n,.slice none 0 0]) (by simp[results,results184,go_sem]) I ⟨_,rfl,Xj.small _ h0 h1,(Ext.refl _).alloc _⟩
def I8{b:Int}(hb:0<b):(0<=a.tmod b->a.tdiv b=a/b/\a.tmod b=a%b)/\(a.tmod b<0->a.tdiv b-1=a/b/\a.tmod b+b=a%b):=by
 have h1:=Int.mul_tdiv_add_tmod a b;have h3:a.tmod b<b/\-b<a.tmod b:=by
  have:=bU a hb;refine⟨this,?_⟩;have h:=bU (-a) hb;rw[ji]at h;omega
 generalize a.tdiv b=q at *
 generalize a.tmod b=r at *
 constructor
 ·intro hr;have f:q*b<=a:=by rw[aj];omega
  have c:a<(q+1)*b:=by rw[bc,aj q];omega
  exact⟨(YE hb f c).symm,by rw[YQ f c,aj q];omega⟩
 intro hr;have f:(q-1)*b<=a:=by rw[eL,aj q];omega
 have c:a<(q-1+1)*b:=by rw[show q-1+1=q from by omega,aj];omega
 exact⟨(YE hb f c).symm,by rw[YQ f c,eL,aj q];omega⟩
def QF0(a b:Int)(r:Value)(w':World):Prop:=∃v v',r = .tuple #[v,v']/\Xj w' v (a/b)/\Xj w' v' (a%b)
set_option maxRecDepth 100000 in
set_option maxHeartbeats 400000 in
theorem Ug(s b:Int)(w:World)(h0 : -9223372036854775807<=s)(h1:s<=9223372036854775807)(f:0<b)(n:b<=9223372036854775807):
  Calls prog 257 #[.agg #[.int .i64 s,.slice none 0 0],.agg #[.int .i64 b,.slice none 0 0]] w λe w'=>Zl w (QF0 s b) e w':=by
 have u:=λw=>ar (P:=prog) w 131 297 none 0 0 0 0 underlying131;have hm:(s != -9223372036854775808)=true:=tK;have hz:(b==0)=false:=tK;have i:=I8 (a:=s) f;have HT:=aa i;have m : -9223372036854775807<=s.tdiv b/\s.tdiv b<=9223372036854775807:=by
  have h:=Int.natAbs_tdiv_le_natAbs s b;omega
 have l : -9223372036854775807<=s.tmod b/\s.tmod b<=9223372036854775807:=by
  have:=bU s f;have h:=bU (-s) f;rw[ji]at h;omega
 clear i;have c:Hid (-9223372036854775808<=s/b/\s/b<=9223372036854775807/\0<=s%b/\s%b<=9223372036854775807):=by
  have g:=aK s (by omega:b≠0);have o:=aH s f;by_cases hr:0<=s.tmod b
  ·have:=HT.out.1 hr;exact⟨O,O,g,O⟩
  have:=HT.out.2 O;exact⟨O,O,g,O⟩
 by_cases hr:0<=s.tmod b
 ·have HR:=aa (HT.out.1 hr);go_enter func257,ntmps257
  go_wp2_with fail
  go_quiet (fail)
  go_wp2
  refine bodyPost_ret (v:=.tuple #[.agg #[.int .i64 (s.tdiv b),.slice none 0 0],.agg #[.int .i64 (s.tmod b),.slice none 0 0]]) (by simp[results,results257,go_sem]) I ⟨_,rfl,⟨_,_,rfl,?_,?_⟩,?_⟩
  ·rw[HR.out.1];exact Xj.small _ c.out.1 c.out.2.1
  ·rw[HR.out.2];exact Xj.small _ (tD c.out) c.out.2.2.2
  repeat (first | (with_reducible exact Ext.refl _) | (with_reducible refine Ext.drewN ?_ _) | (with_reducible refine Ext.drew ?_) | (with_reducible refine Ext.alloc ?_ _) | (with_reducible refine Ext.X5 ?_ (by dsimp only;omega) _))
 have HR:=aa (HT.out.2 O);have k:IntKind.i64.wrap (s.tdiv b-1)=s.tdiv b-1:=bz _ (by have:=HR.out;have:=c.out;omega);have j:IntKind.i64.wrap (s.tmod b+b)=s.tmod b+b:=bz _ O;have hr:s.tmod b<0:=O;go_enter func257,ntmps257
 go_wp2_with fail
 go_quiet (fail)
 go_wp2
 go_quiet (fail)
 go_wp2
 refine bodyPost_ret (v:=.tuple #[.agg #[.int .i64 (s.tdiv b-1),.slice none 0 0],.agg #[.int .i64 (s.tmod b+b),.slice none 0 0]]) (by simp[results,results257,go_sem]) I ⟨_,rfl,⟨_,_,rfl,?_,?_⟩,?_⟩
 ·rw[HR.out.1];exact Xj.small _ c.out.1 c.out.2.1
 ·rw[HR.out.2];exact Xj.small _ (tD c.out) c.out.2.2.2
 repeat (first | (with_reducible exact Ext.refl _) | (with_reducible refine Ext.drewN ?_ _) | (with_reducible refine Ext.drew ?_) | (with_reducible refine Ext.alloc ?_ _) | (with_reducible refine Ext.X5 ?_ (by dsimp only;omega) _))
def R3(F:Gs)(w:World):Prop:=∀b c T,F b=some (c,T)->∃fr,w.heap[b]?=some (.cells c T fr)
def Fits.r(h:Fits F w):R3 F w:=h.row
theorem R3.le(h:R3 F' w)(k:Gs.le F F'):R3 F w:=λb c T e=>h b c T (k b _ e)
def IG(w w':World):Prop:=∀(b:Nat) (c:Array Value) (fr:Nat×Nat),w.heap[b]?=some (.cells c 297 fr)->∃fr',w'.heap[b]?=some (.cells c 297 fr')
theorem Ve.Ha(h:IG w w'){b:Nat}(hb:Ve w b 297):Ve w' b 297:=by
 obtain⟨c,fr,e⟩:=hb;obtain⟨a,f⟩:=h b c fr e;exact⟨c,a,f⟩
theorem Cells.Ha(h:IG w w'){q:Option Addr}{l:List Int}(hc:Cells w q Jm l):Cells w' q Jm l:=by
 intro i hi;obtain⟨b,off,e,ht,a⟩:=hc i hi;refine⟨b,off,e,Ve.Ha h ht,?_⟩;obtain⟨c,fr,hb⟩:=ht;obtain⟨g,f⟩:=h b c fr hb;have k:w.cell? ⟨b,off+i,none⟩=c[off+i]?:=by simp[eG,hb]
 have j:w'.cell? ⟨b,off+i,none⟩=c[off+i]?:=by simp[eG,f]
 rw[j,<-k];exact a
theorem SL.Ha(h:IG w w'){v:Value}{l:List Int}(a:SL w v Jm l):SL w' v Jm l:=by
 obtain⟨q,cap,h1,h2,h3,h4⟩:=a;exact⟨q,cap,h1,h2,h3,h4.Ha h⟩
theorem KF.Ha(h:IG w w'){s:Int}{q:Option Addr}{n cap:Nat}{z:Int}(a:KF w s q n cap z):KF w' s q n cap z:=by
 rcases a with a | ⟨b,off,l,h1,h2,h3,h4,h5,h6⟩
 ·exact .inl a
 exact .inr ⟨b,off,l,h1,h2,h3,h4,h5.Ha h,h6⟩
theorem QU.lift{f:FuncId}{val:γ->Value}{R:γ->World->Prop}(pr:γ->Prop)(he:Enters P f)(hF:Fits F w)
  (h:Calls P f args.toArray w λe w'=>∃c,e = .returned (val c)/\R c w'/\pr c/\Ext w w') (hR:∀c w' w'',IG w' w''->R c w'->R c w''):QU P f args w F val (λc F=>(∀w,R3 F w->R c w)/\pr c):=by
 refine⟨he,h.mono ?_⟩;rintro e w' ⟨c,rfl,hr,hpr,hx⟩;refine⟨c,λb=>if b<w.heap.size then F b else match w'.heap[b]? with | some (.cells c T _)=>if T=297 then some (c,297)else none | _=>none,rfl,.of hx,?_,?_,⟨?_,?_⟩,?_⟩
 ·intro b x hb;show(if b<w.heap.size then _ else _)=_;rw[if_pos (hF.lt hb)];exact hb
 ·intro b hb;show(if b<w.heap.size then _ else _)=_;rw[if_pos hb]
 ·intro b c T hb;by_cases hlt:b<w.heap.size
  ·rw[if_pos hlt]at hb;obtain⟨fr,e⟩:=hF.row b c T hb;exact⟨fr,by rw[hx.block b hlt];exact e⟩
  rw[if_neg hlt]at hb;split at hb
  ·rename_i c' T' fr heq;split at hb
   ·rename_i hT;cases hb;exact⟨fr,by rw[heq,hT]⟩
   cases hb
  cases hb
 ·intro b c fr hb;show(if b<w.heap.size then _ else _)=_;by_cases hlt:b<w.heap.size
  ·rw[if_pos hlt];rw[hx.block b hlt]at hb;exact hF.all b c fr hb
  rw[if_neg hlt,hb];simp
 intro F'' hle;refine⟨λw'' hw''=>?_,hpr⟩;refine hR c w' w'' (λb c fr hb=>?_) hr;refine hw'' b c _ (hle b _ ?_);show(if b<w.heap.size then _ else _)=_;by_cases hlt:b<w.heap.size
 ·rw[if_pos hlt];rw[hx.block b hlt]at hb;exact hF.all b c fr hb
 rw[if_neg hlt,hb];simp
structure Bg where
 s:Int
 q:Option Addr
 n:Nat
 cap:Nat
variable{g g':Bg}
@[reducible] def Bg.v (g:Bg):Value:=.agg #[.int .i64 g.s,.slice g.q g.n g.cap]
def XH(F:Gs)(g:Bg)(z:Int):Prop:=∀w,R3 F w->KF w g.s g.q g.n g.cap z
theorem XH.le(h:XH F g z)(k:Gs.le F F'):XH F' g z:=λw a=>h w (a.le k)
def XH.at(h:XH F g z){w:World}(a:Fits F w):Xj w g.v z:=⟨_,_,_,_,rfl,h w a.r⟩
def XH.small(F:Gs){z:Int}(h0 : -9223372036854775808<=z)(h1:z<=9223372036854775807):XH F ⟨z,none,0,0⟩ z:=λ_ _=>.inl ⟨rfl,rfl,rfl,rfl,h0,h1⟩
abbrev ZP(P:Program)(f:FuncId)(args:List Value)(w:World)(F:Gs)(z:Int):Prop:=QU P f args w F Bg.v λg F=>XH F g z
theorem ZP.of{f:FuncId}(he:Enters P f)(k:Fits F w)(h:Calls P f args.toArray w λe w'=>Zl w (λv w'=>Xj w' v z) e w'):ZP P f args w F z:=by
 refine(QU.lift (λ_=>True) he k (val:=Bg.v) (R:=λ(g:Bg) w=>KF w g.s g.q g.n g.cap z) (h.mono ?_) λc w' b i hr=>hr.Ha i).imp λc F' j=>⟨c,rfl,λF'' a=>XH.le j.1 a⟩;rintro e w' ⟨v,rfl,⟨s,q,n,cap,rfl,hp⟩,hx⟩;exact⟨⟨s,q,n,cap⟩,rfl,hp,trivial,hx⟩
abbrev Qf[Dr](P:Program)(f:FuncId)(args:List Value)(w:World)(F:Gs)(v:Value):Prop:=QU P f args w F (λ(_:Unit)=>v) λ_ _=>True
theorem Qf.of{f:FuncId}{v:Value}(he:Enters P f)(a:Fits F w)(h:Calls P f args.toArray w λe w'=>e = .returned v/\Ext w w'):Qf P f args w F v:=by
 have:=QU.lift (γ:=Unit) (val:=λ_=>v) (R:=λ_ _=>True) (λ_=>True) he a (h.mono λe w' ⟨h1,h2⟩=>⟨(),h1,trivial,trivial,h2⟩) (λ_ _ _ _ h=>h);exact this.imp λc F' _=>⟨(),rfl,λ_ _=>trivial⟩
section
variable{w:World}{F:Gs}{g g':Bg}{a b:Int}
theorem P2(b:Fits F w)(h:XH F g a):Qf prog 181 [g.v] w F (.int .i64 (Dm a)) :=
 .of (enters_of func181 tH rfl) b (AX _ a w (h.at b))
theorem RO(b:Fits F w)(h:XH F g a):ZP prog 262 [g.v] w F (-a) :=
 .of (enters_of func262 tH rfl) b (UB _ a w (h.at b))
theorem QAN(b:Fits F w)(h:XH F g a):ZP prog 256 [g.v] w F (Js a) :=
 .of (enters_of func256 tH rfl) b (uH _ a w (h.at b))
theorem CZ(c:Fits F w)(h:XH F g a)(f:XH F g' b)(ha:sz a<=1000000000)(hb:sz b<=1000000000):ZP prog 223 [g.v,g'.v] w F (a+b) :=
 .of (enters_of func223 tH rfl) c (Ca _ _ a b w (h.at c) (f.at c) ha hb)
theorem QEc(c:Fits F w)(h:XH F g a)(f:XH F g' b)(ha:sz a<=1000000000)(hb:sz b<=1000000000):ZP prog 298 [g.v,g'.v] w F (a-b) :=
 .of (enters_of func298 tH rfl) c (OY _ _ a b w (h.at c) (f.at c) ha hb)
theorem DI(c:Fits F w)(h:XH F g a)(f:XH F g' b)(ha:sz a<=1000000000)(hb:sz b<=1000000000):ZP prog 183 [g.v,g'.v] w F (a*b) :=
 .of (enters_of func183 tH rfl) c (dN _ _ a b w (h.at c) (f.at c) ha hb)
theorem QFV(c:Fits F w)(h:XH F g a)(f:XH F g' b)(ha:sz a<=1000000000)(hb:sz b<=1000000000):Qf prog 236 [g.v,g'.v] w F (.int .i64 (YF a b)) :=
 .of (enters_of func236 tH rfl) c (p4 _ _ a b w (h.at c) (f.at c) ha hb)
theorem Ar{n:Int}(a:Fits F w)(h0 : -9223372036854775808<=n)(h1:n<=9223372036854775807):ZP prog 184 [.int .i64 n] w F n :=
 .of (enters_of func184 tH rfl) a (QBX n w h0 h1)
end
structure Sr where
 q:Option Addr
 n:Nat
 cap:Nat
@[reducible] def Sr.v (r:Sr):Value:=.slice r.q r.n r.cap
def Vf(F:Gs)(r:Sr)(l:List Int):Prop:=(∀w,R3 F w->SL w r.v Jm l)/\DG W l/\NZ l
theorem Vf.le{r:Sr}{l:List Int}(h:Vf F r l)(k:Gs.le F F'):Vf F' r l:=⟨λw a=>h.1 w (a.le k),h.2⟩
section
variable{w:World}{F:Gs}{g g':Bg}{a b:Int}
theorem Nu(j:Fits F w)(h:XH F g a):QU prog 266 [g.v] w F (λ(c:Sr×List Int)=>.tuple #[.bool (decide (a<0)),.slice c.1.q c.1.n c.1.cap]) (λc F=>Vf F c.1 c.2/\dv W c.2=Js a):=by
 refine(QU.lift (val:=λ(c:Sr×List Int)=>.tuple #[.bool (decide (a<0)),.slice c.1.q c.1.n c.1.cap]) (R:=λc w=>SL w c.1.v Jm c.2) (λc=>DG W c.2/\NZ c.2/\dv W c.2=Js a)
  (enters_of func266 tH rfl) j ((KJ _ a w (h.at j)).mono ?_) λc w' k f hr=>hr.Ha f).imp λc F' b=>⟨c,rfl,λF'' i=>⟨Vf.le ⟨b.1,b.2.1,b.2.2.1⟩ i,b.2.2.2⟩⟩
 rintro e w' ⟨_,rfl,⟨p,l,rfl,f,h1,h2,h3⟩,hx⟩;obtain⟨q,cap,rfl,hq⟩:=f;exact⟨(⟨q,l.length,cap⟩,l),rfl,⟨q,cap,rfl,hq⟩,⟨h1,h2,h3⟩,hx⟩
theorem zk{neg:Bool}{r:Sr}{l:List Int}(a:Fits F w)(h:Vf F r l):ZP prog 267 [.bool neg,r.v] w F (sg neg (dv W l)) :=
 .of (enters_of func267 tH rfl) a (Wa neg _ l w (h.1 w a.r) h.2.1 h.2.2)
theorem Ft{r r':Sr}{la lb:List Int}(x:Fits F w)(h:Vf F r la)(y:Vf F r' lb)(u:lb≠[])(h1:la.length<=10000000000)(h2:lb.length<=10000000000):
  QU prog 286 [r.v,r'.v] w F (λ(c:(Sr×List Int)×(Sr×List Int))=>.tuple #[.slice c.1.1.q c.1.1.n c.1.1.cap,.slice c.2.1.q c.2.1.n c.2.1.cap])
   (λc F=>(Vf F c.1.1 c.1.2/\Vf F c.2.1 c.2.2)/\dv W c.1.2=dv W la/dv W lb/\dv W c.2.2=dv W la%dv W lb):=by
 refine(QU.lift (val:=λ(c:(Sr×List Int)×(Sr×List Int))=>.tuple #[.slice c.1.1.q c.1.1.n c.1.1.cap,.slice c.2.1.q c.2.1.n c.2.1.cap]) (R:=λc w=>SL w c.1.1.v Jm c.1.2/\SL w c.2.1.v Jm c.2.2)
  (λc=>(DG W c.1.2/\NZ c.1.2)/\(DG W c.2.2/\NZ c.2.2)/\dv W c.1.2=dv W la/dv W lb/\dv W c.2.2=dv W la%dv W lb)
  (enters_of func286 tH rfl) x ((L3 _ _ la lb w h.2.1 y.2.1 h.2.2 y.2.2 (h.1 w x.r) (y.1 w x.r) u h1 h2).mono ?_) λc w' C B hr=>⟨hr.1.Ha B,hr.2.Ha B⟩).imp
  λc F' f=>⟨c,rfl,λF'' b=>⟨⟨Vf.le ⟨λw g=>(f.1 w g).1,f.2.1⟩ b,Vf.le ⟨λw g=>(f.1 w g).2,f.2.2.1⟩ b⟩,f.2.2.2⟩⟩
 rintro e w' ⟨_,rfl,⟨pq,D,lq,A,rfl,l,k,s,o,j,i⟩,hx⟩;obtain⟨q,cap,rfl,hq⟩:=l;obtain⟨z,a,rfl,m⟩:=k;exact⟨((⟨q,lq.length,cap⟩,lq),(⟨z,A.length,a⟩,A)),rfl,⟨⟨q,cap,rfl,hq⟩,⟨z,a,rfl,m⟩⟩,⟨s,o,j,i⟩,hx⟩
end
def Ef{b:Int}(hb:0<b):
  (0<=sg (decide (a<0)) (Js a%b)->sg (decide (a<0)) (Js a/b)=a/b/\sg (decide (a<0)) (Js a%b)=a%b) /\
  (sg (decide (a<0)) (Js a%b)<0->sg (decide (a<0)) (Js a/b)-1=a/b/\sg (decide (a<0)) (Js a%b)+b=a%b):=by
 have j:=aD (Js a) b;have l:=aK (Js a) (by omega:b≠0);have k:=aH (Js a) hb;generalize Js a/b=q at *
 generalize hr:Js a%b=r at *
 by_cases h:a<0
 ·rw[ET h]at j;have i:sg (decide (a<0)) r = -r:=by simp[sg,h]
  have g:sg (decide (a<0)) q = -q:=by simp[sg,h]
  rw[i,g];constructor
  ·intro h0;have:r=0:=O;have f : -q*b<=a:=by rw[bM,aj];omega
   have c:a<(-q+1)*b:=by rw[bc,bM,aj q];omega
   exact⟨(YE hb f c).symm,by rw[YQ f c,bM,aj q];omega⟩
  intro h0;have f:(-q-1)*b<=a:=by rw[eL,bM,aj q];omega
  have c:a<(-q-1+1)*b:=by rw[show -q-1+1 = -q from by omega,bM,aj];omega
  exact⟨(YE hb f c).symm,by rw[YQ f c,eL,bM,aj q];omega⟩
 rw[GY O]at j hr;have i:sg (decide (a<0)) r=r:=by simp[sg,h]
 have g:sg (decide (a<0)) q=q:=by simp[sg,h]
 rw[i,g];constructor
 ·intro _;have f:q*b<=a:=by rw[aj];omega
  have c:a<(q+1)*b:=by rw[bc,aj q];omega
  exact⟨(YE hb f c).symm,by rw[YQ f c,aj q];omega⟩
 intro h0;omega
def KG(x:Int):Dm x<0↔x<0:=by unfold Dm;split<;>(try split)<;>omega
def AQ(a b:Int):sz (Js a/b)<=sz a:=by
 rw[<-Nq a];apply KX;exact bp _ _
def ud(n:Bool)(x:Int):sz (sg n x)=sz x:=by unfold sg;split<;>simp[Vm]
def OX{b:Int}(hb:0<b):sz (a%b)<=sz b:=by
 apply KX;have:=aK a (by omega:b≠0);have:=aH a hb;omega
abbrev Th(P:Program)(f:FuncId)(args:List Value)(w:World)(F:Gs)(y z:Int):Prop:=QU P f args w F (λ(c:Bg×Bg)=>.tuple #[c.1.v,c.2.v]) λc F=>XH F c.1 y/\XH F c.2 z
theorem L1{b:Int}(u:Fits F w)(h:XH F g a)(h':XH F g' b)(P:0<b)(S:sz a<=1000000000)(K:sz b<=1000000000)(N:g.q.isNone=true->g'.q.isNone=true->(g.s != -9223372036854775808)=false):
  Th prog 257 [g.v,g'.v] w F (a/b) (a%b):=by
 refine QU.intro (G:=λF=>XH F g a/\XH F g' b) func257 rfl tH rfl rfl u (λF' U=>⟨h.le U,h'.le U⟩)<|QG<|QB ?_
 refine Qp I (vs:=[_,_]) I (λb2=>?_);refine Qp I (vs:=[_,_]) I (λb3=>?_);refine Qc Ym (λb4=>?_);refine Qc Ym (λb5=>?_);refine wY<|QG ?_
 refine Ew 28 (.bool false) ?_ ?_
 ·refine QB<|QA (QH I Bm Vj)<|QA (Qe I Vj .u3 (.skip .h1))<|QA (GS I I KB)<|wW I ?_
  refine Qn (t:=19) rfl (λH=>?_) λH=>?_
  ·refine QL I I<|QA (QH I Bm Vj)<|QL I I<|QA (Qe I Vj .u2 (.skip .h1))<|QL I I<|QA (GS I I KB)<|wB 2 I ?_
   refine Qn (t:=24) rfl (λE=>?_) λE=>?_
   ·refine QL I I<|QA (QH I Eb JK)<|QL I I<|QA (Qe I JK .u3 .h1)<|wB 4 I ?_
    exact ZU (exd 15 rfl rfl) (congrArg (λb=>some (ah b)) (N H E)) we tM
   refine wB 5 I ?_;exact ZU (exd 15 rfl rfl) rfl we tM
  refine wB 10 I ?_;exact ZU (exd 14 rfl rfl) rfl we tM
 refine Yj I ?_
 ·refine wC 4 I<|QA (wN I Qi .u3) ?_
  refine QI I (λw F u ⟨ha,hb⟩=>Nu u (by assumption)) (λc53=>?_);rcases c53 with ⟨v53,l53⟩;dsimp only;refine JQ _ (λw F u ⟨⟨ha,hb⟩,⟨n,i⟩⟩=>bG n.2 i) (λC=>?_);have hl53:=ZE C.1.1 C.1.2 C.2 S;refine wD 9 I<|QA (wN I Qi .u2) ?_
  refine QI I (λw F u ⟨⟨ha,hb⟩,⟨n,i⟩⟩=>Nu u (by assumption)) (λc58=>?_);rcases c58 with ⟨v58,Y⟩;dsimp only;refine JQ _ (λw F u ⟨⟨⟨ha,hb⟩,⟨n,i⟩⟩,⟨o,j⟩⟩=>bG o.2 j) (λB=>?_);have hl58:=ZE B.1.1 B.1.2 B.2 K;have T:Y≠[]:=by rintro rfl;have:=B.2;rw[GY O]at this;simp at this;omega
  refine wD 11 I ?_;refine QI I (λw F u ⟨⟨⟨ha,hb⟩,⟨n,i⟩⟩,⟨o,j⟩⟩=>Ft u (by assumption) (by assumption) T O O) (λc64=>?_);rcases c64 with ⟨⟨v64,X⟩,v64_,R⟩;dsimp only;refine JQ _ (λw F u ⟨⟨⟨⟨ha,hb⟩,⟨n,i⟩⟩,⟨o,j⟩⟩,⟨⟨z,m⟩,l⟩⟩=>bG z.2 (bG m.2 l)) (λx=>?_);rw[C.2,B.2,GY (show 0<=b by omega)]at x;refine wD 11 I ?_;refine QI I (λw F u ⟨⟨⟨⟨ha,hb⟩,⟨n,i⟩⟩,⟨o,j⟩⟩,⟨⟨z,m⟩,l⟩⟩=>zk u (by assumption)) (λg69=>?_);refine wB 2 I ?_;refine QI I (λw F u ⟨⟨⟨⟨⟨ha,hb⟩,⟨n,i⟩⟩,⟨o,j⟩⟩,⟨⟨z,m⟩,l⟩⟩,y⟩=>zk u (by assumption)) (λg72=>?_);refine Qc Ym (λb14=>?_);refine Qc Ym (λb15=>?_);refine QW (vs:=[_,_]) I I I Qi I .u1 .h2 wm<|QW (vs:=[_,_]) I I I Qi I .here .h2 wm<|wD 5 I<|QA (wN I Qi .here) ?_
  refine QI I (λw F u ⟨⟨⟨⟨⟨⟨ha,hb⟩,⟨n,i⟩⟩,⟨o,j⟩⟩,⟨⟨z,m⟩,l⟩⟩,y⟩,A⟩=>P2 u (by assumption)) (λ_=>?_);refine wD 3 I ?_;have L:sz (sg (decide (a<0)) (dv W R))<=1000000000:=by rw[ud,x.2.2.2];exact ab (OX P) K
  have M:sz (sg (decide (a<0)) (dv W X))<=1000000000:=by rw[ud,x.2.2.1];exact ab (AQ a b) S
  refine QQ I (λhc=>?_) λhc=>?_
  ·refine Jq 6 we mixed tE tE ?_;simp only[aT,bB,aU,aP];refine QK (wN I Qi .u1) ?_;refine QR I (λ_ _ f k=>Ar f O O) (λg77=>?_);refine QR I (λw F u ⟨⟨⟨⟨⟨⟨⟨⟨ha,hb⟩,⟨n,i⟩⟩,⟨o,j⟩⟩,⟨⟨z,m⟩,l⟩⟩,y⟩,A⟩,_⟩,V⟩=>QEc u (by assumption) (by assumption) M tF) (λg78=>?_);refine QK (wN I Qi .here)<|QK (wN I Qi .u4) ?_
   refine QR I (λw F u ⟨⟨⟨⟨⟨⟨⟨⟨⟨ha,hb⟩,⟨n,i⟩⟩,⟨o,j⟩⟩,⟨⟨z,m⟩,l⟩⟩,y⟩,A⟩,_⟩,V⟩,D⟩=>CZ u (by assumption) hb L K) (λZ=>?_);refine ZS<|QW (vs:=[_,_]) I I I Qi I .u1 .h2 wm<|QW (vs:=[_,_]) I I I Qi I .here .h2 wm<|wY<|QG<|JG (.cons_cons _ (.cons_cons _ (.cons _ (.cons _ tP)))) mixed tE<|QK (wN I Qi .u1)<|QK (wN I Qi .here)<|JV (vs:=[_,_]) I I I Qi I .u3 (.cons_cons _ (.cons_cons _ (.cons _ tP))) tM .h2 wm<|JV (vs:=[_,_]) I I I Qi I .u2 (.cons_cons _ (.cons_cons _ (.cons _ tP))) tM .h2 wm<|Q7<|QC<|QX ?_
   exact Je (⟨g78,Z⟩) I (.JX (c:=[_,_]) I Qi .u3 (.JX (c:=[_,_]) I Qi .u2 .nil)) I λF ⟨⟨⟨⟨⟨⟨⟨⟨⟨⟨ha,hb⟩,⟨n,i⟩⟩,⟨o,j⟩⟩,⟨⟨z,m⟩,l⟩⟩,y⟩,A⟩,_⟩,V⟩,D⟩,Q⟩=>(by have hd:=(Ef P).2 (by rw[<-x.2.2.2];exact(KG _).1 (by simpa using hc));rw[x.2.2.1]at D;rw[x.2.2.2]at Q;rw[hd.1]at D;rw[hd.2]at Q;exact⟨D,Q⟩)
  refine wC 3 I<|JG (.cons_cons _ (.cons_cons _ (.cons _ (.cons _ tP)))) mixed tE<|QK (wN I Qi .u1)<|QK (wN I Qi .here)<|JV (vs:=[_,_]) I I I Qi I .u3 (.cons_cons _ (.cons_cons _ (.cons _ tP))) tM .h2 wm<|JV (vs:=[_,_]) I I I Qi I .u2 (.cons_cons _ (.cons_cons _ (.cons _ tP))) tM .h2 wm<|Q7<|QC<|QX ?_
  exact Je (⟨g69,g72⟩) I (.JX (c:=[_,_]) I Qi .u3 (.JX (c:=[_,_]) I Qi .u2 .nil)) I λF ⟨⟨⟨⟨⟨⟨⟨ha,hb⟩,⟨n,i⟩⟩,⟨o,j⟩⟩,⟨⟨z,m⟩,l⟩⟩,y⟩,A⟩,_⟩=>(by have hd:=(Ef P).1 (by rw[<-x.2.2.2];have:=mt (KG _).2 (by simpa using hc);omega);rw[x.2.2.1]at y;rw[x.2.2.2]at A;rw[hd.1]at y;rw[hd.2]at A;exact⟨y,A⟩)
theorem Eg{b:Int}(m:Fits F w)(h:XH F g a)(E:XH F g' b)(j:0<b)(y:sz a<=1000000000)(x:sz b<=1000000000):
  Th prog 257 [g.v,g'.v] w F (a/b) (a%b):=by
 by_cases f:g.q.isNone=true/\g'.q.isNone=true/\(g.s != -9223372036854775808)=true
 ·obtain⟨s,q,n,cap⟩:=g;obtain⟨o,V,X,G⟩:=g';have hp:=h w m.r;have C:=E w m.r;obtain⟨h1,h2,h3⟩:=f;dsimp only at *
  rcases hp.isNone with ⟨rfl,rfl,rfl,rfl,Y,Q⟩ | ⟨_,_,rfl⟩
  ·rcases C.isNone with ⟨rfl,rfl,rfl,rfl,S,u⟩ | ⟨_,_,rfl⟩
   ·have hm:s≠-9223372036854775808:=by simpa using h3
    refine(QU.lift (val:=λ(c:Bg×Bg)=>.tuple #[c.1.v,c.2.v]) (R:=λc w=>KF w c.1.s c.1.q c.1.n c.1.cap (s/o)/\KF w c.2.s c.2.q c.2.n c.2.cap (s%o)) (λ_=>True) (enters_of func257 tH rfl) m
     ((Ug s o w O Q j u).mono ?_) λc w' H f hr=>⟨hr.1.Ha f,hr.2.Ha f⟩).imp λc F' D=>⟨c,rfl,λF'' i=>⟨XH.le (λw z=>(D.1 w z).1) i,XH.le (λw z=>(D.1 w z).2) i⟩⟩
    rintro e w' ⟨_,rfl,⟨v,U,rfl,⟨L,N,n1,l,rfl,B⟩,⟨K,M,P,k,rfl,A⟩⟩,hx⟩;exact⟨(⟨L,N,n1,l⟩,⟨K,M,P,k⟩),rfl,⟨B,A⟩,trivial,hx⟩
   cases h2
  cases h1
 refine L1 m h E j y x λh1 h2=>?_;cases T:(g.s != -9223372036854775808)with
 |false=>rfl
 |true=>exact absurd ⟨h1,h2,T⟩ f
theorem MK{b:Int}(h:b ∣ a): -a / -b=a/b:=by
 obtain⟨c,rfl⟩:=h;by_cases hb:b=0
 ·subst hb;simp
 rw[Int.ediv_neg,<-lL,fC _ hb,fC _ hb];omega
theorem u9{b:Int}(i:Fits F w)(h:XH F g a)(A:XH F g' b)(y:b≠0)(hd:b ∣ a)(m:sz a<=1000000000)(l:sz b<=1000000000):
  ZP prog 263 [g.v,g'.v] w F (a/b):=by
 refine QU.intro (G:=λF=>XH F g a/\XH F g' b) func263 rfl tH rfl rfl i (λF' n=>⟨h.le n,A.le n⟩)<|QG<|QB ?_
 refine Qp I (vs:=[_,_]) I (λb2=>?_);refine Qp I (vs:=[_,_]) I (λb3=>?_);refine Qc Ym (λb4=>?_);refine wD 5 I<|QA (wN I Qi .u1) ?_
 refine QI I (λw F i ⟨ha,hb⟩=>P2 i (by assumption)) (λ_=>?_);refine wD 3 I ?_;refine QQ I (λhc=>?_) λhc=>?_
 ·refine Jq 4 we mixed tE tE ?_;simp only[aT,bB,aU,aP];refine QK (wN I Qi .u2) ?_;refine QR I (λw F i ⟨⟨ha,hb⟩,_⟩=>RO i (by assumption)) (λC=>?_);refine QK (wN I Qi .u1) ?_;refine QR I (λw F i ⟨⟨⟨ha,hb⟩,_⟩,h11⟩=>RO i (by assumption)) (λB=>?_);refine ZS<|QW (vs:=[_,_]) I I I Qi I .u2 .h2 wm<|QW (vs:=[_,_]) I I I Qi I .u1 .h2 wm<|wY<|wa<|QA (wN I Qi .u2)<|QA (wN I Qi .u1) ?_
  refine QI I (λ_ _ f k=>Eg f k.1.2 k.2 (by have:=(KG b).1 (by simpa using hc);omega) (by rw[Vm];exact m) (by rw[Vm];exact l)) (λj=>?_);rcases j with ⟨u,s⟩;dsimp only;refine wB 3 I ?_;refine Qc Ym (λE=>?_);refine Qc Ym (λD=>?_);refine QW (vs:=[_,_]) I I I Qi I .u1 .h2 wm<|QW (vs:=[_,_]) I I I Qi I .here .h2 wm<|wY<|wa<|QA (wN I Qi .u1)<|QW (vs:=[_,_]) I I I Qi I .u2 .h2 wm<|wY<|QX ?_
  exact QP (_) rfl (.JX (c:=[_,_]) I Qi .u2 .nil) rfl λF ⟨⟨⟨⟨⟨ha,hb⟩,_⟩,h11⟩,z⟩,⟨o,x⟩⟩=>(by rw[show -a / -b=a/b from MK hd]at o;exact o)
 refine wC 4 I<|QA (wN I Qi .u2)<|QA (wN I Qi .u1) ?_
 refine QI I (λ_ _ f k=>Eg f k.1.1 k.1.2 (by have:=mt (KG b).2 (by simpa using hc);omega) m l) (λj=>?_);rcases j with ⟨u,s⟩;dsimp only;refine wB 3 I ?_;refine Qc Ym (λE=>?_);refine Qc Ym (λD=>?_);refine QW (vs:=[_,_]) I I I Qi I .u1 .h2 wm<|QW (vs:=[_,_]) I I I Qi I .here .h2 wm<|wY<|wa<|QA (wN I Qi .u1)<|QW (vs:=[_,_]) I I I Qi I .u2 .h2 wm<|wY<|QX ?_
 exact QP (_) rfl (.JX (c:=[_,_]) I Qi .u2 .nil) rfl λF h9=>h9.2.1
def xI(x:Int)(h:Dm x≠0):x≠0:=by rintro rfl;exact h rfl
def QA0(x:Int)(h:Dm x=0):x=0:=by unfold Dm at h;split at h<;>(try split at h)<;>omega
structure QFz(a b:Int) where
 x:Int
 y:Int
 gx:Bg
 gy:Bg
 hx:0<=x
 hy:0<=y
 hg:bY x y=bY a b
 sx:sz x<=1000000000
 sy:sz y<=1000000000
theorem cm{b:Int}(j:Fits F w)(h:XH F g a)(K:XH F g' b)(z:sz a<=1000000000)(u:sz b<=1000000000):
  ZP prog 177 [g.v,g'.v] w F (bY a b):=by
 refine QU.intro (G:=λF=>XH F g a/\XH F g' b) func177 rfl tH rfl rfl j (λF' m=>⟨h.le m,K.le m⟩)<|QG<|QB ?_
 refine Qp I (vs:=[_,_]) I (λb2=>?_);refine Qp I (vs:=[_,_]) I (λb3=>?_);refine Qc Ym (λb4=>?_);refine wY<|QG<|Jq 4 we mixed tE tE ?_
 simp only[aT,bB,aU,aP];refine QK (wN I Qi .u2) ?_;refine QR I (λw F j ⟨ha,hb⟩=>QAN j (by assumption)) (λL=>?_);refine QK (wN I Qi .u1) ?_;refine QR I (λw F j ⟨⟨ha,hb⟩,h8⟩=>QAN j (by assumption)) (λC=>?_);refine ZS<|QW (vs:=[_,_]) I I I Qi I .u2 .h2 wm<|QW (vs:=[_,_]) I I I Qi I .u1 .h2 wm<|wD 4 I ?_
 refine YB (ι:=QFz a b) (λi=>[(2,.pointer (some ⟨b2,0,none⟩)),(3,.pointer (some ⟨b3,0,none⟩)),(4,.pointer (some ⟨b4,0,none⟩))]) (λi=>[(b4,.cells #[.int .i64 0,.slice none 0 0] 133 (0,0)),(b3,.cells #[.int .i64 i.gy.s,.slice i.gy.q i.gy.n i.gy.cap] 133 (0,0)),(b2,.cells #[.int .i64 i.gx.s,.slice i.gx.q i.gx.n i.gx.cap] 133 (0,0))])
  (λi F=>XH F i.gx i.x/\XH F i.gy i.y) (λi=>i.y.toNat) ⟨Js a,Js b,L,C,by rw[VQ];omega,by rw[VQ];omega,by rw[VQ,VQ];rfl,by rw[Nq];exact z,by rw[Nq];exact u⟩ wu we (λ_ ⟨⟨_,h8⟩,h10⟩=>⟨h8,h10⟩) λi=>?_
 refine QG<|wa<|QA (wN I Qi .u1) ?_
 refine QI I (λw F j ⟨N,E⟩=>P2 j (by assumption)) (λ_=>?_);refine wD 3 I ?_;refine QQ I (λhc=>?_) λhc=>?_
 ·refine wC 5 I<|QA (wN I Qi .u2)<|QA (wN I Qi .u1) ?_
  refine QI I (λ_ _ f k=>Eg f k.1.1 k.1.2 (by have:=i.hy;have:=xI i.y (by simpa using hc);omega) i.sx i.sy) (λD=>?_);rcases D with ⟨M,o⟩;dsimp only;refine wB 3 I ?_;refine Qc Ym (λQ=>?_);refine Qc Ym (λP=>?_);refine QW (vs:=[_,_]) I I I Qi I .u1 .h2 wm<|QW (vs:=[_,_]) I I I Qi I .here .h2 wm<|wY<|Jq 3 (.cons_cons _ (.cons_cons _ (.cons_cons _ (.cons_cons _ (.cons _ .slnil))))) mixed tE tE ?_
  simp only[aT,bB,aU,aP];refine QK (wN I Qi .u3)<|QK (wN I Qi .here)<|JV (vs:=[_,_]) I I I Qi I .u4 tP tM .h2 wm<|ZS<|QW (vs:=[_,_]) I I I Qi I .u3 .h2 wm<|QE<|Qj ?_
  have l:0<i.y:=by have:=i.hy;have:=xI i.y (by simpa using hc);omega
  have A:=aK i.x (by omega:i.y≠0);have H:=aH i.x l;refine Ql (⟨i.y,i.x%i.y,i.gy,o,i.hy,A,by rw[<-i.hg,jj,Int.emod_def];first | rw[Int.gcd_sub_mul_left_left] | rw[Int.gcd_sub_mul_right_left] | rw[Int.gcd_sub_mul_left_right],i.sy,ab (OX l) i.sy⟩:QFz a b) (by show(i.x%i.y).toNat<i.y.toNat;omega) wu (.cons _ (.cons _ we)) λ_ ⟨⟨⟨_,E⟩,_⟩,⟨_,B⟩⟩=>⟨E,B⟩
 refine Qx ?_
 repeat first|refine QY ?_|refine QO tH ?_
 refine QZ<|QC<|wa<|QA (wN I Qi .u2)<|QW (vs:=[_,_]) I I I Qi I .here .h2 wm<|wY<|QX ?_
 exact QP (_) rfl (.JX (c:=[_,_]) I Qi .here .nil) rfl λF h9=>(by have h0:i.y=0:=QA0 i.y (by simpa using hc);have e:=i.hg;rw[h0,Int.gcd_zero_right]at e;rw[<-e,ia i.hx];exact h9.1.1)
def DR(a:Int):∀e:Nat,sz (a^e)<=e*sz a+1
 |0=>by simp;decide
 |e+1=>by
  rw[bm];have:=K8 (a^e) a;have:=DR a e;rw[bK];omega
structure QCU(K:Nat) where
 k:Int
 e:Nat
 p:Nat
 go:Bg
 gx:Bg
 hk:0<=k
 hK:k<=9223372036854775807
 hp:1<=p
 h:e+p*k.toNat=K
structure QCT(K p:Nat)(k:Int) where
 e:Nat
 go:Bg
 h:e+p*(2*(k.toNat/2))=K
def T7{K e:Nat}(he:e<=K)(h:K*sz a<=500000000):sz (a^e)<=1000000000:=by
 have h1:=DR a e;have h2:=fV (sz a) he;omega
theorem xt{k:Int}(N:Fits F w)(h:XH F g a)(hk:0<=k)(M:k<=9223372036854775807)(hz:k.toNat*sz a<=500000000):
  ZP prog 261 [g.v,.int .i64 k] w F (a^k.toNat):=by
 refine QU.intro (G:=λF=>XH F g a) func261 rfl tH rfl rfl N (λF' o=>h.le o)<|wa<|Qp rfl (vs:=[_,_]) rfl λb2=>Qc Ym λb4=>wY<|wa<|QI rfl (λ_ _ f k=>Ar f O O) λP=>Qc Ym λm=>QW (vs:=[_,_]) rfl rfl rfl Qi rfl .here .h2 wm<|wD 4 I ?_
 refine YB (ι:=QCU k.toNat) (λi=>[(1,.int .i64 i.k),(2,.pointer (some ⟨b2,0,none⟩)),(4,.pointer (some ⟨b4,0,none⟩)),(5,.pointer (some ⟨m,0,none⟩))]) (λi=>[(m,.cells #[.int .i64 i.go.s,.slice i.go.q i.go.n i.go.cap] 133 (0,0)),(b4,.cells #[.int .i64 0,.slice none 0 0] 133 (0,0)),(b2,.cells #[.int .i64 i.gx.s,.slice i.gx.q i.gx.n i.gx.cap] 133 (0,0))])
  (λi F=>XH F i.go (a^i.e)/\XH F i.gx (a^i.p)) (λi=>i.k.toNat) ⟨k,0,1,P,g,hk,M,aE _,tJ⟩ wv we (λ_ ⟨h1,h6⟩=>⟨by simpa using h6,by show XH _ _ (a^1);rw[bm,jh,fg];exact h1⟩) λi=>?_
 refine wA 7 I ?_;refine QQ I (λhc=>?_) λhc=>?_
 ·refine wC 4 I ?_;have C:0<i.k:=by simpa using hc
  have b:i.p<=k.toNat:=by have:=i.h;have:=aL i.p (show 1<=i.k.toNat by omega);omega
  have D:=i.hk;have E:=i.hK;refine BR (ι:=QCT k.toNat i.p i.k) (λj=>[(1,.int .i64 i.k),(2,.pointer (some ⟨b2,0,none⟩)),(4,.pointer (some ⟨b4,0,none⟩)),(5,.pointer (some ⟨m,0,none⟩))]) (λj=>[(m,.cells #[.int .i64 j.go.s,.slice j.go.q j.go.n j.go.cap] 133 (0,0)),(b4,.cells #[.int .i64 0,.slice none 0 0] 133 (0,0)),(b2,.cells #[.int .i64 i.gx.s,.slice i.gx.q i.gx.n i.gx.cap] 133 (0,0))])
   (λj F=>XH F j.go (a^j.e)/\XH F i.gx (a^i.p)) ?_ ?_
  ·refine wb I<|QA (QBF I I O)<|wD 3 I ?_
   refine QQ I (λhc=>?_) λhc=>?_
   ·refine QB<|QA (wN I Qi .here)<|QA (wN I Qi .u2)<|QI I (λ_ _ f k=>DI f k.1 k.2 (T7 (tD i.h) hz) (T7 b hz)) λz=>QW (vs:=[_,_]) I I I Qi I .here .h2 wm<|QE ?_
    have A:i.k%2=1:=by simpa using hc
    refine Za (⟨i.e+i.p,z,by have:=i.h;have e:i.k.toNat=2*(i.k.toNat/2)+1:=O;rw[e,lH]at this;omega⟩:QCT k.toNat i.p i.k) wv we λ_ ⟨⟨_,K⟩,x⟩=>⟨by show XH _ _ (a^(i.e+i.p));rw[fZ];exact x,K⟩
   refine QN ?_;have H:i.k%2=0:=by have:i.k%2≠1:=(by simpa using hc);omega
   refine Za (⟨i.e,i.go,by have:=i.h;have e:i.k.toNat=2*(i.k.toNat/2):=O;rw[<-e];exact this⟩:QCT k.toNat i.p i.k) wv we tM
  intro j;refine wA 6 I ?_;refine QQ I (λhc=>?_) λhc=>?_
  ·refine QB<|QA (wN I Qi .u2)<|QA (wN I Qi .u2)<|QI I (λ_ _ f k=>DI f k.2 k.2 (T7 b hz) (T7 b hz)) λy=>QW (vs:=[_,_]) I I I Qi I .u2 .h2 wm<|QE<|Qj<|wE 3 I<|QA (xY I I)<|wB 2 I ?_
   have l:(i.k/2).toNat=i.k.toNat/2:=O;refine Ql (⟨i.k/2,j.e,i.p+i.p,j.go,y,O,O,tD i.hp,by rw[l];have:=j.h;rw[Nat.mul_left_comm]at this;rw[bK];omega⟩:QCU k.toNat) (by show(i.k/2).toNat<i.k.toNat;omega) wv we λ_ ⟨⟨L,_⟩,u⟩=>⟨L,by show XH _ _ (a^(i.p+i.p));rw[fZ];exact u⟩
  refine QN<|Qj<|wE 3 I<|QA (xY I I)<|wB 2 I ?_
  have B:i.k=1:=by have:¬1<i.k:=(by simpa using hc);omega
  have l:(i.k/2).toNat=i.k.toNat/2:=O;refine Ql (⟨i.k/2,j.e,i.p,j.go,i.gx,O,O,i.hp,by rw[l];have:=j.h;have h0:i.k.toNat/2=0:=O;rw[h0]at this ⊢;simpa using this⟩:QCU k.toNat) (by show(i.k/2).toNat<i.k.toNat;omega) wv we tM
 refine Qx ?_
 repeat first|refine QY ?_|refine QO tH ?_
 refine QZ<|QC<|wa<|QA (wN I Qi .here)<|QW (vs:=[_,_]) I I I Qi I .u1 .h2 wm<|wY<|QX ?_
 exact QP (_) rfl (.JX (c:=[_,_]) I Qi .u1 .nil) rfl λF h9=>(by have h0:i.k.toNat=0:=(by have:¬0<i.k:=(by simpa using hc);omega);have e:=i.h;rw[h0]at e;have R:i.e=k.toNat:=(by simpa using e);have Q:=congrArg (λn=>XH F i.go (a^n)) R;exact cast Q h9.1)
structure Fr where
 n:Bg
 d:Bg
@[reducible] def Fr.v (x:Fr):Value:=.agg #[.int .i64 x.n.s,.slice x.n.q x.n.n x.n.cap,.int .i64 x.d.s,.slice x.d.q x.d.n x.d.cap]
def JR(F:Gs)(x:Fr)(r:Rat):Prop:=XH F x.n r.num/\XH F x.d r.den
def JR.le{x:Fr}{r:Rat}(h:JR F x r)(k:Gs.le F F'):JR F' x r:=⟨h.1.le k,h.2.le k⟩
abbrev X1(P:Program)(f:FuncId)(args:List Value)(w:World)(F:Gs)(r:Rat):Prop:=QU P f args w F Fr.v λx F=>JR F x r
def JW(r:Rat):Nat:=max (sz r.num) (sz (r.den:Int))
def Jv(r:Rat):sz r.num<=JW r:=iP _ _
def Jt(r:Rat):sz (r.den:Int)<=JW r:=iL _ _
def den_pos(r:Rat):(0:Int)<r.den:=tD r.den_pos
theorem KF.one{s:Int}{q:Option Addr}(h:KF w s q n cap z):(q.isNone=true->(s==1)=decide (z=1))/\(q.isNone=false->decide (z=1)=false):=by
 rcases h with ⟨rfl,rfl,rfl,rfl,_⟩ | ⟨b,off,l,rfl,_,_,_,_,_,_,_,h,hz,hb⟩
 ·exact⟨λ_=>by rw[au];simp,λh=>(by cases h)⟩
 refine⟨λh=>(by cases h),λ_=>?_⟩;rcases h with rfl | rfl<;>simp<;>omega
structure MkI(a b:Int) where
 x:Int
 y:Int
 gx:Bg
 gy:Bg
 hy:0<y
 e:aF x y=aF a b
 sx:sz x<=1000000000
 sy:sz y<=1000000000
def L5(x:Int):(aF x 1).num=x/\(aF x 1).den=1:=by
 rw[iS,iT];simp
def Gz{x y:Int}(h:0<y):(bY x y:Int)≠0:=by
 have:bY x y≠0:=by rw[Ne,Int.gcd_eq_zero_iff];omega
 omega
def Fi{x y:Int}(h:0<y):sz (bY x y:Int)<=sz y:=by
 apply KX;have:=Int.gcd_le_right x h;omega
def V8{x y:Int}(h:0<y):(aF x y).num=x/(bY x y:Int)/\((aF x y).den:Int)=y/(bY x y:Int):=by
 rw[iS,iT,if_neg O,Int.sign_eq_one_of_pos h,fg,jj y x];refine⟨rfl,?_⟩;rw[Int.natCast_ediv,ia O]
theorem UH{b:Int}(m:Fits F w)(h:XH F g a)(K:XH F g' b)(H:b≠0)(u:sz a<=1000000000)(o:sz b<=1000000000):
  X1 prog 182 [g.v,g'.v] w F (aF a b):=by
 refine QU.intro (G:=λF=>XH F g a/\XH F g' b) func182 rfl tH rfl rfl m (λF' z=>⟨h.le z,K.le z⟩)<|QG<|QB ?_
 refine Qp I (vs:=[_,_]) I (λb2=>?_);refine Qp I (vs:=[_,_]) I (λb3=>?_);refine Qc Jw (λb4=>?_);refine QE<|QC ?_
 refine BR (ι:=MkI a b) (λi=>[(2,.pointer (some ⟨b2,0,none⟩)),(3,.pointer (some ⟨b3,0,none⟩)),(4,.pointer (some ⟨b4,0,none⟩))]) (λi=>[(b4,.cells #[.int .i64 0,.slice none 0 0,.int .i64 0,.slice none 0 0] 135 (0,0)),(b3,.cells #[.int .i64 i.gy.s,.slice i.gy.q i.gy.n i.gy.cap] 133 (0,0)),(b2,.cells #[.int .i64 i.gx.s,.slice i.gx.q i.gx.n i.gx.cap] 133 (0,0))]) (λi F=>XH F i.gx i.x/\XH F i.gy i.y) ?_ ?_
 ·refine wa<|QA (wN I Qi .u1) ?_
  refine QI I (λw F m ⟨ha,hb⟩=>P2 m (by assumption)) (λ_=>?_);refine wD 3 I ?_;refine QQ I (λhc=>?_) λhc=>?_
  ·refine Jq 4 we mixed tE tE ?_;simp only[aT,bB,aU,aP];refine QK (wN I Qi .u2) ?_;refine QR I (λw F m ⟨⟨ha,hb⟩,_⟩=>RO m (by assumption)) (λD=>?_);refine QK (wN I Qi .u1) ?_;refine QR I (λw F m ⟨⟨⟨ha,hb⟩,_⟩,h10⟩=>RO m (by assumption)) (λC=>?_);refine ZS<|QW (vs:=[_,_]) I I I Qi I .u2 .h2 wm<|QW (vs:=[_,_]) I I I Qi I .u1 .h2 wm<|QE ?_
   have l:b<0:=(KG b).1 (by simpa using hc);exact Za (⟨-a,-b,D,C,O,ix a b,by rw[Vm];exact u,by rw[Vm];exact o⟩:MkI a b) wu we λ_ ⟨⟨_,h10⟩,h12⟩=>⟨h10,h12⟩
  refine QN ?_;have l:¬b<0:=mt (KG b).2 (by simpa using hc);exact Za (⟨a,b,g,g',O,rfl,u,o⟩:MkI a b) wu we tN
 intro i;refine QG ?_;refine XV _ (λw _ f k=>(k.2 w f.r).one) (λE=>?_);refine Ew 20 (.bool (decide (i.y=1))) ?_ ?_
 ·refine QB<|QA (QH I Bm Vj)<|QA (Qe I Vj .u1 (.skip .h1))<|QA (GS I I KB)<|wW I ?_
  refine Qn (t:=16) rfl (λj=>?_) λj=>?_
  ·refine QL I I<|QA (QH I Eb JK)<|QL I I<|QA (Qe I JK .u1 .h1)<|wB 4 I ?_
   exact ZU (exd 9 rfl rfl) (congrArg (λb=>some (ah b)) (E.1 j)) we tM
  refine wB 5 I ?_;exact ZU (exd 9 rfl rfl) (congrArg (λb=>some (ah b)) (E.2 j).symm) we tM
 refine QQ I (λhc=>?_) λhc=>?_
 ·refine wa<|QA (wN I Qi .u2)<|QA (wN I Qi .u1)<|QA (Q4 I MG Jw (.cons (vs:=[_,_]) I I I .h2 (.cons (vs:=[_,_]) I I I (.skip (.skip .h2)) .nil)))<|QW (vs:=[_,_,_,_]) I I I QS I .here .h4 wv<|wY<|QX ?_
  exact QP (⟨i.gx,i.gy⟩) I (.JX (c:=[_,_,_,_]) I QS .here .nil) rfl λF ⟨ha,hb⟩=>(by have h1:i.y=1:=(by simpa using hc);have e:=L5 i.x;rw[<-i.e,h1];exact⟨by rw[e.1];exact ha,by rw[e.2];have l:=hb;rw[h1]at l;exact l⟩)
 refine wC 4 I<|QA (wN I Qi .u2)<|QA (wN I Qi .u1) ?_
 refine QI I (λ_ _ f k=>cm f k.1 k.2 i.sx i.sy) (λL=>?_);refine Qc Ym (λM=>?_);refine QW (vs:=[_,_]) I I I Qi I .here .h2 wm<|wY<|QG<|JG (.cons_cons _ (.cons _ tP)) mixed tE<|QK (wN I Qi .u2)<|QK (wN I Qi .here) ?_
 refine QR I (λ_ _ f k=>u9 f k.1.1 k.2 (Gz i.hy) (Int.gcd_dvd_left ..) i.sx (ab (Fi i.hy) i.sy)) (λB=>?_);refine QK (wN I Qi .u1)<|QK (wN I Qi .here) ?_
 refine QR I (λ_ _ f k=>u9 f k.1.1.2 k.1.2 (Gz i.hy) (Int.gcd_dvd_right ..) i.sy (ab (Fi i.hy) i.sy)) (λA=>?_);refine QK (Q4 I MG Jw (.cons (vs:=[_,_]) I I I .h2 (.cons (vs:=[_,_]) I I I (.skip (.skip .h2)) .nil)))<|JV (vs:=[_,_,_,_]) I I I QS I .u1 tP (λ_ h=>h.1.1) .h4 wv<|Q7<|QC<|QX ?_
 exact QP (⟨B,A⟩) I (.JX (c:=[_,_,_,_]) I QS .u1 .nil) rfl λF h9=>(by have e:=V8 (x:=i.x) i.hy;rw[<-i.e];exact⟨by rw[e.1];exact h9.1.2,by rw[e.2];exact h9.2⟩)
theorem Dx{a:Int}(i:Fits F w)(h:XH F g a):X1 prog 180 [g.v] w F (a:Rat):=by
 refine QU.intro (G:=λF=>XH F g a) func180 rfl tH rfl rfl i (λF' b=>h.le b)<|QG<|QB ?_
 refine Qp I (vs:=[_,_]) I (λb1=>?_);refine Qc Jw (λb2=>?_);refine wY<|QG<|JG (.cons _ tP) mixed tE<|QK (wN I Qi .here) ?_
 refine QR I (λ_ _ f k=>Ar f O O) (λj=>?_);refine QK (Q4 I MG Jw (.cons (vs:=[_,_]) I I I .h2 (.cons (vs:=[_,_]) I I I (.skip (.skip .h2)) .nil)))<|JV (vs:=[_,_,_,_]) I I I QS I .here tP tN .h4 wv<|Q7<|QC<|QX ?_
 exact QP (⟨g,j⟩) I (.JX (c:=[_,_,_,_]) I QS .here .nil) rfl λF h9=>⟨h9.1,h9.2⟩
theorem TN{n:Int}(a:Fits F w)(h0 : -9223372036854775808<=n)(h1:n<=9223372036854775807):X1 prog 90 [.int .i64 n] w F (n:Rat):=by
 refine QU.intro (G:=λF=>True) func90 rfl tH rfl rfl a tL<|QG<|QB ?_
 refine Qc Jw (λb2=>?_);refine wD 5 I ?_;refine QI I (λ_ _ f _=>Ar f O O) (λh=>?_);refine QI I (λw F a ⟨_,h4⟩=>Dx a (by assumption)) (λg=>?_);refine QW (vs:=[_,_,_,_]) I I I QS I .here .h4 wv<|wY<|QX ?_
 exact QP (_) rfl (.JX (c:=[_,_,_,_]) I QS .here .nil) rfl λF ⟨⟨_,h4⟩,⟨h5,b⟩⟩=>⟨‹_›,‹_›⟩
theorem UW{x:Fr}{r:Rat}(b:Fits F w)(h:JR F x r):Qf prog 88 [x.v] w F (.int .i64 (Dm r.num)):=by
 refine QU.intro (G:=λF=>JR F x r) func88 rfl tH rfl rfl b (λF' a=>h.le a)<|QG<|QB ?_
 refine Qp I (vs:=[_,_,_,_]) I (λb1=>?_);refine wD 5 I<|QA (QH I Zp Qi)<|QA (wN I Qi .here) ?_
 refine QI I (λ_ _ f k=>P2 (g:=x.n) f k.1) (λ_=>?_);refine wD 4 I ?_;exact wg I I I tL
theorem MO{x:Fr}{r:Rat}(g:Fits F w)(h:JR F x r):Qf prog 222 [x.v] w F (.bool (decide ((r.den:Int)=1))):=by
 refine QU.intro (G:=λF=>JR F x r) func222 rfl tH rfl rfl g (λF' b=>h.le b) ?_;refine XV _ (λw _ f h=>(h.2 w f.r).one) (λc=>?_);refine QG<|QB ?_
 refine Qp I (vs:=[_,_,_,_]) I (λb1=>?_);refine wD 5 I<|QA (QH I Zo Qi)<|QA (QH I Bm Vj)<|QA (Qe I Vj .here (.skip (.skip (.skip .h1))))<|QA (GS I I KB)<|wW I ?_
 refine Qn (t:=7) rfl (λa=>?_) λa=>?_
 ·refine QL I I<|QA (QH I Zo Qi)<|QL I I<|QA (QH I Eb JK)<|QL I I<|QA (Qe I JK .here (.skip (.skip .h1)))<|wD 7 I ?_
  exact wg I I (by show ah _=ah _;rw[<-c.1 a];first | rfl | skip) tL
 refine wD 9 I ?_;exact wg I I (congrArg ah (c.2 a)) tL
theorem UY{x:Fr}{r:Rat}(b:Fits F w)(h:JR F x r):X1 prog 221 [x.v] w F (-r):=by
 refine QU.intro (G:=λF=>JR F x r) func221 rfl tH rfl rfl b (λF' a=>h.le a)<|QG<|QB ?_
 refine Qp I (vs:=[_,_,_,_]) I (λb1=>?_);refine Qc Jw (λb2=>?_);refine wY<|QG<|JG (.cons _ tP) mixed tE<|QK (QH I Zp Qi)<|QK (wN I Qi .here) ?_
 refine QR I (λ_ _ f k=>RO (g:=x.n) f k.1) (λi=>?_);refine QK (QH I Zo Qi)<|QK (QJ (vs:=[_,_]) I Qi .here (.skip (.skip .h2)) I)<|QK (Q4 I MG Jw (.cons (vs:=[_,_]) I I I .h2 (.cons (vs:=[_,_]) I I I (.skip (.skip .h2)) .nil)))<|JV (vs:=[_,_,_,_]) I I I QS I .here tP tN .h4 wv<|Q7<|QC<|QX ?_
 exact QP (⟨i,x.d⟩) I (.JX (c:=[_,_,_,_]) I QS .here .nil) rfl λF h9=>⟨h9.2,h9.1.2⟩
@[reducible] def tx (l:List UInt8):Value:=.string ⟨l.toArray⟩
theorem Y4(l:List UInt8):(⟨l.toArray⟩:ByteArray).size=l.length:=by simp[eZ]
def BU(l:List UInt8):(⟨l.toArray⟩:ByteArray).toList=l:=by rw[ByteArray.toList_eq]
def Cn(a b:List UInt8):(⟨a.toArray⟩++⟨b.toArray⟩:ByteArray)=⟨(a++b).toArray⟩:=by
 apply iu;simp
def I5(l:List UInt8)(i j:Nat):(⟨l.toArray⟩:ByteArray).extract i j=⟨((l.take j).drop i).toArray⟩:=by
 apply iu;simp only[ByteArray.data_extract,List.extract_toArray,List.extract_eq_take_drop];rw[Array.mk.injEq,List.drop_take]
section
variable{P:Program}{N:Nat}{m:Sl}{Y:World->Prop}{ty:TypeId}
def Yf{a b:List UInt8}(hx:ev m x=some (tx a))(hy:ev m y=some (tx b))(h:a.length+b.length<=9223372036854775807):Qt P N m Y (.binOp .add T x y yT) ty (tx (a++b)):=by
 have:=xi (P:=P) (N:=N) (m:=m) (S:=Y) (ty:=ty) (T:=T) (yT:=yT) hx hy (by rw[Y4,Y4];omega);rw[Cn]at this;exact this
def VE{a b:List UInt8}(hx:ev m x=some (tx a))(hy:ev m y=some (tx b)):Qt P N m Y (.binOp .eql T x y yT) ty (.bool (a==b)) :=
 QT hx hy (by show some (ah (bV _==bV _))=_;rw[BU,BU])
def xb{a b:List UInt8}(hx:ev m x=some (tx a))(hy:ev m y=some (tx b)):Qt P N m Y (.binOp .neq T x y yT) ty (.bool (!(a==b))) :=
 QT hx hy (by show some (ah (!(bV _==bV _)))=_;rw[BU,BU])
def Xc{a:List UInt8}(hx:ev m x=some (tx a))(b:BZ P T=true):Qt P N m Y (.call ⟨.builtin .len,#[x],#[T]⟩) ty (.int .i64 a.length):=by
 have:=xg (P:=P) (N:=N) (S:=Y) (ty:=ty) hx b;rw[Y4]at this;exact this
def Hh{a:List UInt8}{i:Nat}(hx:ev m x=some (tx a))(hy:ev m y=some (.int .i64 (i:Int)))(b:BZ P T=true)(hi:i<a.length):Qt P N m Y (.index T x y) ty (.int .u8 (a[i].toNat:Int)):=by
 have:=xh (P:=P) (N:=N) (S:=Y) (ty:=ty) hx hy b (by rw[Y4];exact hi);simpa using this
def RA{lo:Option Operand}{vl:Option Value}{a:List UInt8}(l h:Nat)(hx:ev m x=some (tx a))(el:Is m lo=some vl)(g:Is m hi=some vh)(f:BZ P T=true)
  (b:(vl=none/\l=0)\/vl=some (.int .i64 (l:Int))) (c:(vh=none/\h=a.length)\/vh=some (.int .i64 (h:Int))) (h1:l<=h) (h2:h<=a.length):Qt P N m Y (.slice T x lo hi none) ty (tx ((a.take h).drop l)):=by
 have:=LY (P:=P) (N:=N) (S:=Y) (ty:=ty) hx el g f b (by rw[Y4];exact c) h1 (by rw[Y4];exact h2);rw[I5]at this;exact this
def Mj{a:List UInt8}(h:Nat)(hx:ev m x=some (tx a))(f:Is m hi=some vh)(c:BZ P T=true)(b:vh=some (.int .i64 (h:Int)))(h2:h<=a.length):Qt P N m Y (.slice T x none hi none) ty (tx (a.take h)) :=
 RA (P:=P) (N:=N) (m:=m) (Y:=Y) (ty:=ty) (lo:=none) (vl:=none) 0 h hx rfl f c (.inl ⟨rfl,rfl⟩) (.inr b) (eI _) h2
theorem GL{lo:Option Operand}{vl:Option Value}{a:List UInt8}(l:Nat)(hx:ev m x=some (tx a))(el:Is m lo=some vl)(c:BZ P T=true)(b:vl=some (.int .i64 (l:Int)))(h1:l<=a.length):Qt P N m Y (.slice T x lo none none) ty (tx (a.drop l)):=by
 have:=RA (P:=P) (N:=N) (m:=m) (Y:=Y) (ty:=ty) (hi:=none) (vh:=none) l a.length hx el I c (.inr b) (.inl ⟨rfl,rfl⟩) h1 (aE _);rw[List.take_length]at this;exact this
end
def JE(F:Gs):Prop:=(∃m T,F 0=some (#[.int .i64 m],T))/\∃T,F 5=some ((Lib.pow10Tab.map λz=>ak .u64 z).toArray,T)
theorem JE.le(h:JE F)(k:Gs.le F F'):JE F':=by
 obtain⟨⟨m,T,h1⟩,T',h2⟩:=h;exact⟨⟨m,T,k _ _ h1⟩,T',k _ _ h2⟩
theorem JE.max(a:Fits F w)(h:JE F):∃m,w.cell? ⟨0,0,none⟩=some (.int .i64 m):=by
 obtain⟨⟨m,T,h1⟩,_⟩:=h;obtain⟨fr,e⟩:=a.row _ _ _ h1;exact⟨m,by simp[eG,e]⟩
theorem JE.gG(hF:Fits F w)(h:JE F):iM prog w "internal/strconv.uint64pow10" .u64 lk:=by
 obtain⟨_,T,h2⟩:=h;obtain⟨fr,e⟩:=hF.row _ _ _ h2;have hg:prog.globalNamed "internal/strconv.uint64pow10" = some 5:=tE;unfold iM World.var?;rw[hg];simp only[Option.bind_some,e]
theorem Rr(w:World)(e:TypeId)(s:ByteArray):Ext w (Lib.bytesWorld w e s) :=
 ⟨rfl,rfl,rfl,by rw[Lib.bytesWorld_size];omega,λk hk=>Lib.bytesWorld_at_old w e s k hk⟩
theorem Fc(w:World)(os:Array Obj):Ext w (fD w os) :=
 ⟨rfl,rfl,rfl,by simp[fD],λk hk=>by
  show(w.heap++os)[k]?=_;rw[fK,if_pos hk]⟩
section
variable{w:World}{F:Gs}
theorem QAG(a:Fits F w)(hG:JE F){s p:List UInt8}(b:s.length<4294967281):Qf prog 174 [tx s,tx p] w F (.tuple #[tx (fq s p).1,tx (fq s p).2.1,.bool (fq s p).2.2]):=by
 obtain⟨m,hm⟩:=hG.max a;refine .of (enters_of func174 tH rfl) a ((strings_Cut ⟨s.toArray⟩ ⟨p.toArray⟩ m w (by rw[Y4];exact b) hm).mono ?_);rintro e w' ⟨h1,n,rfl⟩;exact⟨h1,(Ext.refl w).drewN n⟩
theorem Fw(a:Fits F w){s p:List UInt8}:Qf prog 175 [tx s,tx p] w F (.tuple #[tx (ag s p),.bool (aB s p)]):=by
 refine .of (enters_of func175 tH rfl) a ((strings_CutPrefix ⟨s.toArray⟩ ⟨p.toArray⟩ w).mono ?_);rintro e w' ⟨h1,rfl⟩;exact⟨h1,Ext.refl _⟩
theorem Fa(a:Fits F w){s p:List UInt8}:Qf prog 258 [tx s,tx p] w F (.bool (aB s p)):=by
 refine .of (enters_of func258 tH rfl) a ((strings_HasPrefix ⟨s.toArray⟩ ⟨p.toArray⟩ w).mono ?_);rintro e w' ⟨h1,rfl⟩;exact⟨h1,Ext.refl _⟩
theorem D0(a:Fits F w){s p:List UInt8}:Qf prog 259 [tx s,tx p] w F (tx (ag s p)):=by
 refine .of (enters_of func259 tH rfl) a ((strings_TrimPrefix ⟨s.toArray⟩ ⟨p.toArray⟩ w).mono ?_);rintro e w' ⟨h1,rfl⟩;exact⟨h1,Ext.refl _⟩
theorem xT(b:Fits F w){s:List UInt8}{c:Nat}(hc:s.length*c<=140737488355328)(a:c<=140737488355328):Qf prog 288 [tx s,.int .i64 c] w F (tx (fh s c)):=by
 refine .of (enters_of func288 tH rfl) b ((strings_Repeat ⟨s.toArray⟩ c w O (by rw[Y4];exact hc)).mono ?_);rintro e w' ⟨h1,h2⟩;exact⟨h1,h2⟩
theorem QCO(b:Fits F w){s:List UInt8}{n:Int}(a:s.length<=18)(h:iV s=some n):Qf prog 260 [tx s] w F (.tuple #[.int .i64 n,.nilIface]):=by
 refine .of (enters_of func260 tH rfl) b ((strconv_Atoi ⟨s.toArray⟩ n (by rw[Y4];exact a) h w).mono ?_);rintro e w' ⟨h1,t,rfl⟩;exact⟨h1,Rr _ _ _⟩
theorem yJ(a:Fits F w)(hG:JE F){n:Int}(h0 : -9223372036854775808<=n)(h1:n<=9223372036854775807):Qf prog 285 [.int .i64 n] w F (tx (ie n)):=by
 refine .of (enters_of func285 tH rfl) a ((strconv_Itoa n h0 h1 w (hG.gG a)).mono ?_);rintro e w' ⟨h1,k,os,rfl⟩;exact⟨h1,((Ext.refl w).drewN k).trans (Fc _ _)⟩
theorem dX(a:Fits F w){x:Int}(h0:0<=x)(h1:x<=18446744073709551615):Qf prog 311 [.int .u64 x] w F (.int .i64 (bD x.toNat)):=by
 refine .of (enters_of func311 tH rfl) a ((bits_Len64 x w h0 h1).mono ?_);rintro e w' ⟨h1,rfl⟩;exact⟨h1,Ext.refl _⟩
theorem El[Dr](a:Fits F w){x y:Int}:Qf prog 317 [.int .i64 x,.int .i64 y] w F (.int .i64 (Lib.compareInt x y)):=by
 refine QU.same (enters_of func317 tH rfl) a (cmp_Compare_int x y w)
end
section
variable[Dr][df:Df]
section
variable{P:Program}{Q:Exit->Act->World->Prop}{N:Nat}{m:Sl}{E E0:Env}{ops:Array Oper}{l:List Oper}{w0:World}{F0:Gs}{bs:List (Nat×Obj)}{G:Gs->Prop}
theorem St.perm(h:St ⟨w0,F0,bs,G⟩ w)(hp:bs.Perm bs'):St ⟨w0,F0,bs',G⟩ w:=by
 obtain⟨F,h⟩:=h;exact⟨F,h.le,h.old,h.fits,h.ext,λk hk=>h.bx k (hp.mem_iff.2 hk),(hp.map _).nodup_iff.1 h.nd,h.g⟩
def XN(P:Program)(f:FuncId)(args:List Value)(E:Env){γ:Type}(val:γ->Value)(E':γ->Env):Prop :=
 Enters P f/\∀w,St E w->Calls P f args.toArray w λe w'=>∃c,e = .returned (val c)/\St (E' c) w'
def EPost{γ:Type}(val:γ->Value)(E':γ->Env)(e:Ending)(w':World):Prop:=∃c,e = .returned (val c)/\St (E' c) w'
section
variable{d:Nat}{ty:TypeId}{pos:String}{aft:Array Edge}{f:FuncId}{args:Array Operand}{tys:Array TypeId}{vs:List Value}{γ:Type}{val:γ->Value}{E':γ->Env}{bs1:List (Nat×Obj)}
theorem q9{c1 c2:List Value}(hx:ev m x=some (.func (.func f) c1.toArray c2.toArray))(g:E3 m args.toList=some vs)(hp:bs.Perm bs1)(hc:XN P f (c1++vs++c2) ⟨w0,F0,bs1,G⟩ val E')
  (k:∀c,JS P ops Q l N ((d,val c)::m) (E' c)) (hd:J5 N (some d)=true:=by rfl):JS P ops Q (⟨some d,.call ⟨.value x,args,tys⟩,ty,pos,aft,none⟩::l) N m ⟨w0,F0,bs,G⟩:=by
 intro a w ha b;refine wpList_plain rfl λK i=>?_;unfold Oper.wp;rw[Gr hc.1 (ha.ev hx)];have e:c1.toArray++args.map a.eval++c2.toArray=(c1++vs++c2).toArray:=by
  have:=ha.E3 g;have j:args.map a.eval=vs.toArray:=by rw[<-this];apply bS ;simp
  rw[j];apply bS;simp
 simp only[Oper.upon];rw[e];refine(hc.2 w (b.perm hp)).mono ?_;rintro e w' ⟨c,rfl,h⟩;exact i _ _ (k c _ w' (ha.put hd (val c)) h)
theorem XX(a:E3 m args.toList=some vs)(hp:bs.Perm bs1)(hc:XN P f vs ⟨w0,F0,bs1,G⟩ val E')
  (k:∀c,JS P ops Q l N ((d,val c)::m) (E' c)) (hd:J5 N (some d)=true:=by rfl):JS P ops Q (⟨some d,.call ⟨.value (.func f),args,tys⟩,ty,pos,aft,none⟩::l) N m ⟨w0,F0,bs,G⟩ :=
 q9 (x:=.func f) (c1:=[]) (c2:=[]) I a hp (by simpa using hc) k hd
theorem IP{b:List (Nat×Obj)}(i:E3 m args.toList=some vs)(hp:bs.Perm bs1)(hc:XN P f vs ⟨w0,F0,bs1,G⟩ val E')(h0:∀c w,St (E' c) w->St ⟨w0,F0,b,G0⟩ w)
  (k:∀c,JD P ops Q ⟨w0,F0,b,G0⟩ l N ((d,val c)::m) (E' c)) (hd:J5 N (some d)=true:=by rfl):JD P ops Q ⟨w0,F0,b,G0⟩ (⟨some d,.call ⟨.value (.func f),args,tys⟩,ty,pos,aft,none⟩::l) N m ⟨w0,F0,bs,G⟩:=by
 intro n a w ha g;refine .inr ⟨rfl,?_⟩;rw[if_pos (by simp[fp])];unfold Oper.wp;rw[Gr (c1:=#[]) (c2:=#[]) hc.1 (ha.ev (x:=.func f) rfl)];have e:#[]++args.map a.eval++#[]=vs.toArray:=by
  have:=ha.E3 i;have j:args.map a.eval=vs.toArray:=by rw[<-this];apply bS ;simp
  rw[j];apply bS;simp
 simp only[Oper.upon];rw[e];refine(hc.2 w (g.perm hp)).mono ?_;rintro e w' ⟨c,rfl,h⟩;exact⟨h0 c w' h,k c (h0 c) _ w' (ha.put hd (val c)) h⟩
theorem St.last(hF:Fits F0 w0)(h:St ⟨w0,F0,bs,G⟩ w)(hb:Below w0.heap.size w w')(hd:Dr.on->w.drawn<=w'.drawn):St ⟨w0,F0,[],λF=>Gs.le F0 F⟩ w':=by
 obtain⟨F,h⟩:=h;have hx:Ext w0 w':=⟨hb.os.trans h.ext.os,hb.tape.trans h.ext.tape,hb.output.trans h.ext.output,ab h.ext.size hb.size,λk hk=>(hb.block k hk).trans (h.ext.block k hk)⟩;have hle:Gs.le F0 (λb=>if b<w0.heap.size then F0 b else match w'.heap[b]? with | some (.cells c T _)=>if T=297 then some (c,297)else none | _=>none):=by
  intro b x hb;show(if b<w0.heap.size then _ else _)=_;rw[if_pos (hF.lt hb)];exact hb
 refine⟨_,hle,?_,⟨?_,?_⟩,⟨hx,λd=>ab (h.ext.dr d) (hd d)⟩,λ_ h=>(by cases h),List.nodup_nil,λF' h'=>Gs.le_trans hle h'⟩
 ·intro b hb;show(if b<w0.heap.size then _ else _)=_;rw[if_pos hb]
 ·intro b c T hb;by_cases hlt:b<w0.heap.size
  ·rw[if_pos hlt]at hb;obtain⟨fr,e⟩:=hF.row b c T hb;exact⟨fr,by rw[hx.block b hlt];exact e⟩
  rw[if_neg hlt]at hb;split at hb
  ·rename_i c' T' fr heq;split at hb
   ·rename_i hT;cases hb;exact⟨fr,by rw[heq,hT]⟩
   cases hb
  cases hb
 intro b c fr hb;show(if b<w0.heap.size then _ else _)=_;by_cases hlt:b<w0.heap.size
 ·rw[if_pos hlt];rw[hx.block b hlt]at hb;exact hF.all b c fr hb
 rw[if_neg hlt,hb];simp
theorem NP{v:Value}(g:Fits F0 w0)(b:E3 m args.toList=some vs)(he:Enters P f)(hc:∀w,St ⟨w0,F0,bs,G⟩ w->Calls P f vs.toArray w λe w'=>e = .returned v/\Below w0.heap.size w w')
  (k:JS P ops Q l N ((d,v)::m) ⟨w0,F0,[],λF=>Gs.le F0 F⟩) (hd:J5 N (some d)=true:=by rfl) (c:¬Dr.on:=by exact id):JS P ops Q (⟨some d,.call ⟨.value (.func f),args,tys⟩,ty,pos,aft,none⟩::l) N m ⟨w0,F0,bs,G⟩ :=
 XX (γ:=Unit) (val:=λ_=>v) (E':=λ_=>⟨w0,F0,[],λF=>Gs.le F0 F⟩) b (bL _) ⟨he,λw a=>(hc w a).mono λ_ _ ⟨h1,h2⟩=>⟨(),h1,a.last g h2 λd=>absurd d c⟩⟩ (λ_=>k) hd
end
omit [Df] in
theorem XN.intro{f:FuncId}{c:Code}{val:γ->Value}{E':γ->Env}(b:P.funcs[f]?=some fn)(hb:fn.body=some c)(j:(fn.name == "runtime.NumGoroutine")=false)(l:fn.ntmps=N)(k:jg args.length N=true)
  (h:J (df:=DH) P c (bodyPost P fn (EPost val E')) N (Rt 0 args) E):XN P f args E val E':=by
 refine⟨enters_of b j (by rw[hb];rfl),λw i=>calls_of_wp b hb (h _ w ⟨?_,rfl,λt v ht=>?_⟩ i)⟩
 ·have:=fS k
  simp[l];omega
 obtain⟨_,h2⟩:=Gy args 0 t v ht
 have a:t<args.length:=by rcases aR t args.length with g | g;exact g;rw[je,aX g]at h2;cases h2
 simp only[je]at h2
 rw[fK,if_pos (by simpa using a)]
 simpa using h2
omit [Df] in
theorem Y3{val:γ->Value}{E':γ->Env}{rs:List ResultVar}{vs:List Value}(c:γ)(b:fn.results=rs.toArray)(h:Eu P m bs rs vs)(g:val c=(match vs with | [v]=>v | vs=>.tuple vs.toArray))(i:∀w,St ⟨w0,F0,bs,G⟩ w->St (E' c) w):Fin (df:=DH) (bodyPost P fn (EPost val E')) .ret N m ⟨w0,F0,bs,G⟩:=λa w ha f =>
 ⟨ha.df,val c,by rw[g];exact H7 b h ha f,c,rfl,i w f⟩
omit [Df] in
theorem Mh{val:γ->Value}{E':γ->Env}(h:Fin (df:=DH) (bodyPost P fn (EPost val E')) .ret N m E):Fin (df:=DH) (bodyPost P fn (EPost val E')) .normal N m E:=h
theorem ZL(hp:bs.Perm bs')(k:JS P ops Q l N m ⟨w0,F0,bs',G⟩):JS P ops Q l N m ⟨w0,F0,bs,G⟩:=λa w ha b=>k a w ha (b.perm hp)
theorem kX{c:Code}(hp:bs.Perm bs')(k:J P c Q N m ⟨w0,F0,bs',G⟩):J P c Q N m ⟨w0,F0,bs,G⟩:=λa w ha b=>k a w ha (b.perm hp)
theorem OJ{e:Exit}(hp:bs.Perm bs')(k:Fin Q e N m ⟨w0,F0,bs',G⟩):Fin Q e N m ⟨w0,F0,bs,G⟩:=λa w ha b=>k a w ha (b.perm hp)
theorem Src.xS{sz c:Nat}{news:List Value}(hm:(b,eN news.toArray T fr)∈bs)(g:news.length=k*sz):Src ⟨w0,F0,bs,G⟩ sz (.slice (.some ⟨b,0,none⟩) k c) k news :=
 ⟨g,.inr ⟨_,_,rfl,λw a j v f=>by
  obtain⟨F,a⟩:=a;rw[BP,ZI (a.bx _ hm).1,aV];exact f⟩⟩
theorem QCX{d:Nat}{o:Op}{ty:TypeId}{pos:String}{v:Value}(h:∀a w,Ja N m a->St E w->∃w',(execOp a.eval ⟨some d,o,ty,pos,aft,none⟩).run P w = .ok (.value v) w'/\St E' w')(k:JS P ops Q l N ((d,v)::m) E')(hd:J5 N (some d)=true:=by rfl):
  JS P ops Q (⟨some d,o,ty,pos,aft,none⟩::l) N m E:=λa w ha b=>wpList_plain rfl λK c=>by
 obtain⟨w',h1,h2⟩:=h a w ha b;exact upon_value h1 (c _ _ (k _ w' (ha.put hd v) h2))
theorem xZ{ty:TypeId}{p:Option Addr}{Y:World->Prop}(hx:ev m x=some (.pointer p))(hy:ev m y=some (.pointer none))(b:P.underlying T=some (.pointer (P.pointee T))):Qt P N m Y (.binOp .eql T x y yT) ty (.bool p.isNone):=λa w _ _ _ _ ha _=>by
 have:=run_eql_pointer_nil (P:=P) (w:=w) T p b;simp[execOp,ha.ev hx,ha.ev hy,eqGuard,this]
theorem SN{t u e ty:TypeId}{i:TypeInfo}{x:Value}(ht:Gp P t=some e)(hu:P.underlying u=some .string)(hi:P.info? e=some i)(hz:i.zero=some (.int .u8 0))(hsz:i.size=1)(hby:i.bytes=1)
  (hr:Q8 e 1 x n olds ob) (hw:St ⟨w0,F0,ob++bs,G⟩ w) (h47:n+s.length<=140737488355328) (hU:Hi e=true) :
  ∃v' ob' w',(ir #[t,u] ty #[x,tx s]).run P w = .ok v' w'/\Q8 e 1 v' (n+s.length) (olds++ax s) ob'/\St ⟨w0,F0,ob'++bs,G⟩ w':=by
 have hu':∀c fr c' fr',eN c e fr≠.cells c' 297 fr':=λc fr=>ZN hU;have hsl:(⟨s.toArray⟩:ByteArray).size=s.length:=Y4 s;have hbl:(ax s).length=s.length:=ij s;have hzc:∀q,(aJ (ak .u8 0).cells q).toList.length=q:=λq=>by simp[aJ,Value.cells]
 have new:∀ {w':World} (l rest:List Value) (cap:Nat) (bs':List (Nat×Obj)),St ⟨w0,F0,bs',G⟩ w'->bs.Sublist bs'->l.length=n+s.length->l.length+rest.length=cap->n+s.length<=cap->cap<=maxLen ->
   ∃ob',Q8 e 1 (.slice (some ⟨w'.heap.size,0,none⟩) (n+s.length) cap) (n+s.length) l ob'/\St ⟨w0,F0,ob'++bs,G⟩ (w'.alloc (.cells (l++rest).toArray e)):=by
  intro w' l rest cap bs' hw' hsub h2 h3 h4 h5;exact⟨_,.some O O h4 h5,(hw'.imp hsub λ_ h=>h).alloc _ (hu' _ _)⟩
 cases hr with
 |nil =>
  simp only[aV,ee]at *
  by_cases hm:s.length=0
  ·have hs0:s=[]:=aI hm;subst hs0;refine⟨.slice none 0 0,[],w,?_,.nil,hw⟩;have hf:=Lib.run_firstCells_string (P:=P) w 1 ⟨#[]⟩;have hf':(Builtin.firstCells 1 0 (tx [])).run P w = .ok #[] w:=by simpa[eZ,fR]using hf
   simp[ir,run_underlying (Q5 ht),run_underlying hu,sizeOf,typeInfo,hi,hsz,Builtin.lenOf,eZ,hf']
  have hrun:=run_append_nil_string (P:=P) (w:=w) t u ty e i (.int .u8 0) (Q5 ht) hu hi hz ⟨s.toArray⟩ O O (by rw[hby];omega);rw[hsl]at hrun;have hge:=grownCap_ge w s.length 0 e;obtain⟨ob',h2,h3⟩:=new (ax s) (aJ (ak .u8 0).cells (grownCap w s.length 0 e-s.length)).toList (grownCap w s.length 0 e) bs hw.drew we hbl (by rw[hzc,hbl];omega) hge (grownCap_le_maxLen w s.length 0 e (by simp only[maxLen];omega));refine⟨_,ob',_,hrun,h2,?_⟩;have e1:(ax s++(aJ (ak .u8 0).cells (grownCap w s.length 0 e-s.length)).toList).toArray=((⟨s.toArray⟩:ByteArray).data.map λb=>ak .u8 b.toNat)++aJ (ak .u8 0).cells (grownCap w s.length 0 e-s.length):=by apply bS;simp[ax]
  rw[e1]at h3;exact h3
 |some g1 g2 g3 g4 =>
  rename_i b cap rest;have hbw:w.heap[b]?=some (.cells (olds++rest).toArray e (0,0)):=hw.own (f:=λo'=>(b,o')::bs) .here;have hol:olds.length=n:=O;by_cases hroom:n+s.length<=cap
  ·have hrun:=Lib.run_append_room_string (P:=P) w t u ty e i (Q5 ht) hu hi hsz b n cap _ hbw ⟨s.toArray⟩ O tK;rw[hsl]at hrun;have e1:((olds++rest).toArray.toList.take n++fR ⟨s.toArray⟩++(olds++rest).toArray.toList.drop (n+s.length))=olds++ax s++rest.drop s.length:=by
    rw[iQ];simp only[aZ];rw[<-hol];simp[List.drop_append]
   rw[e1]at hrun;refine⟨_,[(b,.cells (olds++ax s++rest.drop s.length).toArray e (0,0))],_,hrun,.some ?_ ?_ hroom g4,?_⟩
   ·rw[aq,hbl];omega
   ·rw[aq,bh,hbl];omega
   have hlt:b<w.heap.size:=(Array.getElem?_eq_some_iff.1 hbw).1;refine St.write (o:=.cells (olds++rest).toArray e (0,0)) [] hw ⟨?_,rfl,rfl,rfl,rfl⟩ (hu' _ _);apply Array.ext_getElem?;intro j;rw[Array.getElem?_setIfInBounds];by_cases hj:b=j
   ·subst hj;rw[if_pos rfl,if_pos hlt,setRow_heap w b _ _ e _ hbw]
   rw[if_neg hj,setRow_other w b j _ (λe=>hj e.symm)]
  have hold:∀j v,olds[j]?=some v->w.cell? ((⟨b,0,none⟩:Addr).add j)=some v:=λj v hv=>by
   rw[BP,aV,ZI hbw,aQ];have:j<olds.length:=by rcases aR j olds.length with q | q;exact q;rw[aX q]at hv;cases hv
   rw[if_pos this];exact hv
  have hrun:=Lib.run_append_grow_string (P:=P) w t u ty e i (.int .u8 0) (Q5 ht) hu hi hz ⟨b,0,none⟩ n cap olds (by rw[hsz];omega) hold ⟨s.toArray⟩ O O (by rw[hby];exact growslice_fits O O);rw[hsl]at hrun;have hge:=grownCap_ge w (n+s.length) cap e;obtain⟨ob',h2,h3⟩:=new (olds++ax s) (aJ (ak .u8 0).cells (grownCap w (n+s.length) cap e-(n+s.length))).toList (grownCap w (n+s.length) cap e) _ hw.drew (List.sublist_cons_self _ _) (by rw[aq,hbl];omega) (by rw[hzc,aq,hbl];omega) hge (grownCap_le_maxLen w (n+s.length) cap e (by simp only[maxLen];omega));refine⟨_,ob',_,hrun,h2,?_⟩;have e1:(olds++ax s++(aJ (ak .u8 0).cells (grownCap w (n+s.length) cap e-(n+s.length))).toList).toArray=olds.toArray++(fR ⟨s.toArray⟩).toArray++aJ (ak .u8 0).cells (grownCap w (n+s.length) cap e-(n+s.length)):=by
   rw[iQ];apply bS;simp
  rw[e1]at h3;exact h3
theorem Uu{d:Nat}{ty:TypeId}{pos:String}{t u e:TypeId}{i:TypeInfo}{X Y:Operand}{x:Value}{bs1:List (Nat×Obj)}(hx:ev m X=some x)(hy:ev m Y=some (tx s))(ht:Gp P t=some e)(hu:P.underlying u=some .string)(hi:P.info? e=some i)(hz:i.zero=some (.int .u8 0))(b:i.size=1)(c:i.bytes=1)
  (hr:Q8 e 1 x n olds ob) (hp:bs.Perm (ob++bs1)) (f:n+s.length<=140737488355328)
  (g:∀v' ob',Q8 e 1 v' (n+s.length) (olds++ax s) ob'->JS P ops Q l N ((d,v')::m) ⟨w0,F0,ob'++bs1,G⟩) (j:Hi e=true:=by rfl) (hd:J5 N (some d)=true:=by rfl) :
  JS P ops Q (⟨some d,.call ⟨.builtin .append,#[X,Y],#[t,u]⟩,ty,pos,aft,none⟩::l) N m ⟨w0,F0,bs,G⟩:=λa w ha h =>
 wpList_plain rfl λK k=>by
  obtain⟨v',ob',w',h2,h3,h4⟩:=SN (ty:=ty) ht hu hi hz b c hr (h.perm hp) f j;refine upon_value (w':=w') (v:=v') ?_ (k _ _ (g v' ob' h3 _ w' (ha.put hd v') h4));simp only[execOp,resolve,invoke,builtin,eu,er,bA,List.map_toArray,iU,List.map_nil,ha.ev hx,ha.ev hy,h2]
end
end
section
variable[Dr][df:Df]{P:Program}{Q:Exit->Act->World->Prop}{N:Nat}{m:Sl}{E E0:Env}{ops:Array Oper}{l:List Oper}{w0:World}{F0:Gs}{bs:List (Nat×Obj)}{G:Gs->Prop}
theorem ED{c:List Value}(h:w.heap[b]?=some (.cells c.toArray T fr)):w.shape? b=some (T,c.length):=by
 simp[World.shape?,h]
theorem LX{g i t T' ty:TypeId}{c:List Value}(hx:ev m x=some (.pointer (some ⟨b,off,none⟩)))(n:P.underlying g=some (.pointer t))(hd:P.underlying i=some .unsafePointer)(ht:(P.info? t).any (λj=>j.size != 0)=true)
  (o:Own bs b (.cells c.toArray T' fr) f) (h:off<c.length):Qt P N m (St ⟨w0,F0,bs,G⟩) (.convert g i x) ty (.pointer (some ⟨b,off,none⟩)):=λa w _ _ _ _ ha l=>by
 obtain⟨j,s,k⟩:=Option.any_eq_true .. |>.1 ht;have:=Lib.run_to_unsafe (P:=P) w ⟨b,off,none⟩ n hd s (by simpa using k) (ED (l.own o)) h;simp[execOp,ha.ev hx,this]
theorem T5{g h t T' ty:TypeId}{c:List Value}(hx:ev m x=some (.pointer (some ⟨b,off,none⟩)))(k:P.underlying g=some .unsafePointer)(hd:P.underlying h=some (.pointer t))(ht:(P.info? t).isSome=true)
  (l:Own bs b (.cells c.toArray T' fr) f) (n:liesAt P P.depth T' (c.length/P.cellsOf T') off t 1=true):Qt P N m (St ⟨w0,F0,bs,G⟩) (.convert g h x) ty (.pointer (some ⟨b,off,none⟩)):=λa w _ _ _ _ ha i=>by
 obtain⟨j,o⟩:=Option.isSome_iff_exists.1 ht;have:=Lib.run_from_unsafe (P:=P) w ⟨b,off,none⟩ k hd o (ED (i.own l)) n;simp[execOp,ha.ev hx,this]
theorem C6{t ty:TypeId}{p:Addr}{Y:World->Prop}(hx:ev m x=some (.pointer (some p)))(hy:ev m y=some (.pointer (some p)))(c:P.underlying T=some (.pointer t))(ht:(P.info? t).isSome=true):Qt P N m Y (.binOp .neq T x y yT) ty (.bool false):=λa w _ _ _ _ ha _=>by
 obtain⟨j,b⟩:=Option.isSome_iff_exists.1 ht;have:=Lib.run_neq_ptr_same (P:=P) w p c b;simp[execOp,ha.ev hx,ha.ev hy,eqGuard,this]
theorem q8{d:Nat}{ty:TypeId}{pos:String}{f:FuncId}{e:Array Value->Sem Value}{args:Array Operand}{c:Array TypeId}{vs:List Value}{v:Value}(j:P.funcs[f]?=some fn)(b:(fn.name == "runtime.NumGoroutine")=false)
  (hb:fn.body.isNone=true) (i:Extern.findNext fn=none) (he:Extern.find fn=some e) (h:E3 m args.toList=some vs) (hr:∀w,(e vs.toArray).run P w = .ok v w) (k:JS P ops Q l N ((d,v)::m) E) (hd:J5 N (some d)=true:=by rfl) :
  JS P ops Q (⟨some d,.call ⟨.value (.func f),args,c⟩,ty,pos,aft,none⟩::l) N m E :=
 QCX (λa w ha g=>⟨w,by
  have h1:a.eval (.func f) = .func (.func f) #[] #[]:=ha.ev (x:=.func f) rfl;have n:args.map a.eval=vs.toArray:=by rw[<-ha.E3 h];apply bS;simp
  simp only[execOp,resolve,h1,Deferred.ofValue,eu,er,bA,invoke,n];simp[run_callFunc_extern j b hb i he,hr],g⟩) k hd
end
inductive Iu(b:Nat):List UInt8->List (Nat×Obj)->Prop
 |fresh:Iu b [] [(b,.cells [av none,.slice none 0 0].toArray 326 (0,0))]
 |used {l:List UInt8} {v:Value} {ob:List (Nat×Obj)} (hr:Q8 5 1 v l.length (ax l) ob):Iu b l ((b,.cells [av (some ⟨b,0,none⟩),v].toArray 326 (0,0))::ob)
section
variable{w0:World}{F0:Gs}{bs:List (Nat×Obj)}{G:Gs->Prop}
theorem NC{p:Option Addr}{v:Value}(hp:p=none\/p=some ⟨b,0,none⟩):XN prog 329 [.pointer (some ⟨b,0,none⟩)] ⟨w0,F0,(b,.cells [av p,v].toArray 326 (0,0))::bs,G⟩ (λ(_:Unit)=>.tuple #[]) (λ_=>⟨w0,F0,(b,.cells [av (some ⟨b,0,none⟩),v].toArray 326 (0,0))::bs,G⟩):=by
 refine XN.intro func329 rfl tH rfl rfl<|wb rfl<|QA (Zd rfl)<|QA (QH rfl UZ E8)<|QA (Qe rfl E8 .here .h1)<|QA (xZ rfl rfl tE)<|QE<|QC ?_
 refine QQ I (λhc=>?_) λhc=>?_
 ·have a:p=none:=by rcases hp with rfl | rfl;rfl;cases hc
  subst a;refine wA 3 I<|QA (LX I underlying323 underlying374 tE .here (Nat.zero_lt_succ _))<|q8 func357 tE tE tE (e:=iH) tE rfl (λw=>Lib.run_noEscape w _)<|QA (T5 I underlying374 underlying323 tE .here tE)<|QA (Zd I)<|QA (QH I UZ E8)<|QW (vs:=[_]) I I I E8 I .here .h1 wk<|QE<|Mh ?_
  exact Y3 () I .nil rfl tM
 have a:p=some ⟨b,0,none⟩:=by rcases hp with rfl | rfl;cases hc;rfl
 subst a;refine wb I<|QA (Zd I)<|QA (QH I UZ E8)<|QA (Qe I E8 .here .h1)<|wW I<|QA (C6 I I underlying323 tE)<|wY<|Yj I<|QN<|Mh ?_
 exact Y3 () I .nil rfl tM
theorem QB7:∃i,prog.info? 5=some i/\i.zero=some (.int .u8 0)/\i.size=1/\i.bytes=1:=by
 have h:((prog.info? 5).map λi=>(i.zero,i.size,i.bytes))=some (some (.int .u8 0),1,1):=tE;obtain⟨i,h1,h2⟩:=Option.map_eq_some_iff.1 h;simp only[Prod.mk.injEq]at h2;exact⟨i,h1,h2⟩
theorem HZ{p:Option Addr}{v:Value}(hp:p=none\/p=some ⟨b,0,none⟩)(hr:Q8 5 1 v l.length (ax l) ob)(k:l.length+s.length<=140737488355328):
  XN prog 289 [.pointer (some ⟨b,0,none⟩),tx s] ⟨w0,F0,(b,.cells [av p,v].toArray 326 (0,0))::(ob++bs),G⟩ (λ(_:List (Nat×Obj))=>.tuple #[.int .i64 s.length,.nilIface])
   (λob'=>⟨w0,F0,ob'++bs,λF=>G F/\Iu b (l++s) ob'⟩):=by
 obtain⟨m,i,g,f,c⟩:=QB7;refine XN.intro func289 rfl tH rfl rfl<|wa<|wX rfl<|wZ rfl<|wb rfl<|XX rfl (bL _) (NC hp) λ_=>wY<|wb rfl<|wW rfl<|QA (Zd rfl)<|QA (QH rfl N5 Hu)<|QA (Qe rfl Hu .here (.skip .h1))<|wW rfl<|Uu (bs1:=(b,.cells [av (some ⟨b,0,none⟩),v].toArray 326 (0,0))::bs) rfl rfl LN underlying9 i g f c hr (by rw[<-eC];exact(aY _ _ _)) k λj ob' a=>QA (Zd I)<|QA (QH I N5 Hu)<|ZL (bs':=(b,.cells [av (some ⟨b,0,none⟩),v].toArray 326 (0,0))::(ob'++bs)) (by rw[<-eC (l:=bs),<-eC];exact(aY _ _ _)) ?_
 obtain⟨h1,h2⟩:=a.one;refine QW (vs:=[j]) I I h2 Hu I .here (.skip .h1) ⟨h1,trivial⟩<|wD 5 I<|QA (Xc I Zm)<|wD 5 I ?_
 have hb:Iu b (l++s) ((b,.cells [av (some ⟨b,0,none⟩),j].toArray 326 (0,0))::ob'):=.used (by rw[aq,ik];exact a);exact Y3 _ I (wU I I) rfl λw h=>St.B5 (bs:=(_::ob')++bs) h λF hG=>⟨hG,hb⟩
theorem W7(h:Iu b l ob)(a:l.length+s.length<=140737488355328):
  XN prog 289 [.pointer (some ⟨b,0,none⟩),tx s] ⟨w0,F0,ob++bs,G⟩ (λ(_:List (Nat×Obj))=>.tuple #[.int .i64 s.length,.nilIface])
   (λob'=>⟨w0,F0,ob'++bs,λF=>G F/\Iu b (l++s) ob'⟩):=by
 cases h with
 |fresh=>exact HZ (l:=[]) (ob:=[]) (.inl rfl) .nil a
 |used hr=>exact HZ (.inr rfl) hr a
theorem B8{p:Option Addr}{v:Value}(hp:p=none\/p=some ⟨b,0,none⟩)(hr:Q8 5 1 v l.length (ax l) ob)(i:l.length+1<=140737488355328):
  XN prog 313 [.pointer (some ⟨b,0,none⟩),.int .u8 c.toNat] ⟨w0,F0,(b,.cells [av p,v].toArray 326 (0,0))::(ob++bs),G⟩ (λ(_:List (Nat×Obj))=>.nilIface)
   (λob'=>⟨w0,F0,ob'++bs,λF=>G F/\Iu b (l++[c]) ob'⟩):=by
 refine XN.intro func313 rfl tH rfl rfl<|wa<|wZ rfl<|wb rfl<|XX rfl (bL _) (NC hp) λ_=>wY<|wb rfl<|wW rfl<|QA (Zd rfl)<|QA (QH rfl N5 Hu)<|QA (Qe rfl Hu .here (.skip .h1))<|wW rfl<|Y2 rfl (Q5 LN) QEQ z_5 rfl rfl λf=>?_
 refine ZL (bs':=ob++((f,.cells [ak .u8 c.toNat].toArray 5 (0,0))::(b,.cells [av (some ⟨b,0,none⟩),v].toArray 326 (0,0))::bs)) (by
  have:=aY [(f,eN [ak .u8 c.toNat].toArray 5 (0,0)),(b,eN [av (some ⟨b,0,none⟩),v].toArray 326 (0,0))] ob bs;exact this) ?_
 refine Mf (news:=[ak .u8 c.toNat]) (k:=1) (sz:=1) rfl rfl LN QEQ z_5 I QHs hr (Src.xS (b:=f) (T:=5) (fr:=(0,0)) (c:=1) tJ rfl) O O (λu hu=>by rw[List.mem_singleton.1 hu];rfl) (λg ob' a=>QA (Zd I)<|QA (QH I N5 Hu) ?_);refine ZL (bs':=(b,.cells [av (some ⟨b,0,none⟩),v].toArray 326 (0,0))::((f,.cells [ak .u8 c.toNat].toArray 5 (0,0))::(ob'++bs))) (by
  have:=aY ob' [(b,eN [av (some ⟨b,0,none⟩),v].toArray 326 (0,0)),(f,eN [ak .u8 c.toNat].toArray 5 (0,0))] bs;exact((List.Perm.append_left ob' (List.Perm.swap _ _ _))).trans this) ?_
 obtain⟨h1,h2⟩:=a.one;refine QW (vs:=[g]) I I h2 Hu I .here (.skip .h1) ⟨h1,trivial⟩<|wD 8 I ?_
 have hb:Iu b (l++[c]) ((b,.cells [av (some ⟨b,0,none⟩),g].toArray 326 (0,0))::ob'):=.used (by rw[aq,ik];exact a);exact Y3 _ I (wT I) rfl λw h=>St.imp (bs':=(_::ob')++bs) h (lI _ (lJ _ we)) λF hG=>⟨hG,hb⟩
theorem U7(h:Iu b l ob)(a:l.length+1<=140737488355328):
  XN prog 313 [.pointer (some ⟨b,0,none⟩),.int .u8 c.toNat] ⟨w0,F0,ob++bs,G⟩ (λ(_:List (Nat×Obj))=>.nilIface)
   (λob'=>⟨w0,F0,ob'++bs,λF=>G F/\Iu b (l++[c]) ob'⟩):=by
 cases h with
 |fresh=>exact B8 (l:=[]) (ob:=[]) (.inl rfl) .nil a
 |used hr=>exact B8 (.inr rfl) hr a
theorem Iu.is(h:Iu b l ob){w:World}(hw:St ⟨w0,F0,ob++bs,G⟩ w):Lib.IsBuilder 326 5 w0.heap.size b (ax l) w:=by
 obtain⟨F,hw⟩:=hw;cases h with
 |fresh =>
  have:=hw.bx (b,.cells [av none,.slice none 0 0].toArray 326 (0,0)) tJ;exact .inl ⟨this.2.1,_,this.1,iq w _ _ 1,by simp[fl]⟩
 |used hr =>
  rename_i v ob;have h1:=hw.bx (b,.cells [av (some ⟨b,0,none⟩),v].toArray 326 (0,0)) tJ;refine .inr ⟨h1.2.1,v,h1.1,?_,?_⟩
  ·rw[ij];generalize hq:ax l=q at hr;generalize hn:l.length=n at hr;cases hr with
   |nil=>exact iq w _ _ 1
   |some g1 g2 g3 g4 =>
    rename_i r cap rest;have h2:=hw.bx (r,.cells (q++rest).toArray 5 (0,0)) tJ;refine⟨O,.inr ⟨r,cap,_,rfl,h2.2.1,h2.1,g3,g4,?_,?_⟩⟩
    ·show(q++rest).toArray.size=_;simp;omega
    show(q++rest).take (n*1)=q;rw[<-g1];exact List.take_left
  generalize hq:ax l=q at hr;generalize hn:l.length=n at hr;cases hr with
  |nil=>simp[fl]
  |some g1 g2 g3 g4 =>
   have hnd:=hw.nd;simp only[fc,iU,List.nodup_cons]at hnd;intro e;simp only[fl,bN]at e;exact hnd.1 (by simp[e])
end
section
open Go.RowKit Go.Sort Go.Lib
def Lb(w:World)(o:Obj)(dk:Array UInt8)(k off:Nat):∃os,(putRow (λ(b:UInt8)=>ak .u8 (b.toNat:Int)) (w.alloc o) w.heap.size off dk).drewN k=fD (w.drewN k) os:=by
 rw[alloc_eq_grow];obtain⟨a,_,e⟩:=putRow_grow_new (λ(b:UInt8)=>ak .u8 (b.toNat:Int)) w #[o] w.heap.size off dk (aE _);exact⟨a,by rw[e];rfl⟩
theorem FY(w:World)(T:TypeId)(a:Nat)(g:a<=24):Holds (λ(b:UInt8)=>ak .u8 (b.toNat:Int)) (w.alloc (.cells zeros24 T)) w.heap.size 0 (iI a (0:UInt8)):=λj c=>by
 have f:j<a:=by simpa using c
 refine⟨?_,World.frozen?_alloc_new _ _ _ _⟩;rw[World.cell?_alloc_new,zeros24_at _ O,getElem!_pos _ j c];simp
set_option maxRecDepth 100000 in
theorem SR(u:Nat)(a:u<18446744073709551616)(w:World)(i:iM prog w "internal/strconv.uint64pow10" .u64 lk):
  Calls prog 325 #[.int .u64 u,.int .i64 10] w λe w'=>e = .returned (tx (ae u))/\∃k os,w'=fD (w.drewN k) os:=by
 have z:∀args w,(callFunc 351 args).run prog w = .ok (.enter 351 args) w:=ew func351 tE rfl;have y:∀args w,(callFunc 352 args).run prog w = .ok (.enter 352 args) w:=ew func352 tE rfl;have x:∀args w,(callFunc 353 args).run prog w = .ok (.enter 353 args) w:=ew func353 tE rfl;by_cases A:u<100
 ·go_enter func325,ntmps325
  go_wp2_with (go_at_fn 351;refine(internal_strconv_small u A _).mono ?_;rintro e w' ⟨rfl,rfl⟩)
  go_ret
  exact⟨rfl,0,#[],by simp[World.drewN_zero]⟩
 have g:1<=u:=O;have m:aN u<=20:=by have:=Lib.numDigits_eq u g a;split at this<;>omega
 have C:aN u<=24:=O;have l:prog.arrayLen 368=24:=by simp[ic,underlying368]
 have s:∀W,(iR 368 (.pointer (some ⟨w.heap.size,0,none⟩)) none (some (.int .i64 (aN u:Int))) none).run prog W = .ok (.slice (some ⟨w.heap.size,0,none⟩) (aN u) 24) W:=λW=>by
  rw[run_sliceAt_array_h W 368 ⟨w.heap.size,0,none⟩ (by simp[ic,Program.elem,underlying368]) .i64 (aN u:Int) O (by rw[l];omega)];go_simp
 have f:=FY w 368 (aN u) O;have c:=internal_strconv_formatBase10 w.heap.size 0 24 u (iI (aN u) 0) (w.alloc (.cells eM 368)) f (by rw[bF];exact iB u) a (by rw[bF];omega);rw[bF]at c;have HH0:=aa f;clear f l;go_enter func325,ntmps325
 go_wp2_with (first
  |(go_at_fn 352;refine(internal_strconv_numDigits u g a _ (Lib.tabIs_alloc i _)).mono ?_;rintro e w' ⟨rfl,rfl⟩))
 go_at_fn 353
 refine c.mono ?_;rintro e w' ⟨rfl,k,E,dk,rfl,o⟩;have B:(convert 324 9 (.slice (some ⟨w.heap.size,0,none⟩) (aN u) 24)).run prog ((putRow (λ(b:UInt8)=>ak .u8 (b.toNat:Int)) (w.alloc (.cells eM 368)) w.heap.size 0 dk).drewN k) = .ok (.string ⟨(ae u).toArray⟩) ((putRow (λ(b:UInt8)=>ak .u8 (b.toNat:Int)) (w.alloc (.cells eM 368)) w.heap.size 0 dk).drewN k):=by
  have h:=run_convert_bytes_back (P:=prog) ((putRow (λ(b:UInt8)=>ak .u8 (b.toNat:Int)) (w.alloc (.cells eM 368)) w.heap.size 0 dk).drewN k) 324 9 5 ⟨w.heap.size,0,none⟩ 24 (ae u) underlying324 underlying5 underlying9 (λj n=>by
   rw[Lib.row_is_numeral o j n,Lib.add_plain,World.cell?_drewN];exact cell?_putRow (λ(b:UInt8)=>ak .u8 (b.toNat:Int)) _ w.heap.size 0 _ dk HH0.out (by rw[o.size,bF]) j (by rw[o.size];rw[aS]at n;exact n))
  rw[aS]at h;exact h
 go_wp2
 go_ret
 obtain⟨os,D⟩:=Lb w (.cells eM 368) dk k 0;exact⟨rfl,k,os,D⟩
theorem UX(a:Fits F w)(hG:JE F){u:Nat}(hu:u<18446744073709551616):Qf prog 287 [.int .u64 u,.int .i64 10] w F (tx (ae u)):=by
 refine QU.intro (G:=λF=>JE F) func287 rfl tH rfl rfl a (λF' b=>hG.le b)<|wa<|wZ rfl<|wb rfl<|wW rfl ?_
 refine QI I (λw F a hG=>Qf.of (v:=tx (ae u)) (enters_of func325 tH rfl) a ((SR u hu w (hG.gG a)).mono (by
  rintro e w' ⟨h1,k,os,rfl⟩;exact⟨h1,((Ext.refl w).drewN k).trans (Fc _ _)⟩))) λc=>?_
 refine wD 4 I ?_;exact QP () I (wT I) rfl tL
end
open Go
def Iq(c:UInt8):Bool:=decide (48<=c.toNat)&&decide (c.toNat<=57)
def ZJ(l:List UInt8):Bool:=l.all Iq
def Kh:Iq c=true↔48<=c.toNat/\c.toNat<=57:=by simp[Iq]
def Jc(l:List UInt8):Nat:=l.foldl (λa c=>a*10+(c.toNat-48)) 0
def QFO(l:List UInt8):∀a:Nat,l.foldl (λa c=>a*10+(c.toNat-48)) a=a*10^l.length+Jc l:=by
 induction l with
 |nil=>intro a;simp[Jc]
 |cons c l ih =>
  intro a;simp only[List.foldl_cons,aM,Jc];rw[ih,ih (0*10+_)];rw[fM,aV,bK,bQ,fB,fN 10,eQ]
def Kb(a b:List UInt8):Jc (a++b)=Jc a*10^b.length+Jc b:=by
 unfold Jc;rw[List.foldl_append,QFO];rfl
def C5:Jc []=0:=rfl
def Wq(c:UInt8):Jc [c]=c.toNat-48:=by simp[Jc]
def P7(c:UInt8)(l:List UInt8):Jc (c::l)=(c.toNat-48)*10^l.length+Jc l:=by
 rw[<-Wq,<-Kb];rfl
def Va(a b:List UInt8):ZJ (a++b)=(ZJ a&&ZJ b):=by simp[ZJ]
def Bv(c:UInt8)(l:List UInt8):ZJ (c::l)=(Iq c&&ZJ l):=by simp[ZJ]
def MZ(h:ZJ l=true)(n:Nat):ZJ (l.take n)=true:=by
 rw[<-aW n l,Va,ay]at h;exact h.1
def Tc(h:ZJ l=true)(n:Nat):ZJ (l.drop n)=true:=by
 rw[<-aW n l,Va,ay]at h;exact h.2
theorem Hb(h:ZJ l=true):Jc l<10^l.length:=by
 induction l with
 |nil=>simp[Jc]
 |cons c l ih =>
  rw[Bv,ay]at h;have:=ih h.2;have hc:=Kh.1 h.1;rw[P7,aM,bQ];have:(c.toNat-48)*10^l.length<=9*10^l.length:=fV _ O;omega
def Ky{d:Nat}(h:d<10):(fL (48+d)).toNat=48+d:=by
 rw[UInt8.toNat_ofNat'];omega
def Jy(n:Nat):ZJ (ae n)=true:=by
 induction n using iO with
 |_ n ih =>
  rw[ae];split
  ·rename_i h;simp[ZJ,Iq,Ky h];omega
  rw[Va,ih (n/10) O];have:n%10<10:=O;simp[ZJ,Iq,Ky this];omega
def Xi(n:Nat):Jc (ae n)=n:=by
 induction n using iO with
 |_ n ih =>
  rw[ae];split
  ·rename_i h;rw[Wq,Ky h];omega
  rw[Kb,ih (n/10) O,Wq,Ky O];simp;omega
def Kn(n:Nat):ae n≠[]:=by
 rw[ae];split<;>simp
def YX:ae 0=[48]:=by rw[ae];rfl
def Xv(l:List UInt8):Bool:=ZJ l&&!l.isEmpty&&(l==[48]||!(l.head?==some 48))
def Wg{d:Nat}(a:0<n)(hd:d<10):ae (n*10+d)=ae n++[fL (48+d)]:=by
 rw[ae,dif_neg O];congr 2
 ·congr 1;omega
 congr 2;omega
def Fv(h:Iq c=true):fL (48+(c.toNat-48))=c:=by
 have:=Kh.1 h;apply eO;rw[Ky O];omega
theorem Eh:∀ {l:List UInt8},ZJ l=true->l≠[]->l.head?≠some 48->ae (Jc l)=l/\0<Jc l:=by
 intro l
 induction hn:l.length generalizing l with
 |zero=>intro _ h _;exact absurd (aI hn) h
 |succ n ih =>
  intro ha b g;rcases List.eq_nil_or_concat l with h | ⟨a,c,rfl⟩
  ·exact absurd h b
  simp only[List.concat_eq_append]at *
  rw[Va,ay]at ha;have hc:Iq c=true:=by simpa[ZJ]using ha.2
  have i:=Kh.1 hc;rw[Kb,Wq];cases a with
  |nil =>
   have f:c≠48:=by simpa using g
   have:c.toNat≠48:=λe=>f (eO (by rw[e];rfl));simp only[C5,fM,aV,ee];refine⟨?_,O⟩;rw[ae,dif_pos O,Fv hc]
  |cons x a =>
   obtain⟨h1,h2⟩:=ih (l:=x::a) (by simp at hn ⊢;omega) ha.1 tJ (by simpa using g);refine⟨?_,tK⟩;simp only[eE,lE];rw[Wg h2 O,h1,Fv hc]
def DL(h:Xv l=true):ae (Jc l)=l:=by
 simp only[Xv,ay,iN,beq_iff_eq,iD,fu]at h;rcases h.2 with h1 | h1
 ·subst h1;rw[Wq];exact YX
 exact(Eh h.1.1 h.1.2 (by simpa using h1)).1
theorem kH(h:ZJ l=true):∀a,ig a l=some (a*10^l.length+Jc l):=by
 induction l with
 |nil=>intro a;simp[ig,Jc]
 |cons c l ih =>
  intro a;rw[Bv,ay]at h;have hc:=Kh.1 h.1;simp only[ig,Lib.digitVal,if_pos hc];rw[ih h.2,P7,aM,bQ,bK,fB,fN 10,eQ]
theorem qi{l:List UInt8}(h:ZJ l=true)(a:l≠[]):iV l=some (Jc l:Int):=by
 cases l with
 |nil=>exact absurd rfl a
 |cons c l =>
  have hc:=Kh.1 (by rw[Bv,ay]at h;exact h.1);have h1:(c==45)=false:=by
   apply beq_eq_false_iff_ne.2;rintro rfl;simp at hc
  have h2:(c==43)=false:=by
   apply beq_eq_false_iff_ne.2;rintro rfl;simp at hc
  simp only[iV,h1,h2,bT,if_false,Lib.decNat,List.isEmpty_cons];rw[kH h];simp
def Hq(k:Nat)(l:List UInt8):List UInt8:=fh [48] (k-l.length)++l
def Gh(k:Nat):fh [48] k=aO k 48:=by
 induction k with
 |zero=>rfl
 |succ k ih=>rw[fh,ih];rfl
def Ke{u:Nat}(h:u<10^k)(hk:0<k):aN u<=k:=by
 induction k generalizing u with
 |zero=>omega
 |succ k ih =>
  by_cases h10:u<10
  ·rw[Lib.nDigits_small h10];omega
  rw[Lib.nDigits_big h10];rcases iz k with h0 | h0
  ·subst h0;simp at h;omega
  have:=ih (u:=u/10) (by rw[bQ]at h;omega) h0;omega
theorem RP{u:Nat}(hk:0<k):k<aN u↔10^k<=u:=by
 constructor
 ·intro h;rcases aR u (10^k)with g | g
  ·have:=Ke g hk;omega
  exact g
 intro h;rcases aR k (aN u)with g | g
 ·exact g
 have h1:=iB u;have h2:10^aN u<=10^k:=bJ tF g;omega
def zH(k:Nat)(l:List UInt8)(c:UInt8):Hq (k+1) (l++[c])=Hq k l++[c]:=by
 unfold Hq;simp
theorem Ws{q:Nat}(hq:0<q):∀(k r:Nat),0<k->r<10^k->ae (q*10^k+r)=ae q++Hq k (ae r)
 |0,_,h,_=>O
 |1,r,_,hr=>by
  simp only[lE]at *
  rw[Wg hq hr,eY hr];rfl
 |k+2,r,_,hr=>by
  have e:q*10^(k+2)+r=(q*10^(k+1)+r/10)*10+r%10:=by
   rw[bQ,<-fB];omega
  have b:r/10<10^(k+1):=by rw[bQ]at hr;omega
  have a:0<q*10^(k+1)+r/10:=by
   have:=Nat.mul_pos hq (Nat.pow_pos (n:=k+1) (show 0<10 by decide));omega
  rw[e,Wg a O,Ws hq (k+1) (r/10) O b,aZ];congr 1;by_cases h10:r<10
  ·rw[eY (show r/10<10 by omega),eY h10];have h0:r/10=0:=O;rw[h0];unfold Hq;rw[Gh,Gh];simp only[eE,iA];rw[show k+2-1=k+1 by omega,fT,Nat.mod_eq_of_lt h10];rfl
  rw[<-zH];congr 1;rw[lz r,dif_neg h10]
def Ze(z:Int):List UInt8:=ie z
def JP(r:Rat):List UInt8:=if r.den=1 then Ze r.num else Ze r.num++47::ae r.den
def Yo(h:z<0):Ze z=45::ae z.natAbs:=by unfold Ze ie;rw[if_pos h]
def XJ(h:0<=z):Ze z=ae z.natAbs:=by
 unfold Ze ie;rw[if_neg O];congr 1;omega
def Y9(l:List UInt8):Int:=if aB l [45]then -(Jc (l.drop 1):Int)else(Jc l:Int)
theorem Vn(h:ZJ l=true):aB l [45]=false:=by
 cases l with
 |nil=>rfl
 |cons c l =>
  have hc:=Kh.1 (by rw[Bv,ay]at h;exact h.1);have:(45==c)=false:=by
   apply beq_eq_false_iff_ne.2;rintro rfl;simp at hc
  simp[aB,ei,this]
def Kt(z:Int):Y9 (Ze z)=z:=by
 unfold Y9;by_cases h:z<0
 ·rw[Yo h];simp[aB,ei,Xi];omega
 rw[XJ O,Vn (Jy _)];simp[Xi];omega
def Xn{b:Int}(h:sz a<=m)(k:sz b<=n):sz (a*b)<=m+n:=ab (K8 a b) (Nat.add_le_add h k)
def Sg{b:Int}(h:sz a<=m)(k:sz b<=n):sz (a+b)<=max m n+1:=tD<|LC a b
theorem Vl{b:Int}(hb:b≠0):JW (aF a b)<=max (sz a) (sz b):=by
 have c:∀(x y:Int),0<y->JW (aF x y)<=max (sz x) (sz y):=by
  intro x y hy;have h:=V8 (x:=x) hy;unfold JW;rw[h.1,h.2];have h1:sz (x/(bY x y:Int))<=sz x:=KX (bp _ _);have h2:sz (y/(bY x y:Int))<=sz y:=KX (bp _ _);omega
 rcases Int.lt_or_gt_of_ne hb with h | h
 ·rw[<-ix];have:=c (-a) (-b) O;rw[Vm,Vm]at this;exact this
 exact c a b h
def Km(r:Rat):(r.den:Int)≠0:=tD<|den_pos r
def BO(r s:Rat):r+s=aF (r.num*s.den+s.num*r.den) ((r.den:Int)*s.den):=by
 rw[iZ,<-iJ,fj]
def BF(r s:Rat):r*s=aF (r.num*s.num) ((r.den:Int)*s.den):=by
 rw[Rat.mul_def',<-iJ,fj]
def Vh(r:Rat):JW (-r)=JW r:=by unfold JW;rw[Rat.neg_num,Rat.neg_den,Vm]
def Kz(r s:Rat):JW (r+s)<=JW r+JW s+1:=by
 rw[BO];refine ab (Vl (eF (Km r) (Km s))) ?_;have h1:=Sg (Xn (Jv r) (Jt s)) (Xn (Jv s) (Jt r));have h2:=Xn (Jt r) (Jt s);omega
def BX(r s:Rat):JW (r-s)<=JW r+JW s+1:=by
 rw[iw];have:=Kz r (-s);rw[Vh]at this;exact this
def YN(r s:Rat):JW (r*s)<=JW r+JW s:=by
 rw[BF];refine ab (Vl (eF (Km r) (Km s))) ?_;have h1:=Xn (Jv r) (Jv s);have h2:=Xn (Jt r) (Jt s);omega
theorem Np{r:Rat}(h:r.num≠0):JW r⁻¹<=JW r:=by
 rw[lC];have:=Vl (a:=(r.den:Int)) h;unfold JW at this ⊢;omega
def GK(n:Int):JW (n:Rat)<=max (sz n) 1:=by
 unfold JW;rw[ey,eB];have:sz ((1:Nat):Int)=1:=tF;omega
def VP(r:Rat)(k:Nat):JW (r^k)<=k*JW r+1:=by
 unfold JW;rw[lB,lD,fi];have h1:=DR r.num k;have h2:=DR (r.den:Int) k;have h3:=aL k (iP (sz r.num) (sz (r.den:Int)));have h4:=aL k (iL (sz r.num) (sz (r.den:Int)));omega
def Px(r:Rat):sz r.floor<=JW r:=by
 rw[iW];exact ab (KX (bp _ _)) (Jv r)
theorem GD{x y:Fr}{r s:Rat}(b:Fits F w)(h:JR F x r)(j:JR F y s)(hr:JW r<=100000000)(o:JW s<=100000000):X1 prog 89 [x.v,y.v] w F (r*s):=by
 refine QU.intro (G:=λF=>JR F x r/\JR F y s) func89 rfl tH rfl rfl b (λF' a=>⟨h.le a,j.le a⟩)<|wa<|Qp rfl (vs:=[_,_,_,_]) rfl λb2=>Qp rfl (vs:=[_,_,_,_]) rfl λb3=>Qc Jw λb4=>wY<|QG<|JG (.cons _ tP) mixed tE<|QK (QH rfl Zp Qi)<|QK (wN I Qi .u1)<|QK (QH rfl Zp Qi)<|QK (wN I Qi .here)<|QR rfl (λ_ _ f k=>DI f k.1.1 k.2.1 (ab (Jv r) O) (ab (Jv s) O)) λz=>QK (QH rfl Zo Qi)<|QK (QJ (vs:=[_,_]) rfl Qi .u1 (.skip (.skip .h2)) rfl)<|QK (QH rfl Zo Qi)<|QK (QJ (vs:=[_,_]) rfl Qi .here (.skip (.skip .h2)) rfl)<|QR rfl (λ_ _ f k=>DI f k.1.1.2 k.1.2.2 (ab (Jt r) O) (ab (Jt s) O)) λl=>QR rfl (λw F b ⟨⟨⟨⟨u,hd⟩,⟨m,n⟩⟩,h9⟩,g⟩=>UH b h9 g (eF (Km r) (Km s)) (ab (Xn (Jv r) (Jv s)) O) (ab (Xn (Jt r) (Jt s)) O)) λi=>JV (vs:=[_,_,_,_]) rfl rfl rfl QS rfl .here tP (λ_ h=>h.1.1.1) .h4 wv<|Q7<|QC<|QX ?_
 exact QP (_) rfl (.JX (c:=[_,_,_,_]) I QS .here .nil) rfl λF h9=>(by rw[BF];exact⟨h9.2.1,h9.2.2⟩)
def qp{r s:Rat}(h:(r.den:Int)=1)(k:(s.den:Int)=1):r+s=((r.num+s.num:Int):Rat):=by
 have h1:r.den=1:=O;have a:s.den=1:=O;rw[iZ,h1,a];apply Rat.ext
 ·rw[Rat.num_mkRat,ey];simp
 rw[Rat.den_mkRat,eB];simp
theorem De{x y:Fr}{r s:Rat}(b:Fits F w)(h:JR F x r)(z:JR F y s)(hr:JW r<=100000000)(H:JW s<=100000000):X1 prog 131 [x.v,y.v] w F (r+s):=by
 refine QU.intro (G:=λF=>JR F x r/\JR F y s) func131 rfl tH rfl rfl b (λF' i=>⟨h.le i,z.le i⟩)<|wa<|Qp rfl (vs:=[_,_,_,_]) rfl λb2=>Qp rfl (vs:=[_,_,_,_]) rfl λb3=>Qc Jw λb4=>wY<|QG ?_
 refine Ew 10 (.bool (decide ((r.den:Int)=1)&&decide ((s.den:Int)=1))) ?_ ?_
 ·refine QB<|QA (wP I QS .u2)<|QI I (λw F b ⟨⟨m,hd⟩,⟨j,l⟩⟩=>MO b ⟨by assumption,by assumption⟩) λ_=>wW I ?_
  refine Qn (t:=7) rfl (λa=>?_) λa=>?_
  ·refine QL I I<|QA (wP I QS .u1)<|QL I I<|QI I (λw F b ⟨⟨⟨m,hd⟩,⟨j,l⟩⟩,_⟩=>MO b ⟨by assumption,by assumption⟩) λ_=>wB 2 I ?_
   exact ZU (exd 7 rfl rfl) (by show some (ah _)=some (ah _);rw[a];rfl) we λ_ h=>h.1.1
  refine wB 4 I ?_;exact ZU (exd 7 rfl rfl) (by show some (ah false)=some (ah _);rw[a];rfl) we tN
 refine QQ I (λhc=>?_) λhc=>?_
 ·refine wa<|QA (QH I Zp Qi)<|QA (wN I Qi .u2)<|QA (QH I Zp Qi)<|QA (wN I Qi .u1)<|QI I (λ_ _ f k=>CZ f k.1.1 k.2.1 (ab (Jv r) O) (ab (Jv s) O)) λE=>QI I (λw F b ⟨⟨⟨m,hd⟩,⟨j,l⟩⟩,u⟩=>Dx b (by assumption)) λo=>QW (vs:=[_,_,_,_]) I I I QS I .here .h4 wv<|wY<|QX ?_
  exact QP (_) rfl (.JX (c:=[_,_,_,_]) I QS .here .nil) rfl λF h9=>(by have g:(r.den:Int)=1/\(s.den:Int)=1:=(by simpa using hc);have e:(r+s:Rat)=((r.num+s.num:Int):Rat):=qp g.1 g.2;rw[e];exact⟨h9.2.1,h9.2.2⟩)
 refine wC 3 I<|JG (.cons _ tP) mixed tE<|QK (QH I Zp Qi)<|QK (wN I Qi .u1)<|QK (QH I Zo Qi)<|QK (QJ (vs:=[_,_]) I Qi .here (.skip (.skip .h2)) I)<|QR I (λ_ _ f k=>DI f k.1.1 k.2.2 (ab (Jv r) O) (ab (Jt s) O)) λD=>QK (QH I Zp Qi)<|QK (wN I Qi .here)<|QK (QH I Zo Qi)<|QK (QJ (vs:=[_,_]) I Qi .u1 (.skip (.skip .h2)) I)<|QR I (λ_ _ f k=>DI f k.1.2.1 k.1.1.2 (ab (Jv s) O) (ab (Jt r) O)) λC=>QR I (λ_ _ f k=>CZ f k.1.2 k.2 (ab (Xn (Jv r) (Jt s)) O) (ab (Xn (Jv s) (Jt r)) O)) λB=>QK (QH I Zo Qi)<|QK (QJ (vs:=[_,_]) I Qi .u1 (.skip (.skip .h2)) I)<|QK (QH I Zo Qi)<|QK (QJ (vs:=[_,_]) I Qi .here (.skip (.skip .h2)) I)<|QR I (λ_ _ f k=>DI f k.1.1.1.1.2 k.1.1.1.2.2 (ab (Jt r) O) (ab (Jt s) O)) λA=>QR I (λ_ _ f k=>UH f k.1.2 k.2 (eF (Km r) (Km s)) (ab (Sg (Xn (Jv r) (Jt s)) (Xn (Jv s) (Jt r))) O) (ab (Xn (Jt r) (Jt s)) O)) λn=>JV (vs:=[_,_,_,_]) I I I QS I .here tP (λ_ h=>h.1.1.1.1.1) .h4 wv<|Q7<|QC<|QX ?_
 exact QP (_) rfl (.JX (c:=[_,_,_,_]) I QS .here .nil) rfl λF h9=>(by rw[BO];exact⟨h9.2.1,h9.2.2⟩)
theorem UU{x y:Fr}{r s:Rat}(g:Fits F w)(h:JR F x r)(i:JR F y s)(hr:JW r<=100000000)(b:JW s<=100000000):X1 prog 171 [x.v,y.v] w F (r-s):=by
 refine QU.intro (G:=λF=>JR F x r/\JR F y s) func171 rfl tH rfl rfl g (λF' a=>⟨h.le a,i.le a⟩)<|wa<|Qp rfl (vs:=[_,_,_,_]) rfl λb2=>Qp rfl (vs:=[_,_,_,_]) rfl λb3=>Qc Jw λb4=>wY<|QG<|JG (.cons _ tP) mixed tE<|QK (wP I QS .u1)<|QK (wP I QS .here)<|QR rfl (λ_ _ f k=>UY f ⟨k.2.1,k.2.2⟩) λl=>QR rfl (λ_ _ f k=>De f ⟨k.1.1.1,k.1.1.2⟩ ⟨k.2.1,k.2.2⟩ hr (by rw[Vh];exact b)) λj=>JV (vs:=[_,_,_,_]) I I I QS I .here tP (λ_ h=>h.1.1) .h4 wv<|Q7<|QC<|QX ?_
 exact QP (_) rfl (.JX (c:=[_,_,_,_]) I QS .here .nil) rfl λF h9=>(by rw[iw];exact⟨h9.2.1,h9.2.2⟩)
theorem Lz{x:Fr}{r:Rat}(b:Fits F w)(h:JR F x r)(h0:r.num≠0)(hr:JW r<=100000000):X1 prog 185 [x.v] w F r⁻¹:=by
 refine QU.intro (G:=λF=>JR F x r) func185 rfl tH rfl rfl b (λF' a=>h.le a)<|wa<|Qp rfl (vs:=[_,_,_,_]) rfl λb1=>Qc Jw λb2=>wY<|wa<|QA (QH rfl Zo Qi)<|QA (QJ (vs:=[_,_]) rfl Qi .u1 (.skip (.skip .h2)) rfl)<|QA (QH rfl Zp Qi)<|QA (wN I Qi .u1)<|QI rfl (λ_ _ f k=>UH f k.2 k.1 h0 (ab (Jt r) O) (ab (Jv r) O)) λg=>QW (vs:=[_,_,_,_]) rfl rfl rfl QS rfl .here .h4 wv<|wY<|QX ?_
 exact QP (_) rfl (.JX (c:=[_,_,_,_]) I QS .here .nil) rfl λF h9=>(by rw[lC];exact⟨h9.2.1,h9.2.2⟩)
theorem yY{x y:Fr}{r s:Rat}(g:Fits F w)(h:JR F x r)(i:JR F y s)(h0:s.num≠0)(hr:JW r<=100000000)(b:JW s<=100000000):X1 prog 91 [x.v,y.v] w F (r/s):=by
 refine QU.intro (G:=λF=>JR F x r/\JR F y s) func91 rfl tH rfl rfl g (λF' a=>⟨h.le a,i.le a⟩)<|wa<|Qp rfl (vs:=[_,_,_,_]) rfl λb2=>Qp rfl (vs:=[_,_,_,_]) rfl λb3=>Qc Jw λb4=>wY<|QG<|JG (.cons _ tP) mixed tE<|QK (wP I QS .u1)<|QK (wP I QS .here)<|QR rfl (λ_ _ f k=>Lz f ⟨k.2.1,k.2.2⟩ h0 b) λl=>QR rfl (λ_ _ f k=>GD f ⟨k.1.1.1,k.1.1.2⟩ ⟨k.2.1,k.2.2⟩ hr (ab (Np h0) b)) λj=>JV (vs:=[_,_,_,_]) rfl rfl rfl QS rfl .here tP (λ_ h=>h.1.1) .h4 wv<|Q7<|QC<|QX ?_
 exact QP (_) rfl (.JX (c:=[_,_,_,_]) I QS .here .nil) rfl λF h9=>(by rw[Rat.div_def];exact⟨h9.2.1,h9.2.2⟩)
def Yw(r s:Rat):Int:=if r<s then -1 else if r=s then 0 else 1
def pz(r s:Rat):YF (r.num*s.den) (s.num*r.den)=Yw r s:=by
 unfold Yw;rcases bX (r.num*s.den) (s.num*r.den)with h | h | h
 ·rw[G7 h,if_pos ((iy r s).2 h)]
 ·rw[h,SE,if_neg (by rw[iy];omega),if_pos (Rat.eq_iff_mul_eq_mul.2 h)]
 rw[Em h,if_neg (by rw[iy];omega),if_neg (by rw[Rat.eq_iff_mul_eq_mul];omega)]
theorem G3{x y:Fr}{r s:Rat}(b:Fits F w)(h:JR F x r)(g:JR F y s)(hr:JW r<=100000000)(m:JW s<=100000000):Qf prog 148 [x.v,y.v] w F (.int .i64 (Yw r s)):=by
 rw[<-pz];refine QU.intro (G:=λF=>JR F x r/\JR F y s) func148 rfl tH rfl rfl b (λF' a=>⟨h.le a,g.le a⟩)<|wa<|Qp rfl (vs:=[_,_,_,_]) rfl λb2=>Qp rfl (vs:=[_,_,_,_]) rfl λb3=>wZ rfl<|QG<|JG we mixed tE<|QK (QH rfl Zp Qi)<|QK (wN I Qi .u1)<|QK (QH rfl Zo Qi)<|QK (QJ (vs:=[_,_]) rfl Qi .here (.skip (.skip .h2)) rfl)<|QR rfl (λ_ _ f k=>DI f k.1.1 k.2.2 (ab (Jv r) O) (ab (Jt s) O)) λo=>QK (QH rfl Zp Qi)<|QK (wN I Qi .here)<|QK (QH rfl Zo Qi)<|QK (QJ (vs:=[_,_]) rfl Qi .u1 (.skip (.skip .h2)) rfl)<|QR rfl (λ_ _ f k=>DI f k.1.2.1 k.1.1.2 (ab (Jv s) O) (ab (Jt r) O)) λi=>QR rfl (λw F b ⟨⟨⟨⟨n,hd⟩,⟨j,l⟩⟩,h9⟩,c⟩=>QFV b h9 c (ab (Xn (Jv r) (Jt s)) O) (ab (Xn (Jv s) (Jt r)) O)) λ_=>QK (QF rfl)<|Q7<|QC<|QX ?_
 exact wg I I I tL
theorem Fo{x:Fr}{r:Rat}(i:Fits F w)(h:JR F x r)(hr:JW r<=100000000):ZP prog 301 [x.v] w F r.floor:=by
 refine QU.intro (G:=λF=>JR F x r) func301 rfl tH rfl rfl i (λF' a=>h.le a)<|wa<|Qp rfl (vs:=[_,_,_,_]) rfl λb1=>Qc Ym λb2=>wY<|wa<|QA (QH rfl Zp Qi)<|QA (wN I Qi .u1)<|QA (QH rfl Zo Qi)<|QA (QJ (vs:=[_,_]) rfl Qi .u1 (.skip (.skip .h2)) rfl) ?_
 refine QI I (λ_ _ f k=>Eg f k.1 k.2 (den_pos r) (ab (Jv r) O) (ab (Jt r) O)) (λb=>?_);rcases b with ⟨j,g⟩;dsimp only;refine wB 3 I<|Qc Ym λb3=>Qc Ym λb4=>QW (vs:=[_,_]) I I I Qi I .u1 .h2 wm<|QW (vs:=[_,_]) I I I Qi I .here .h2 wm<|wY<|wa<|QA (wN I Qi .u1)<|QW (vs:=[_,_]) I I I Qi I .u2 .h2 wm<|wY<|QX ?_
 exact QP (_) rfl (.JX (c:=[_,_]) I Qi .u2 .nil) rfl λF h9=>(by rw[iW];exact h9.2.1)
theorem pU{x:Fr}{r:Rat}(b:Fits F w)(h:JR F x r)(hr:JW r<=100000000):ZP prog 302 [x.v] w F (-(-r).floor):=by
 refine QU.intro (G:=λF=>JR F x r) func302 rfl tH rfl rfl b (λF' a=>h.le a)<|wa<|Qp rfl (vs:=[_,_,_,_]) rfl λb1=>Qc Ym λb2=>wY<|wa<|QA (wP I QS .u1)<|QI rfl (λ_ _ f k=>UY f ⟨k.1,k.2⟩) λi=>QI rfl (λ_ _ f k=>Fo f ⟨k.2.1,k.2.2⟩ (by rw[Vh];exact hr)) λm=>QI I (λw F b ⟨⟨⟨j,hd⟩,⟨h4,g⟩⟩,h5⟩=>RO b (by assumption)) λl=>QW (vs:=[_,_]) I I I Qi I .here .h2 wm<|wY<|QX ?_
 exact QP (_) rfl (.JX (c:=[_,_]) I Qi .here .nil) rfl tO
def Lu:(aF 1 2).num=1/\((aF 1 2).den:Int)=2:=tG
theorem MR{x:Fr}{r:Rat}{k:Int}(i:Fits F w)(h:JR F x r)(hk:0<=k)(g:k<=9223372036854775807)(hz:k.toNat*JW r<=500000000):X1 prog 217 [x.v,.int .i64 k] w F (r^k.toNat):=by
 refine QU.intro (G:=λF=>JR F x r) func217 rfl tH rfl rfl i (λF' a=>h.le a)<|wa<|Qp rfl (vs:=[_,_,_,_]) rfl λb2=>Qc Jw λb4=>wY<|QG<|JG (.cons _ tP) mixed tE<|QK (QH rfl Zp Qi)<|QK (wN I Qi .here)<|QK (QD rfl)<|QR rfl (λ_ _ f k=>xt f k.1 hk g (ab (aL _ (Jv r)) hz)) λj=>QK (QH rfl Zo Qi)<|QK (QJ (vs:=[_,_]) rfl Qi .here (.skip (.skip .h2)) rfl)<|QK (QD rfl)<|QR rfl (λ_ _ f k=>xt f k.1.2 hk g (ab (aL _ (Jt r)) hz)) λb=>QK (Q4 rfl MG Jw (.cons (vs:=[_,_]) rfl rfl rfl .h2 (.cons (vs:=[_,_]) rfl rfl rfl (.skip (.skip .h2)) .nil)))<|JV (vs:=[_,_,_,_]) rfl rfl rfl QS rfl .here tP (λ_ h=>h.1.1) .h4 wv<|Q7<|QC<|QX ?_
 exact QP (⟨j,b⟩) I (.JX (c:=[_,_,_,_]) I QS .here .nil) rfl λF h9=>⟨by rw[lB];exact h9.1.2,by rw[lD,fi];exact h9.2⟩
theorem KF.kind{s:Int}{q:Option Addr}(h:KF w s q n cap z):(q.isNone=true/\s=z/\-9223372036854775808<=z/\z<=9223372036854775807)\/(q.isNone=false/\¬(-9223372036854775808<=z/\z<=9223372036854775807/\z≠-9223372036854775808)):=by
 rcases h with ⟨rfl,_,_,h1,h2,h3⟩ | ⟨b,off,l,rfl,_,_,_,_,_,_,_,a,hz,hd⟩
 ·exact .inl ⟨rfl,h1,h2,h3⟩
 refine .inr ⟨rfl,?_⟩;rcases a with rfl | rfl<;>omega
theorem gN(f:Fits F w)(h:XH F g a):QU prog 179 [g.v] w F (λ(c:Int×Bool)=>.tuple #[.int .i64 c.1,.bool c.2])
  (λc _=>(c.2=true/\c.1=a/\-9223372036854775808<=a/\a<=9223372036854775807)\/(c.2=false/\¬(-9223372036854775808<=a/\a<=9223372036854775807/\a≠-9223372036854775808))):=by
 have hk:=KF.kind (h w f.r);refine QU.intro (G:=λF=>XH F g a) func179 rfl tH rfl rfl f (λF' b=>h.le b)<|wa<|Qp rfl (vs:=[_,_]) rfl λb1=>wX rfl<|wZ rfl<|QG<|JG we mixed tE<|QK (QH rfl Eb JK)<|QK (Qe rfl JK .here .h1)<|QK (QH rfl Bm Vj)<|QK (Qe rfl Vj .here (.skip .h1))<|QK (GS rfl rfl KB)<|QK (QF rfl)<|QK (QF rfl)<|Q7<|QC<|QX ?_
 exact Je ((g.s,g.q.isNone)) I (wU I I) rfl λF _=>hk
theorem Oy{m:Sl}{w0:World}{F0:Gs}{bs:List (Nat×Obj)}{G:Gs->Prop}{ty:TypeId}{l:List Int}(hx:ev m x=some (.pointer (some ⟨b,off+i*1,none⟩)))(ht:Z5 P T=some (false,n))(hr:∀F,G F->Vf F ⟨some ⟨b,off,none⟩,k,cap⟩ l)(hi:i<l.length):
  Qt P N m (St ⟨w0,F0,bs,G⟩) (.load T x) ty (.int .u64 (l.getD i 0)):=λa w _ _ _ _ ha f=>by
 obtain⟨F,f⟩:=f;obtain⟨q,o,e,_,_,hc⟩:=(hr F f.hG).1 w f.fits.r;obtain⟨b',h,u,_,s⟩:=hc i hi;simp only[Sr.v,bw]at e;have j:=e.1.trans u;simp only[bN,fm]at j;obtain⟨rfl,rfl,_⟩:=j;have g:w.cell? ⟨b,off+i*1,none⟩=some (.int .u64 (l.getD i 0)):=by rw[fU];exact s
 have c:=Z1 (P:=P) ht g;simp at c;simp[execOp,ha.ev hx,eT,eH,c]
theorem Vf.at{r:Sr}{l:List Int}(h:Vf F r l){w:World}(c:Fits F w)(f:l≠[]):r.n=l.length/\∃b off,r.q=some ⟨b,off,none⟩:=by
 obtain⟨q,cap,e,_,_,hc⟩:=h.1 w c.r;have a:0<l.length:=by cases l with | nil=>exact absurd rfl f | cons=>simp
 obtain⟨b,off,g,_,_⟩:=hc 0 a;simp only[Sr.v,bw]at e;exact⟨e.2.1,b,off,e.1.trans g⟩
theorem Vf.len{r:Sr}{l:List Int}(h:Vf F r l){w:World}(a:Fits F w):r.n=l.length:=by
 obtain⟨q,cap,e,_,_,hc⟩:=h.1 w a.r;simp only[Sr.v,bw]at e;exact e.2.1
theorem j7(h1:2^k<=z.natAbs)(h2:z.natAbs<2^(k+1)):sz z=k+1:=by
 have a:=(XD z (k+1)).2 h2;have b:¬sz z<=k:=λh=>tD<|(XD z k).1 h
 omega
theorem qg{l:List Int}(hd:DG W l)(w:NZ l)(A:l≠[]){a:Int}(ha:dv W l=Js a):sz a=64*(l.length-1)+bD (l.getD (l.length-1) 0).toNat/\bD (l.getD (l.length-1) 0).toNat<=64:=by
 rcases LK l with h | ⟨m,x,rfl⟩
 ·exact absurd h A
 have hx:=hd x tJ;have u:x≠0:=by intro e;subst e;simp[NZ]at w
 have hm:DG W m:=hd.left;have D:((m++[x]).getD ((m++[x]).length-1) 0)=x:=tJ;rw[D];have C:(m++[x]).length-1=m.length:=tJ;rw[C];have o:W=18446744073709551616:=rfl;obtain⟨y,rfl⟩:=fJ hx.1;rw[ba];have b:y<2^64:=by have:=hx.2;rw[o]at this;omega
 obtain⟨s,f,n⟩:=Lib.bitLenAux_bounds 64 y b O;change 1<=bD y at s;change 2^(bD y-1)<=y at f;change y<2^bD y at n;have B:bD y<=64:=Lib.bitLen_le y 64 O b;refine⟨?_,B⟩;rw[X9]at ha;have h0:=JJ (by decide:(0:Int)<W) hm;have h1:=Kl (by decide:(0:Int)<W) hm;obtain⟨d,i⟩:=fJ h0;have j:W^m.length=((2^(64*m.length):Nat):Int):=by
  rw[o,lF];simp
 rw[j]at ha h1;rw[i]at ha h1;have c:a.natAbs=d+2^(64*m.length)*y:=by
  have:((a.natAbs:Nat):Int)=((d+2^(64*m.length)*y:Nat):Int):=by
   rw[<-VQ,<-ha];simp
  exact Int.ofNat.inj this
 have z:d<2^(64*m.length):=O;obtain⟨k,hk⟩:∃k,bD y=k+1:=⟨_,(Nat.sub_add_cancel s).symm⟩;rw[hk]at f n ⊢;rw[iA]at f;have hp:2^(64*m.length+k)=2^(64*m.length)*2^k:=lG _ _ _;have g:2^(64*m.length+k+1)=2^(64*m.length)*2^(k+1):=by rw[eQ,lG]
 refine j7 (k:=64*m.length+k) ?_ ?_
 ·rw[c,hp];exact ab (aL _ f) (Nat.le_add_left _ _)
 rw[c,g];have h2:2^(64*m.length)*(y+1)<=2^(64*m.length)*2^(k+1):=aL _ n;rw[lH]at h2;omega
theorem QCN(A:Fits F w)(h:XH F g a)(n:sz a<=1000000000):Qf prog 269 [g.v] w F (.int .i64 (sz a)):=by
 refine QU.intro (G:=λF=>XH F g a) func269 rfl tH rfl rfl A (λF' u=>h.le u)<|wa<|Qp rfl (vs:=[_,_]) rfl λb1=>wZ rfl<|wa<|QA (wN I Qi .here) ?_
 refine QI I (λ_ _ f k=>Nu f (by assumption)) (λD=>?_);rcases D with ⟨B,m⟩;dsimp only;refine JQ _ (λw F A ⟨C,⟨h7,x⟩⟩=>bG h7.2 x) (λb=>JQ _ (λ_ _ f k=>k.2.1.len f) λj=>?_);have s:=ZE b.1.1 b.1.2 b.2 n
 try dsimp only at j
 refine wD 11 I<|QA (Qg I KB)<|wD 3 I ?_
 refine QQ I (λhc=>?_) λhc=>?_
 ·refine wA 6 I ?_;exact QP () I (wT I) (by have h0:m=[]:=aI (by simp at hc;omega);have e:=b.2;rw[h0]at e;have:a=0:=(by have:=VQ a;simp at e;omega);subst this;rfl) tL
 refine wC 4 I ?_;have l:m≠[]:=by rintro rfl;simp at hc;simp at j;omega
 have z:0<m.length:=by cases m with | nil=>exact absurd rfl l | cons=>simp
 have o:=qg b.1.1 b.1.2 l b.2;refine JQ _ (λ_ _ f k=>(k.2.1.at f l).2) (λc=>?_);obtain⟨L,K,c⟩:=c;obtain⟨E,H,y⟩:=B
 try dsimp only at c j
 subst c;subst j;dsimp only;refine wW I<|QA (Qg I KB)<|QA (X3 I I O)<|QA (Mx I I O)<|wB 2 I<|QA (Qg I KB)<|QA (X3 I I O)<|QA (JL (i:=m.length-1) rfl wS KB Pn O)<|QA (Oy I Pn (λF h9=>h9.2.1) O)<|QI I (λ_ _ f k=>dX f (b.1.1.getD tF _).1 (by have:=(b.1.1.getD tF (m.length-1)).2;have M:W=18446744073709551616:=rfl;omega)) λ_=>QA (Qu I I O)<|wD 4 I ?_
 exact QP () I (wT I) (congrArg (ak .i64) (tD o.1)) tL
def D3{l:List UInt8}(h:ZJ l=true):sz (Jc l:Int)<=4*l.length:=by
 rw[XD,Int.natAbs_natCast,lF];exact aA (Hb h) (eP tF _)
def QFB(n:Nat):(if(n:Int)<18 then(n:Int)else 18)=((min 18 n:Nat):Int):=by split<;>omega
def LV:Jc (l.take (k+n))=Jc (l.take k)*10^((l.drop k).take n).length+Jc ((l.drop k).take n):=by
 rw[<-Kb,List.take_add]
def AP(k:Nat):sz ((10:Int)^k)<=4*k+1:=by have:=DR 10 k;rw[show sz 10=4 by decide]at this;omega
structure QAT(n:Nat) where
 k:Nat
 g:Bg
 le:k<=n
theorem P6(H:Fits F w)(z:ZJ (ag s [45])=true)(Q:s.length<=10000000):ZP prog 178 [tx s] w F (Y9 s):=by
 have D:(ag s [45]).length<=s.length:=by unfold ag;split<;>simp
 have h:Y9 s=if aB s [45]then -(Jc (ag s [45]):Int)else(Jc (ag s [45]):Int):=by
  unfold Y9 ag;split<;>simp_all
 rw[h];refine QU.intro (G:=λ_=>True) func178 rfl tH rfl rfl H tL<|wa<|Qc Ym λb2=>wY<|wb rfl<|QI rfl (λ_ _ f _=>Fa f ) λ_=>wZ rfl<|wb rfl<|QI rfl (λ_ _ f k=>D0 f ) λ_=>wZ rfl<|wa<|QA (Q4 rfl QBO Ym .nil)<|Qc Ym λb4=>QW (vs:=[_,_]) rfl rfl rfl Qi rfl .here .h2 wm ?_
 refine wD 4 I ?_;generalize ag s [45]=l at *
 refine YB (ι:=QAT l.length) (λi=>[(0,tx (l.drop i.k)),(2,.pointer (some ⟨b2,0,none⟩)),(4,.pointer (some ⟨b4,0,none⟩)),(3,.bool (aB s [45]))]) (λi=>[(b4,.cells #[.int .i64 i.g.s,.slice i.g.q i.g.n i.g.cap] 133 (0,0)),(b2,.cells #[.int .i64 0,.slice none 0 0] 133 (0,0))]) (λi F=>XH F i.g (Jc (l.take i.k))) (λi=>l.length-i.k)
  ⟨0,⟨0,none,0,0⟩,eI _⟩ wv we (λF _=>XH.small F tF tF) λi=>?_
 refine wA 4 I<|QA (Xc I Zm)<|wD 3 I ?_
 refine QQ I (λhc=>?_) λhc=>?_
 ·refine wC 6 I<|QA (Xc I Zm)<|QA (vR I I) ?_
  rw[QFB];have E:i.k<l.length:=by simp at hc;omega
  have j:((l.drop i.k).take (min 18 (l.drop i.k).length)).length=min 18 (l.drop i.k).length:=tJ;have b:ZJ ((l.drop i.k).take (min 18 (l.drop i.k).length))=true:=MZ (Tc z _) _;have A:=Hb b;have B:(10:Nat)^((l.drop i.k).take (min 18 (l.drop i.k).length)).length<=10^18:=bJ tF O;have C:0<min 18 (l.drop i.k).length:=tK;have x:sz (Jc (l.take i.k):Int)<=40000000:=ab (D3 (MZ z _)) tK;refine wZ rfl<|wb rfl<|wW rfl<|QA (Mj (min 18 (l.drop i.k).length) rfl rfl Zm rfl O)<|QI rfl (λ_ _ f k=>QCO f O (qi b (by intro e;rw[e]at j;simp at j;omega))) λ_=>wD 8 I<|Jq 8 we mixed tE tE ?_
  simp only[aT,bB,aU,aP];refine QK (wN I Qi .here)<|QR I (λ_ _ f k=>Ar f O O) λP=>QK (QD I)<|QR I (λ_ _ f k=>xt f k.2 O O (by rw[ba,show sz 10=4 by decide];omega)) λN=>QR I (λ_ _ f k=>DI f k.1.1.1 k.2 O (by rw[ba];exact ab (AP _) O)) λM=>QK (QD I)<|QR I (λ_ _ f k=>Ar f O O) λL=>QR I (λ_ _ f k=>CZ f k.1.2 k.2 (ab (Xn x (AP _)) (by rw[ba];omega)) (ab (D3 b) O)) λu=>ZS<|QW (vs:=[_,_]) I I I Qi I .here .h2 wm<|wD 5 I<|QA (GL (min 18 (l.drop i.k).length) rfl rfl Zm I O)<|wB 2 I<|Qj ?_
  refine Ql (⟨i.k+min 18 (l.drop i.k).length,u,tK⟩:QAT l.length) tK ⟨(by show some (tx _)=some (tx _);simp),rfl,rfl,rfl,trivial⟩ we (λF ⟨_,o⟩=>by
   show XH F u (Jc (l.take (i.k+min 18 (l.drop i.k).length)):Int);rw[LV];rw[ba]at o;have e:((l.drop i.k).take (min 18 (l.drop i.k).length)).length=min 18 (l.drop i.k).length:=tJ;rw[e,Int.natCast_add,fj,fi];exact o)
 refine Qx ?_
 repeat first|refine QY ?_|refine QO tH ?_
 refine QZ<|wE 7 I ?_
 have a:l.take i.k=l:=ao (by have:=i.le;simp at hc;omega);clear hc;refine QQ I (λhc=>?_) λhc=>?_
 ·refine wa<|QA (wN I Qi .here)<|QI I (λ_ _ f k=>RO f k) λK=>QW (vs:=[_,_]) I I I Qi I .u1 .h2 wm<|wY<|QX ?_
  exact QP (_) rfl (.JX (c:=[_,_]) I Qi .u1 .nil) rfl λF ⟨y,m⟩=>(by rw[a]at m;rw[if_pos hc];exact m)
 refine wC 4 I<|QA (wN I Qi .here)<|QW (vs:=[_,_]) I I I Qi I .u1 .h2 wm<|wY<|QX ?_
 exact QP (_) rfl (.JX (c:=[_,_]) I Qi .u1 .nil) rfl λF y=>(by rw[a]at y;rw[if_neg (by simp[hc])];exact y)
section
variable[Dr][df:Df]{P:Program}{Q:Exit->Act->World->Prop}{N:Nat}{m:Sl}{E E0:Env}{ops:Array Oper}{l:List Oper}{w0:World}{F0:Gs}{bs:List (Nat×Obj)}{G:Gs->Prop}
theorem St.kF(h:St ⟨w0,F0,bs,G⟩ w)(c:Array Value)(T:TypeId):St ⟨w0,F0,bs,λF=>G F/\F w.heap.size=some (c,T)⟩ (w.alloc (.cells c T)):=by
 obtain⟨F,h⟩:=h;have f:=h.fits.none (aE w.heap.size);have l:Gs.le F (λi=>if i=w.heap.size then some (c,T)else F i):=λi x hx=>by
  by_cases e:i=w.heap.size
  ·subst e;rw[f]at hx;cases hx
  show(if _ then _ else _)=_;rw[if_neg e];exact hx
 have a:(w.alloc (.cells c T)).heap[w.heap.size]?=some (.cells c T):=by show(w.heap.push _)[_]?=_;simp
 refine⟨_,Gs.le_trans h.le l,λb hb=>?_,⟨λb n T' hb=>?_,λb n fr hb=>?_⟩,h.ext.alloc _,λk hk=>?_,h.nd,λF' m=>⟨h.g F' (Gs.le_trans l m),m _ _ (if_pos rfl)⟩⟩
 ·have o:b<w.heap.size:=aA hb h.ext.size;rw[if_neg O];exact h.old b hb
 ·by_cases e:b=w.heap.size
  ·subst e;rw[if_pos rfl]at hb;cases hb;exact⟨_,a⟩
  rw[if_neg e]at hb;obtain⟨fr,s⟩:=h.fits.row b n T' hb;exact⟨fr,by rw[eX _ _ _ (h.fits.lt hb)];exact s⟩
 ·by_cases e:b=w.heap.size
  ·subst e;rw[a]at hb;cases hb;show(if _ then _ else _)=_;rw[if_pos rfl]
  show(if _ then _ else _)=_;rw[if_neg e];have j:b<w.heap.size:=by
   rcases aR b w.heap.size with g | g
   ·exact g
   exfalso;have:(w.heap.push (.cells c T))[b]?=some (.cells n 297 fr):=hb;rw[fF tK]at this;cases this
  rw[eX _ _ _ j]at hb;exact h.fits.all b n fr hb
 obtain⟨h1,h2,h3⟩:=h.bx k hk;have j:k.1<w.heap.size:=by
  rcases aR k.1 w.heap.size with g | g
  ·exact g
  rw[fF g]at h1;cases h1
 exact⟨by rw[eX _ _ _ j];exact h1,h2,by rw[if_neg O];exact h3⟩
section
variable{d:Nat}{ty:TypeId}{pos:String}{aft:Array Edge}
theorem Qb{t e:TypeId}{sz:Nat}{z:List Value}{g:Bool}{parts:Array (Nat×Operand)}{ps:List (Nat×Value)}(hp:GC m parts.toList=some ps)(ht:P.underlying t=some (.slice e))(h:Z5 P e=some (g,sz))(hz:XI P e=some z)
  (hc:Kg sz 0 ps=some cs) (j:cs.length=n*sz) (k:∀b,JS P ops Q l N ((d,.slice (some ⟨b,0,none⟩) n n)::m) ⟨w0,F0,bs,λF=>G F/\F b=some (cs.toArray,e)⟩) (c:jg (n*sz) 16777216=true:=by rfl) (i:Nat.beq (n*sz) 0=false:=by rfl)
  (hd:J5 N (some d)=true:=by rfl):JS P ops Q (⟨some d,.buildSlice t n parts,ty,pos,aft,none⟩::l) N m ⟨w0,F0,bs,G⟩:=λa w ha f =>
 wpList_plain rfl λ_ o=>upon_value (VA ha hp ht h hz hc j c i) (o _ _ (k _ _ _ (ha.put hd _) (f.kF _ _)))
theorem Z4{t e:TypeId}{sz bytes:Nat}{z:List Value}{g:Bool}{X Y:Operand}{x y:Value}{news:List Value}{bs1:List (Nat×Obj)}(hx:ev m X=some x)(hy:ev m Y=some y)(ht:Gp P t=some e)(A:Z5 P e=some (g,sz))(hz:XI P e=some z)(f:z.length=sz)(i:ZK P e=some bytes)
  (hr:Q8 e sz x n olds ob) (b:Src ⟨w0,F0,bs1++ob,G⟩ sz y k news) (j:n+k<=9223372036854775807) (o:(n+k)*bytes<=140737488355328) (h1:∀v∈news,v.oneCell'=true)
  (s:∀v' ob',Q8 e sz v' (n+k) (olds++news) ob'->JS P ops Q l N ((d,v')::m) ⟨w0,F0,bs1++ob',G⟩) (hu:Hi e=true:=by rfl) (hd:J5 N (some d)=true:=by rfl) :
  JS P ops Q (⟨some d,.call ⟨.builtin .append,#[X,Y],#[t,t]⟩,ty,pos,aft,none⟩::l) N m ⟨w0,F0,bs1++ob,G⟩ :=
 ZL eD (Mf hx hy ht A hz f i hr ⟨b.len,b.rd.imp id λ⟨a,c,C,B⟩=>⟨a,c,C,λw u=>B w (u.perm eD)⟩⟩ j o h1
  (λv' ob' h=>ZL eD (s v' ob' h)) hu hd)
end
theorem Own.skip{l:List (Nat×Obj)}{o:Obj}(h:Own l b o f):∀p:List (Nat×Obj),Own (p++l) b o (λo'=>p++f o')
 |[]=>h
 |_::p=>.there (h.skip p)
theorem C8{e ty:TypeId}{sz n':Nat}{v:Value}{u:Value}(hr:Q8 e sz v n cs ob)(hm:∀k∈ob,k∈bs)(hb:v = .slice (some ⟨b,0,none⟩) n n')(hx:ev m x=some (.pointer (some ⟨b,0+i*1,none⟩)))(ht:Z5 P T=some (false,1))(hu:cs[i]?=some u):
  Qt P N m (St ⟨w0,F0,bs,G⟩) (.load T x) ty u:=λa w _ _ _ _ ha hw=>by
 obtain⟨F,hw⟩:=hw;cases hr with
 |nil=>simp at hu
 |some g1 g2 g3 g4 =>
  rename_i b' cap rest;simp only[bw,bN,fm]at hb;have hbb:=hb.1.1;subst hbb;have hi:i<cs.length:=by rcases aR i cs.length with h | h;exact h;rw[aX h]at hu;cases hu
  have hc:w.cell? ⟨b',0+i*1,none⟩=some u:=by
   rw[ZI (hw.bx (b',.cells (cs++rest).toArray e (0,0)) (hm _ tJ)).1,aV,fU,aQ,if_pos hi];exact hu
  have hrun:=Z1 (P:=P) ht hc;simp only[execOp,ha.ev hx,eT,eH,eu,er,bA,hrun]
end
def hd(q:Nat):List UInt8:=if q=0 then[]else ae q
def pL(h:0<n):hd n=hd (n/10^18)++(if n/10^18=0 then ae (n%10^18)else Hq 18 (ae (n%10^18))):=by
 unfold hd;rw[if_neg O];split
 ·rename_i h0;rw[ee];congr 1;omega
 rename_i h0;rw[<-Ws O 18 _ tF (Nat.mod_lt _ tF)];congr 1;rw[fN];exact(Nat.div_add_mod n (10^18)).symm
theorem qF{l:List Int}(hd:DG W l)(a:NZ l)(h:dv W l<W):(l=[]\/l=[dv W l]):=by
 cases l with
 |nil=>exact .inl rfl
 |cons x r =>
  cases r with
  |nil=>right;simp
  |cons y r =>
   exfalso;have:=Rm (by decide:(0:Int)<W) hd a tJ;have h2:=X0 (b:=W) tF (show 1<=(x::y::r).length-1 by simp);rw[Int.pow_one]at h2;omega
structure qw(n:Nat) where
 l:List Int
 r:Sr
 ps:List (List UInt8)
 v:Value
 ob:List (Nat×Obj)
 dg:DG W l
 nz:NZ l
 le:(dv W l).toNat<=n
 hr:Q8 9 1 v ps.length (ps.map tx) ob
 ne:∀p∈ps,p≠[]
 inv:hd (dv W l).toNat++ps.reverse.flatten=hd n
def Fl:∀ {ps:List (List UInt8)},(∀p∈ps,p≠[])->ps.length<=ps.flatten.length
 |[],_=>tJ
 |p::ps,h=>by
  have h1:=Fl (ps:=ps) (λq hq=>h q (by simp[hq]));have h2:0<p.length:=by
   have:=h p tJ;cases p with | nil=>exact absurd rfl this | cons=>simp
  simp[fX]at h1 ⊢;omega
def yN(h:n<2^k):(hd n).length<=k:=by
 unfold hd;split
 ·simp
 rename_i h0;rw[aS];have hk:0<k:=by rcases iz k with e | e;subst e;simp at h;omega;exact e
 exact Ke (aA h (eP tF k)) hk
def T1(ps:List (List UInt8)):ps.reverse.flatten.length=ps.flatten.length:=by
 induction ps with
 |nil=>rfl
 |cons p ps ih=>simp[bO];simp[fX]at ih ⊢;omega
def qw.few(i:qw n)(h:n<2^k):i.ps.length<=k:=by
 have h1:=Fl i.ne;have h2:=congrArg fe i.inv;rw[aq,T1]at h2;have h3:=yN h;omega
def QBR(h:l≠[]):Hq 18 l≠[]:=by
 unfold Hq;simp[h]
def qw.next{n:Nat}(i:qw n)(k:i.l≠[])(q:List Int)(j:Sr)(f:Value)(a:List (Nat×Obj))(s:List UInt8)(c:DG W q)(b:NZ q)(hq:(dv W q).toNat=(dv W i.l).toNat/10^18)
  (g:s=if(dv W q).toNat=0 then ae ((dv W i.l).toNat%10^18)else Hq 18 (ae ((dv W i.l).toNat%10^18)))
  (hr:Q8 9 1 f (i.ps.length+1) (i.ps.map tx++[tx s]) a):qw n where
 l:=q
 r:=j
 ps:=i.ps++[s]
 v:=f
 ob:=a
 dg:=c
 nz:=b
 le:=by have:=i.le;have:=Nat.div_le_self (dv W i.l).toNat (10^18);omega
 hr:=by simpa using hr
 ne:=by
  intro p hp;rcases List.mem_append.1 hp with h | h
  ·exact i.ne p h
  rw[List.mem_singleton.1 h,g];split
  ·exact Kn _
  exact QBR (Kn _)
 inv:=by
  have h0:0<(dv W i.l).toNat:=by
   have h1:=JJ (by decide:(0:Int)<W) i.dg;have h2:=mt (GF (by decide:(1:Int)<W) i.dg i.nz).1 k;omega
  rw[<-i.inv,pL h0,<-hq,g];simp[bO]
def yh{q l:List Int}{b:Int}(hb:b=1000000000000000000)(h:dv W q=dv W l/b)(h0:0<=dv W l):(dv W q).toNat=(dv W l).toNat/10^18:=by
 subst hb;rw[h];omega
def pe{r l:List Int}{b:Int}(hb:b=1000000000000000000)(h:dv W r=dv W l%b)(h0:0<=dv W l):(dv W r).toNat=(dv W l).toNat%10^18/\dv W r<1000000000000000000/\0<=dv W r:=by
 subst hb;rw[h];omega
structure kQ(b:Nat)(pre:List UInt8)(ps:List (List UInt8)) where
 k:Nat
 uX:List (Nat×Obj)
 le:k<=ps.length
 bl:Iu b (pre++(ps.drop k).reverse.flatten) uX
def dG(h:a≠0):(if a<0 then[45]else[])++hd a.natAbs=Ze a:=by
 have h0:a.natAbs≠0:=O;unfold hd;rw[if_neg h0];by_cases h1:a<0
 ·rw[if_pos h1,Yo h1];rfl
 rw[if_neg h1,XJ O];rfl
theorem Vf.base{x:Int}(h:F b=some ([ak .u64 x].toArray,297))(h0:0<x)(h1:x<W):Vf F ⟨some ⟨b,0,none⟩,1,1⟩ [x]:=by
 refine⟨λw c=>?_,?_,?_⟩
 ·obtain⟨fr,e⟩:=c b _ _ h;refine⟨_,1,rfl,tJ,tF,λi hi=>?_⟩;have a:i=0:=by simp at hi;omega
  subst a;exact⟨b,0,rfl,⟨_,_,e⟩,by simp[eG,e];rfl⟩
 ·intro y hy;rw[List.mem_singleton.1 hy];omega
 simp[NZ];omega
theorem D9(D:Fits F w)(hG:JE F)(h:XH F g a)(hza:sz a<=100000000):Qf prog 227 [g.v] w F (tx (Ze a)):=by
 have hk:=KF.kind (h w D.r);have U:a.natAbs<2^sz a:=E6 a;refine QU.intro (G:=λF=>JE F/\XH F g a) func227 rfl tH rfl rfl D (λF' hF'=>⟨hG.le hF',h.le hF'⟩)<|wa<|Qp rfl (vs:=[_,_]) rfl λb1=>wZ rfl<|QG<|wa<|QA (QH rfl Bm Vj)<|QA (Qe rfl Vj .here (.skip .h1))<|QA (GS rfl rfl KB)<|QE<|QC ?_
 refine QQ I (λhc=>?_) λhc=>?_
 ·refine wa<|QA (QH rfl Eb JK)<|QA (Qe rfl JK .here .h1)<|QI rfl (λw F D ⟨P,hB⟩=>yJ D P (by rcases hk with hk | hk;omega;rw[hk.1]at hc;cases hc) (by rcases hk with hk | hk;omega;rw[hk.1]at hc;cases hc)) λ_=>wZ rfl<|QX ?_
  exact QP () rfl (wT rfl) (by rcases hk with hk | hk;rw[hk.2.1];rfl;rw[hk.1]at hc;cases hc) tL
 refine wC 4 I<|QA (wN I Qi .here) ?_
 refine QI I (λw F D ⟨P,hB⟩=>Nu D (by assumption)) (λc20=>?_);rcases c20 with ⟨v20,l20⟩;dsimp only;refine JQ _ (λw F D ⟨⟨P,hB⟩,⟨h20,h20p⟩⟩=>bG h20.2 h20p) (λQ=>?_);have ha0:a≠0:=by rcases hk with hk | hk;rw[hk.1]at hc;cases hc;omega
 have hn20:(dv W l20).toNat=a.natAbs:=by rw[Q.2,VQ];rfl
 refine wD 9 I<|Qb I (Q5 KB) Pn QEJ I I λC=>wD 10 I ?_
 refine YB (ι:=qw a.natAbs) (λi=>[(3,.bool (decide (a<0))),(4,.slice i.r.q i.r.n i.r.cap),(5,.slice (some ⟨C,0,none⟩) 1 1),(6,i.v)]) (λi=>i.ob) (λi F=>JE F/\Vf F ⟨some ⟨C,0,none⟩,1,1⟩ [1000000000000000000]/\Vf F i.r i.l) (λi=>(dv W i.l).toNat)
  ⟨l20,v20,[],.slice none 0 0,[],Q.1.1,Q.1.2,O,.nil,tJ,by rw[hn20];simp⟩ wv tQ (λF h9=>⟨h9.1.1.1,Vf.base h9.2 tF tF,h9.1.2.1⟩) λi=>?_
 refine XV _ (λ_ _ f h=>h.2.2.len f) (λhil=>wA 4 I<|QA (Qg I KB)<|wD 3 I ?_);refine QQ I (λhc=>?_) λhc=>?_
 ·have hne:i.l≠[]:=by intro e;rw[e]at hil;simp at hc;simp at hil;omega
  have h0i:=JJ (by decide:(0:Int)<W) i.dg;have S:0<(dv W i.l).toNat:=by
   have:=mt (GF (by decide:(1:Int)<W) i.dg i.nz).1 hne;omega
  have hlen:i.l.length<=10000000000:=by
   have hle:=i.le;have h3:=ZE (z:=dv W i.l) i.dg i.nz (by unfold Js;split<;>omega) (ab (KX (by omega:(dv W i.l).natAbs<=a.natAbs)) (ab hza tF));omega
  refine wC 7 I ?_;refine QI I (λ_ _ f k=>Ft (r:=i.r) (r':=⟨some ⟨C,0,none⟩,1,1⟩) (la:=i.l) (lb:=[1000000000000000000]) f k.2.2 k.2.1 (List.cons_ne_nil _ _) hlen (fS I)) (λc30=>?_);rcases c30 with ⟨⟨A,x⟩,v30_,m⟩;dsimp only;refine JQ _ (λw F D ⟨⟨P,⟨hbase,hL⟩⟩,⟨⟨Y,L⟩,h30p⟩⟩=>bG Y.2 (bG L.2 h30p)) (λB=>?_);have hb1:dv W [1000000000000000000]=1000000000000000000:=tJ;have hq:=yh hb1 B.2.2.1 h0i;have hr:=pe hb1 B.2.2.2 h0i;have h1d:=qF B.2.1.1 B.2.1.2 (by have hW:W=18446744073709551616:=rfl;omega);refine JQ _ (λw F D ⟨_,⟨⟨Y,L⟩,_⟩⟩=>bG (Y.len D) (L.len D)) (λpl=>wW rfl<|QA (Qa rfl rfl)<|QA (Qa rfl rfl)<|wX rfl<|wZ rfl<|wa<|wX rfl<|QE<|QC ?_);refine BR (ι:=Unit) (λ_=>[(3,.bool (decide (a<0))),(5,.slice (some ⟨C,0,none⟩) 1 1),(6,i.v),(7,.slice A.q A.n A.cap),(9,tx (ae ((dv W i.l).toNat%10^18)))]) (λ_=>i.ob) (λ_ F=>JE F/\Vf F ⟨some ⟨C,0,none⟩,1,1⟩ [1000000000000000000]/\Vf F A x) ?_ ?_
  ·refine wb I<|QA (Qg I KB)<|wD 3 I ?_
   refine QQ I (λhc=>?_) λhc=>?_
   ·have hl1:m=[dv W m]:=by
     rcases h1d with e | e
     ·exfalso;rw[e]at pl;simp at hc;simp at pl;omega
     exact e
    have hll:m.length=1:=by rw[hl1];rfl
    have hg0:m.getD 0 0=(((dv W i.l).toNat%10^18:Nat):Int):=by
     have:m.getD 0 0=dv W m:=by rw[hl1];simp
     rw[this];omega
    refine XV _ (λw F D ⟨_,⟨_,h⟩,_⟩=>(h.at D (by intro e;rw[e]at hll;simp at hll)).2) (λM=>wA 2 I ?_);obtain⟨qb,qo,M⟩:=M;obtain⟨vq,vn,vcap⟩:=v30_;dsimp only at M pl;subst M;refine QA (JL (i:=0) rfl rfl KB Pn (by dsimp only;omega))<|QA (Oy (l:=m) rfl Pn (λF h9=>h9.2.1.2) O) ?_
    rw[hg0];refine QI I (λ_ _ f k=>UX f k.1.1 O) (λ_=>wB 2 I ?_);exact Za () wy we λF h9=>⟨h9.1.1.1,h9.1.1.2.1,h9.1.2.1.1⟩
   refine QN ?_;have e0:(dv W i.l).toNat%10^18=0:=by
    rcases h1d with e | e
    ·rw[e]at hr;simp at hr;omega
    have:=congrArg fe e;simp at this;simp at hc;omega
   exact Za () ⟨rfl,rfl,rfl,rfl,(by show some (tx _)=some (tx _);rw[e0,YX]),trivial⟩ we λF h9=>⟨h9.1.1,h9.1.2.1,h9.2.1.1⟩
  intro xg9;refine BR (ι:=Unit) (λ_=>[(3,.bool (decide (a<0))),(5,.slice (some ⟨C,0,none⟩) 1 1),(6,i.v),(7,.slice A.q A.n A.cap),(9,tx ((if(dv W x).toNat=0 then ae ((dv W i.l).toNat%10^18)else Hq 18 (ae ((dv W i.l).toNat%10^18)))))]) (λ_=>i.ob) (λ_ F=>JE F/\Vf F ⟨some ⟨C,0,none⟩,1,1⟩ [1000000000000000000]/\Vf F A x) ?_ ?_
  ·refine wb I<|QA (Qg I KB)<|wD 3 I ?_
   refine QQ I (λhc=>?_) λhc=>?_
   ·have R:(dv W x).toNat≠0:=by
     have h1:=JJ (by decide:(0:Int)<W) B.1.1;have h2:x≠[]:=by intro e;rw[e]at pl;simp at hc;simp at pl;omega
     have:=mt (GF (by decide:(1:Int)<W) B.1.1 B.1.2).1 h2;omega
    have hd18:(ae ((dv W i.l).toNat%10^18)).length<=18:=by rw[aS];exact Ke (Nat.mod_lt _ tF) tF
    refine wA 2 I<|QA (Xc I Zm)<|QA (X3 I I O) ?_
    rw[show(18:Int)-((ae ((dv W i.l).toNat%10^18)).length:Int)=((18-(ae ((dv W i.l).toNat%10^18)).length:Nat):Int) by omega];refine QI I (λ_ _ f _=>xT f tK O) (λ_=>wW I<|QA (Yf I I (by rw[Lib.repeatL_length];simp only[eE];omega))<|wB 2 I ?_);exact Za () ⟨rfl,rfl,rfl,rfl,(by show some (tx _)=some (tx _);rw[if_neg R];rfl),trivial⟩ we tN
   refine QN ?_;have R:(dv W x).toNat=0:=by
    have h2:x=[]:=aI (by simp at hc;omega);rw[h2];rfl
   exact Za () ⟨rfl,rfl,rfl,rfl,(by show some (tx _)=some (tx _);rw[if_pos R]),trivial⟩ we tM
  intro xg11;refine wA 4 I<|Y2 I (Q5 Kw) Du z_9 I I λb51=>?_
  have hfew:=i.few U;refine Z4 (bs1:=[_]) (ob:=i.ob) (k:=1) (sz:=1) (news:=[tx (if(dv W x).toNat=0 then ae ((dv W i.l).toNat%10^18)else Hq 18 (ae ((dv W i.l).toNat%10^18)))]) I I Kw Du z_9 I QHr i.hr (Src.xS (b:=b51) (T:=9) (fr:=(0,0)) (c:=1) List.mem_cons_self I) O O (λu hu=>by rw[List.mem_singleton.1 hu];rfl) (λv' ob' hr'=>wD 7 I<|Qj ?_);exact Ql (i.next hne x A v' ob' (if(dv W x).toNat=0 then ae ((dv W i.l).toNat%10^18)else Hq 18 (ae ((dv W i.l).toNat%10^18))) B.1.1 B.1.2 hq rfl hr') (by show(dv W x).toNat<(dv W i.l).toNat;rw[hq];exact Nat.div_lt_self S tF) wv (.cons _ we) tM
 refine Qx ?_
 repeat first|refine QY ?_|refine QO tH ?_
 refine QZ<|QC ?_
 have hi0:i.l=[]:=aI (by simp at hc;omega);have hfl:i.ps.reverse.flatten=hd a.natAbs:=by have:=i.inv;rw[hi0]at this;simpa[hd]using this
 have hfew:=i.few U;have X:i.ps.reverse.flatten.length<=100000000:=by rw[hfl];exact ab (yN U) hza
 refine wa<|Qc uW λy=>QE<|QC ?_
 refine BR (ι:=kQ y (if a<0 then[45]else[]:List UInt8) i.ps) (λj=>[(6,i.v),(10,.pointer (some ⟨y,0,none⟩))]) (λj=>j.uX++i.ob) (λj F=>j.k=i.ps.length/\JE F) ?_ ?_
 ·refine wA 5 I ?_;refine QQ I (λhc=>?_) λhc=>?_
  ·refine QB ?_;have hneg:a<0:=wi hc;refine XX (bs1:=[_]++i.ob) rfl (bL _) (W7 (s:=[45]) (Iu.fresh (b:=y)) tJ) (λuX=>JQ _ (λ_ _ f h=>h.2) λE=>QE ?_);exact Za (⟨i.ps.length,uX,aE _,by rw[if_pos hneg];simpa using E⟩:kQ y (if a<0 then[45]else[]:List UInt8) i.ps) wm we λF h=>⟨rfl,h.1.1⟩
  refine QN ?_;exact Za (⟨i.ps.length,[_],aE _,by rw[if_neg (wj hc)];simpa using(Iu.fresh (b:=y))⟩:kQ y (if a<0 then[45]else[]:List UInt8) i.ps) wm we λF h=>⟨rfl,h.1⟩
 intro Z;refine XV _ (λ_ _ f h=>h.1) (λhk16=>?_);have H:∃q c6,i.v = .slice q i.ps.length c6:=by have:=i.hr;generalize i.v=v at this;generalize i.ps.map tx=q at this;generalize i.ps.length=n at this;generalize i.ob=o at this;cases this<;>exact⟨_,_,rfl⟩
 obtain⟨q6,c6,H⟩:=H;rw[H];refine wA 4 I<|QA (Qg I Kw)<|QA (X3 I I O)<|wD 4 I<|YB (ι:=kQ y (if a<0 then[45]else[]:List UInt8) i.ps) (λj=>[(6,.slice q6 i.ps.length c6),(10,.pointer (some ⟨y,0,none⟩)),(11,.int .i64 ((j.k:Int)-1))]) (λj=>j.uX++i.ob) (λ_ F=>JE F) (λj=>j.k) Z ⟨rfl,rfl,(by rw[hk16];rfl),trivial⟩ we tO λj=>?_
 have hjl:=j.le;refine wA 7 I ?_;refine QQ I (λhc=>?_) λhc=>?_
 ·have hj0:0<j.k:=by simp at hc;omega
  obtain⟨b6,hb6⟩:∃b6,q6=some ⟨b6,0,none⟩:=by
   have:=i.hr;rw[H]at this;generalize i.ps.map tx=q at this;generalize i.ob=o at this;generalize hnn:i.ps.length=n at this;cases this with
   |nil=>omega
   |some=>exact⟨_,rfl⟩
  subst hb6;have V:j.k-1<i.ps.length:=O;have hjj:(j.k:Int)-1=((j.k-1:Nat):Int):=O;refine wC 7 I<|QA (JL (i:=j.k-1) rfl (congrArg (λz:Int=>some (ak .i64 z)) hjj) Kw Du V)<|QA (C8 (i:=j.k-1) (u:=tx (i.ps[j.k-1])) (by have:=i.hr;rw[H]at this;exact this) (λk hk=>List.mem_append_right _ hk) rfl rfl Du (by simp[V])) ?_
  have K:(i.ps.drop (j.k-1)).reverse.flatten=(i.ps.drop j.k).reverse.flatten++i.ps[j.k-1]:=by
   rw[bj V,show j.k-1+1=j.k by omega];simp[bO]
  have N:((i.ps.drop (j.k-1)).reverse.flatten).length<=100000000:=by
   have e:i.ps.reverse.flatten=(i.ps.drop (j.k-1)).reverse.flatten++(i.ps.take (j.k-1)).reverse.flatten:=by
    rw[<-bO,<-List.reverse_append,aW]
   rw[e,aq]at X;omega
  rw[K,aq]at N;refine XX I (bL _) (W7 j.bl (by rw[aq];have hp:(if a<0 then[45]else[]:List UInt8).length<=1:=(by split<;>simp);omega)) (λuX=>JQ _ (λ_ _ f h=>h.2) λE=>QE<|Qj<|wE 3 I<|QA (X3 I I O)<|wB 2 I ?_);exact Ql (⟨j.k-1,uX,O,by rw[K,<-aZ];exact E⟩:kQ y (if a<0 then[45]else[]:List UInt8) i.ps) (by show j.k-1<j.k;omega) ⟨rfl,rfl,(by show some (ak .i64 ((j.k:Int)-1-1))=some (ak .i64 (((j.k-1:Nat):Int)-1));rw[hjj]),trivial⟩ we tN
 refine Qx ?_
 repeat first|refine QY ?_|refine QO tH ?_
 refine QZ<|wE 3 I ?_
 have hj0:j.k=0:=by simp at hc;omega
 have E:=j.bl;rw[hj0,aP,hfl,dG ha0]at E;refine NP (v:=tx (Ze a)) D rfl (enters_of func290 tH rfl) (λw' hw'=>Builder_String_any w.heap.size y (Ze a) w' (E.is hw') (by obtain⟨F',h'⟩:=hw';exact h'.ext.size))<|wD 4 I ?_
 exact QP () I (wT I) rfl tL
def Yq(c:UInt8)(s:List UInt8):List UInt8×List UInt8×Bool:=if s.contains c then(s.takeWhile (· != c),(s.dropWhile (· != c)).drop 1,true)else(s,[],false)
theorem UQ(c:UInt8)(s:List UInt8):iX s c=if s.contains c then((s.takeWhile (· != c)).length:Int)else -1:=by
 induction s with
 |nil=>rfl
 |cons b s ih =>
  unfold iX;by_cases h:b=c
  ·subst h;simp
  have h1:(b==c)=false:=beq_eq_false_iff_ne.2 h;have h2:(b != c)=true:=by simp[bne,h1]
  have h3:(c==b)=false:=beq_eq_false_iff_ne.2 (λe=>h e.symm);rw[ih];simp only[h1,bT,if_false,im,h3,fA,fW,h2,if_true];by_cases h4:s.contains c=true
  ·simp only[h4,if_true];have:(((s.takeWhile (· != c)).length:Int)==-1)=false:=by
    apply beq_eq_false_iff_ne.2;omega
   simp only[this,bT,if_false,aM];omega
  have h5:¬c∈s:=by simpa using h4
  simp[h5]
theorem WO(p:UInt8->Bool)(s:List UInt8):s.take (s.takeWhile p).length=s.takeWhile p/\s.drop (s.takeWhile p).length=s.dropWhile p:=by
 induction s with
 |nil=>simp
 |cons b s ih =>
  simp only[fW,fY];split<;>simp[ih]
def yw(c:UInt8)(s:List UInt8):fq s [c]=Yq c s:=by
 have h:Lib.index s [c]=if s.contains c then((s.takeWhile (· != c)).length:Int)else -1:=by
  rw[<-UQ];exact Lib.index_one s c
 unfold fq Yq;rw[h];by_cases h4:s.contains c=true
 ·simp only[h4,if_true];rw[if_pos O,ba,(WO _ s).1];have:=(WO (· != c) s).2;rw[<-List.drop_drop,this];rfl
 simp only[h4,bT,if_false];rw[if_neg O]
theorem Ei{a b:List UInt8}(h:a.contains c=false):Yq c (a++c::b)=(a,b,true):=by
 have h1:∀x∈a,(x != c)=true:=λx hx=>by
  simp only[bne_iff_ne,ne_eq];rintro rfl;have:a.contains x=true:=by simpa using hx
  rw[this]at h;cases h
 unfold Yq;rw[if_pos tJ];have h2:(a++c::b).takeWhile (· != c)=a:=by
  rw[List.takeWhile_append_of_pos h1];simp
 have h3:(a++c::b).dropWhile (· != c)=c::b:=by
  rw[List.dropWhile_append_of_pos h1];simp
 rw[h2,h3];rfl
def TW{a:List UInt8}(h:a.contains c=false):Yq c a=(a,[],false):=by
 unfold Yq;rw[h];simp
def CY(h:ZJ l=true)(hc:Iq c=false):l.contains c=false:=by
 cases hx:l.contains c with
 |false=>rfl
 |true =>
  have:c∈l:=by simpa using hx
  rw[ZJ,iF]at h;rw[h c this]at hc;cases hc
def Mk(z:Int)(hc:Iq c=false)(h:c≠45):(Ze z).contains c=false:=by
 by_cases hz:z<0
 ·rw[Yo hz,im,CY (Jy _) hc];simp[h]
 rw[XJ O];exact CY (Jy _) hc
def yv(r:Rat):fq (JP r) [47]=if r.den=1 then(Ze r.num,[],false)else(Ze r.num,ae r.den,true):=by
 rw[yw];unfold JP;split
 ·exact TW (Mk _ tF tF)
 exact Ei (Mk _ tF tF)
def Hf(z:Int):ag (Ze z) [45]=ae z.natAbs:=by
 unfold ag;by_cases h:z<0
 ·rw[Yo h];simp[aB,ei]
 rw[XJ O,Vn (Jy _)];simp
def WM(h:ZJ l=true):ag l [45]=l:=by
 unfold ag;rw[Vn h];simp
def YO(h:ZJ l=true):Y9 l=Jc l:=by
 unfold Y9;rw[Vn h];simp
def lim:Nat:=10^600
def UL(u:Nat):(600<(ae u).length)↔lim<=u:=by unfold lim;rw[aS];exact RP tF
def CC:2^1800<lim:=by
 decide +kernel
def Dp(z:Int):Bool:=decide (lim<=z.natAbs)
def Jh(r:Rat):Bool:=Dp r.num||Dp r.den
theorem zw(l:Fits F w)(hG:JE F)(h:XH F g a)(c:sz a<=100000000):Qf prog 187 [g.v] w F (.bool (Dp a)):=by
 refine QU.intro (G:=λF=>JE F/\XH F g a) func187 rfl tH rfl rfl l (λF' j=>⟨hG.le j,h.le j⟩)<|wa<|Qp rfl (vs:=[_,_]) rfl λb1=>wZ rfl<|wa<|QA (wN I Qi .here)<|QI rfl (λ_ _ f k=>QCN f k.2 (ab c tF)) λ_=>QA (QT rfl rfl rfl)<|wW rfl ?_
 refine Qn (t:=6) rfl (λi=>?_) λi=>?_
 ·refine QL I I<|QA (wN I Qi .here)<|QL I I<|QI I (λ_ _ f k=>D9 f k.1.1 k.1.2 c) λ_=>QL I I<|QI I (λ_ _ f k=>D0 f ) λ_=>QL I I<|QA (Xc I Zm)<|wD 7 I ?_
  exact QP () I (wT I) (congrArg ah (by rw[Hf];exact decide_eq_decide.2 (Iff.trans (b:=600<(ae a.natAbs).length) (UL a.natAbs).symm (by constructor<;>intro h<;>omega)))) tL
 refine wD 10 I ?_;exact QP () I (wT I) (congrArg ah (by have h1:=wj i;have h2:sz a<=1800:=O;have h3:=(XD a 1800).1 h2;exact decide_eq_false (Nat.not_le.2 (Nat.lt_trans h3 CC)))) tL
theorem EX{x:Fr}{r:Rat}(c:Fits F w)(hG:JE F)(h:JR F x r)(hz:JW r<=100000000):Qf prog 93 [x.v] w F (.bool (Jh r)):=by
 refine QU.intro (G:=λF=>JE F/\JR F x r) func93 rfl tH rfl rfl c (λF' b=>⟨hG.le b,h.le b⟩)<|wa<|Qp rfl (vs:=[_,_,_,_]) rfl λb1=>wZ rfl<|wa<|QA (QH rfl Zp Qi)<|QA (wN I Qi .here)<|QI rfl (λ_ _ f k=>zw (g:=x.n) f k.1 k.2.1 (ab (Jv r) hz)) λ_=>wW rfl ?_
 refine Qn (t:=6) rfl (λa=>?_) λa=>?_
 ·refine wD 8 I ?_;exact QP () I (wT I) (congrArg ah (by unfold Jh;rw[a,Bool.true_or])) tL
 refine QL I I<|QA (QH I Zo Qi)<|QL I I<|QA (QJ (vs:=[_,_]) I Qi .here (.skip (.skip .h2)) I)<|QL I I<|QI I (λ_ _ f k=>zw (g:=x.d) f k.1.1 k.1.2.2 (ab (Jt r) hz)) λ_=>wD 5 I ?_
 exact QP () I (wT I) (congrArg ah (by unfold Jh;rw[a,fA])) tL
def Av(h:sz z<=k):(Ze z).length<=k+2:=by
 have h2:=E6 z;have h1:(ae z.natAbs).length<=k+1:=by
  rw[aS];exact Ke (aA h2 (ab (bJ tF (show sz z<=k+1 by omega)) (eP tF _))) O
 by_cases hz:z<0
 ·rw[Yo hz,aM];omega
 rw[XJ O];omega
def O5(n:Nat):Ze (n:Int)=ae n:=by rw[XJ O];rfl
theorem N3{x:Fr}{r:Rat}(c:Fits F w)(hG:JE F)(h:JR F x r)(hz:JW r<=100000000):Qf prog 134 [x.v] w F (tx (JP r)):=by
 have b:=Av (ab (Jv r) hz);have hl2:=Av (ab (Jt r) hz);refine QU.intro (G:=λF=>JE F/\JR F x r) func134 rfl tH rfl rfl c (λF' a=>⟨hG.le a,h.le a⟩)<|wa<|Qp rfl (vs:=[_,_,_,_]) rfl λb1=>wZ rfl<|QG<|wa<|QA (wP I QS .here)<|QI rfl (λ_ _ f k=>MO (x:=x) (r:=r) f ⟨k.2.1,k.2.2⟩) λ_=>QE<|QC ?_
 refine QQ I (λhc=>?_) λhc=>?_
 ·refine wa<|QA (QH I Zp Qi)<|QA (wN I Qi .here)<|QI I (λ_ _ f k=>D9 (g:=x.n) f k.1.1 k.1.2.1 (ab (Jv r) hz)) λ_=>wD 4 I ?_
  exact QP () I (wT I) (congrArg tx (by unfold JP;rw[if_pos (by simp at hc;omega)])) tL
 refine wC 3 I<|JG we mixed tE<|QK (QH I Zp Qi)<|QK (wN I Qi .here)<|QR I (λ_ _ f k=>D9 (g:=x.n) f k.1.1 k.1.2.1 (ab (Jv r) hz)) λ_=>QK (Yf I I tK)<|QK (QH I Zo Qi)<|QK (QJ (vs:=[_,_]) I Qi .here (.skip (.skip .h2)) I)<|QR I (λ_ _ f k=>D9 (g:=x.d) f k.1.1.1 k.1.1.2.2 (ab (Jt r) hz)) λ_=>QK (Yf I I tK)<|QK (QF I)<|Q7<|QC<|QX ?_
 exact QP () I (wT I) (congrArg tx (by unfold JP;rw[if_neg (by simp at hc;omega),O5];simp)) tL
theorem Ki{r:Rat}(l:Fits F w)(hG:JE F)(n:s=JP r)(o:s.length<=10000000):X1 prog 87 [tx s] w F r:=by
 have i:=yv r;rw[<-n]at i;refine QU.intro (G:=λF=>JE F) func87 rfl tH rfl rfl l (λF' u=>hG.le u)<|wa<|Qc Jw λb2=>wY<|wb rfl<|QI rfl (λ_ _ f k=>QAG f k O) λ_=>?_
 rw[i];refine wD 13 I<|QA (XL I)<|QE<|QC ?_
 refine QQ I (λhc=>?_) λhc=>?_
 ·refine wb I<|QI I (λ_ _ f k=>P6 f (by have h1:r.den=1:=(by by_cases h:r.den=1;exact h;rw[if_neg h]at hc;cases hc);rw[if_pos h1,Hf];exact Jy _) (by have h1:r.den=1:=(by by_cases h:r.den=1;exact h;rw[if_neg h]at hc;cases hc);rw[if_pos h1];have e:s=Ze r.num:=(by rw[n];unfold JP;rw[if_pos h1]);rw[<-e];exact o)) λB=>QI I (λ_ _ f k=>Dx f k.2) λz=>QW (vs:=[_,_,_,_]) I I I QS I .here .h4 wv<|wY<|QX ?_
  exact QP (_) rfl (.JX (c:=[_,_,_,_]) I QS .here .nil) rfl λF ⟨⟨⟨j,_⟩,A⟩,⟨g,a⟩⟩=>(by have h1:r.den=1:=(by by_cases h:r.den=1;exact h;rw[if_neg h]at hc;cases hc);have e:((r.num:Int):Rat)=r:=(by apply Rat.ext;rfl;simp[h1]);rw[if_pos h1]at g a;rw[Kt]at g a;rw[e]at g a;exact⟨g,a⟩)
 refine QN<|QC<|wb rfl<|QI rfl (λw F l ⟨j,_⟩=>P6 l (by have h1:¬r.den=1:=(by intro h;rw[if_pos h]at hc;cases hc);rw[if_neg h1,Hf];exact Jy _) (by have h1:¬r.den=1:=(by intro h;rw[if_pos h]at hc;cases hc);rw[if_neg h1];have e:s=Ze r.num++47::ae r.den:=(by rw[n];unfold JP;rw[if_neg h1]);rw[e,aq]at o;show(Ze r.num).length<=_;omega)) λy=>wW rfl<|QI rfl (λw F l ⟨⟨j,_⟩,b⟩=>P6 l (by have h1:¬r.den=1:=(by intro h;rw[if_pos h]at hc;cases hc);rw[if_neg h1];show ZJ (ag (ae r.den) [45])=true;rw[WM (Jy _)];exact Jy _) (by have h1:¬r.den=1:=(by intro h;rw[if_pos h]at hc;cases hc);rw[if_neg h1];have e:s=Ze r.num++47::ae r.den:=(by rw[n];unfold JP;rw[if_neg h1]);rw[e,aq,aM]at o;show(ae r.den).length<=_;omega)) λx=>QA (Q4 I MG Jw (.cons (vs:=[_,_]) I I I .h2 (.cons (vs:=[_,_]) I I I (.skip (.skip .h2)) .nil)))<|QW (vs:=[_,_,_,_]) I I I QS I .here .h4 wv<|wY<|QX ?_
 exact QP (⟨y,x⟩:Fr) rfl (.JX (c:=[_,_,_,_]) rfl QS .here .nil) rfl λF ⟨⟨⟨j,_⟩,b⟩,m⟩=>(by have h1:¬r.den=1:=(by intro h;rw[if_pos h]at hc;cases hc);rw[if_neg h1]at b m;rw[Kt]at b;have e:Y9 (ae r.den)=(r.den:Int):=(by rw[YO (Jy _),Xi]);exact⟨b,e ▸ m⟩)
def Qy(F:Gs)(q:Option Addr)(n sz:Nat)(cs:List Value):Prop :=
 cs.length=n*sz/\(0<n->∃b off arr T,q=some ⟨b,off,none⟩/\F b=some (arr,T)/\∀j u,cs[j]?=some u->arr[off+j]?=some u)
theorem Qy.le{q:Option Addr}{sz:Nat}(h:Qy F q n sz cs)(k:Gs.le F F'):Qy F' q n sz cs :=
 ⟨h.1,λc=>by obtain⟨b,off,a,T,i,g,f⟩:=h.2 c;exact⟨b,off,a,T,i,k _ _ g,f⟩⟩
theorem Qy.of{sz:Nat}(h:F b=some (cs.toArray,T))(a:cs.length=n*sz):Qy F (some ⟨b,0,none⟩) n sz cs :=
 ⟨a,λ_=>⟨b,0,_,T,rfl,h,λj u hu=>by rw[aV];simpa using hu⟩⟩
def Qy.nil(F:Gs)(q:Option Addr)(sz:Nat):Qy F q 0 sz []:=⟨tJ,λh=>absurd h (Nat.lt_irrefl 0)⟩
def Qy.ptr{q:Option Addr}{sz:Nat}(h:Qy F q n sz cs)(a:0<n):∃b off,q=some ⟨b,off,none⟩:=by
 obtain⟨b,off,_,_,e,_⟩:=h.2 a;exact⟨b,off,e⟩
section
variable[Dr][df:Df]{P:Program}{Q:Exit->Act->World->Prop}{N:Nat}{m:Sl}{E E0:Env}{ops:Array Oper}{l:List Oper}{w0:World}{F0:Gs}{bs:List (Nat×Obj)}{G:Gs->Prop}
theorem W3(a:St ⟨w0,F0,bs,G⟩ w){b off n sz j:Nat}{cs:List Value}{u:Value}(hr:∀F,G F->Qy F (some ⟨b,off,none⟩) n sz cs)(f:0<n)(hu:cs[j]?=some u):w.cell? ⟨b,off+j,none⟩=some u:=by
 obtain⟨F,a⟩:=a;obtain⟨b',c,h,T,e,g,ha⟩:=(hr F a.hG).2 f;simp only[bN,fm]at e;obtain⟨rfl,rfl,_⟩:=e;obtain⟨fr,e⟩:=a.fits.row _ _ _ g;simp[eG,e,ha j u hu]
theorem Yn{ty:TypeId}{sz:Nat}{u:Value}(hx:ev m x=some (.pointer (some ⟨b,off+j,none⟩)))(ht:Z5 P T=some (false,k))(hr:∀F,G F->Qy F (some ⟨b,off,none⟩) n sz cs)(g:0<n)(hu:cs[j]?=some u):
  Qt P N m (St ⟨w0,F0,bs,G⟩) (.load T x) ty u:=λa w _ _ _ _ ha f=>by
 have c:=Z1 (P:=P) ht (W3 f hr g hu);simp only[execOp,ha.ev hx,eT,eH,eu,er,bA,c]
theorem C9{ty:TypeId}{sz:Nat}{vs:List Value}(hx:ev m x=some (.pointer (some ⟨b,off+j,none⟩)))(ht:Z5 P T=some (true,k))(hr:∀F,G F->Qy F (some ⟨b,off,none⟩) n sz cs)(h:0<n)(l:vs.length=k)(hu:∀i v,vs[i]?=some v->cs[j+i]?=some v):
  Qt P N m (St ⟨w0,F0,bs,G⟩) (.load T x) ty (.agg vs.toArray):=λa w _ _ _ _ ha f=>by
 have c:=KZ (P:=P) ht l (w:=w) (b:=b) (off:=off+j) (λi v g=>by rw[eQ];exact W3 f hr h (hu i v g));simp only[execOp,ha.ev hx,eT,eH,eu,er,bA,c]
theorem Qo{d:Nat}{ty:TypeId}{pos:String}{c:List (Nat×Obj)}{t e:TypeId}{sz:Nat}{z:List Value}{g:Bool}{parts:Array (Nat×Operand)}{ps:List (Nat×Value)}(hp:GC m parts.toList=some ps)(ht:P.underlying t=some (.slice e))(o:Z5 P e=some (g,sz))(hz:XI P e=some z)
  (hc:Kg sz 0 ps=some cs) (u:cs.length=n*sz) (k:∀b,JD P ops Q ⟨w0,F0,c,G0⟩ l N ((d,.slice (some ⟨b,0,none⟩) n n)::m) ⟨w0,F0,bs,λF=>G F/\F b=some (cs.toArray,e)⟩) (x:∀w,St ⟨w0,F0,bs,G⟩ w->St ⟨w0,F0,c,G0⟩ w) (f:jg (n*sz) 16777216=true:=by rfl) (s:Nat.beq (n*sz) 0=false:=by rfl)
  (hd:J5 N (some d)=true:=by rfl):JD P ops Q ⟨w0,F0,c,G0⟩ (⟨some d,.buildSlice t n parts,ty,pos,aft,none⟩::l) N m ⟨w0,F0,bs,G⟩:=λ_ a w ha j=>by
 have i:=j.kF cs.toArray e;have sub:∀w' b,St ⟨w0,F0,bs,λF=>G F/\F b=some (cs.toArray,e)⟩ w'->St ⟨w0,F0,c,G0⟩ w':=λw' b h=>x w' (h.B5 λ_ h=>h.1);refine .inr ⟨rfl,?_⟩;rw[if_pos (by simp[fp])];exact upon_value (VA ha hp ht o hz hc u f s) ⟨sub _ _ i,k _ (λw' h=>sub w' _ h) _ _ (ha.put hd _) i⟩
end
section
variable[Dr][df:Df]{P:Program}{Q:Exit->Act->World->Prop}{N:Nat}{m:Sl}{E E0:Env}{ops:Array Oper}{l:List Oper}{ty:TypeId}{pos:String}{aft:Array Edge}{o:Op}{g t:Nat}{want:Bool}
theorem SI{a:Act}(ha:Ja N m a){g t:Nat}(b:(ops[g]?).bind (·.dst)=some t)(hb:look m t=some undef):yielded ops a.tmps g=none:=by
 unfold yielded;rw[b];have:=ha.get t _ hb;simp[this,undef]
theorem Jn{d:Nat}(c:(ops[g]?).bind (·.dst)=some t)(hb:look m t=some undef)(f:JS P ops Q l N ((d,undef)::m) E)(hd:J5 N (some d)=true:=by rfl):JS P ops Q (⟨some d,o,ty,pos,aft,some (g,want)⟩::l) N m E:=by
 intro a w ha b;unfold wpList;have hy:=SI ha c hb;rw[if_neg (by simp[fp,hy])];exact f _ w (ha.put hd undef) b
end
def Qs:List Int->Int
 |[]=>0
 |x::l=>if x=0 then Qs l else x
def Wx{l:List Int}(hi:i<l.length)(h:l[i]=0):Qs (l.drop i)=Qs (l.drop (i+1)):=by
 rw[bj hi,Qs,if_pos h]
def Dc{l:List Int}(hi:i<l.length)(h:l[i]≠0):Qs (l.drop i)=l[i]:=by
 rw[bj hi,Qs,if_neg h]
def Jo(x:Int):Value:=.int .i64 x
structure Uv(n:Nat)(p:Nat->Prop) where
 i:Nat
 le:i<=n
 h:p i
theorem Pm{b:Bool}{e:Int}(a:Fits F w):Qf prog 204 [.bool b,.int .i64 e] w F (.int .i64 (if b=true then e else 0)):=by
 refine QU.intro (G:=λ_=>True) func204 rfl tH rfl rfl a tL<|wa<|wZ rfl<|QG<|wb rfl<|QE<|QC ?_
 refine QQ I (λhc=>?_) λhc=>?_
 ·refine wA 7 I ?_;exact QP () I (wT I) (by rw[if_pos hc]) tL
 refine wC 8 I ?_;exact QP () I (wT I) (by rw[if_neg (by rw[hc];decide)]) tL
theorem CM{q:Option Addr}{c:Nat}{l:List Int}(m:Fits F w)(g:Qy F q n 1 (l.map Jo))(x:n<=1000000000):Qf prog 293 [.slice q n c] w F (.int .i64 (Qs l)):=by
 have j:l.length=n:=by have:=g.1;simpa using this
 refine QU.intro (G:=λF=>Qy F q n 1 (l.map Jo)) func293 rfl tH rfl rfl m (λF' b=>g.le b)<|wa<|wZ rfl<|QG<|wb rfl<|QA (Qg rfl ZM)<|wW rfl<|wY<|QV<|YB (ι:=Uv n λi=>Qs (l.drop i)=Qs l) (λi=>[(5,.slice q n c),(6,.int .i64 n),(7,.int .i64 i.i)]) (λ_=>[]) (λ_ F=>Qy F q n 1 (l.map Jo)) (λi=>n-i.i) ⟨0,eI _,rfl⟩ wu we tM λi=>?_
 have k:=i.le;refine wA 6 I ?_;refine QQ I (λhc=>?_) λhc=>?_
 ·have hi:i.i<n:=by simp at hc;omega
  have a:i.i<l.length:=O;refine XV _ (λ_ _ f h=>h.ptr O) (λhq=>?_);obtain⟨s,o,rfl⟩:=hq;refine wC 6 I<|QA (JL I I ZM YS hi)<|QA (Yn I YS tM O (u:=.int .i64 l[i.i]) (by simp[a,Jo]))<|wD 9 I ?_
  refine QQ I (λhc=>?_) λhc=>?_
  ·refine wA 7 I ?_
   repeat first|refine Q6 ?_|refine Qv ?_
   exact QP () I (wT I) (congrArg (ak .i64) (i.h.symm.trans (Dc a (by simpa using hc)))) tL
  refine QN<|Qj<|QC<|QB<|QA (Qu I I O)<|wB 2 I ?_
  exact Ql (⟨i.i+1,O,by rw[<-Wx a (by simpa using hc)];exact i.h⟩:Uv n λi=>Qs (l.drop i)=Qs l) (by show n-(i.i+1)<n-i.i;omega) wu we tM
 refine Qx ?_
 repeat first|refine QY ?_|refine QO tH ?_
 refine QZ<|wE 7 I ?_
 exact QP () I (wT I) (by rw[<-i.h,fH (by simp at hc;omega)];rfl) tL
def j4(hi:i<s.length)(h:ZJ (s.take i)=true)(hd:Iq s[i]=true):ZJ (s.take (i+1))=true:=by
 rw[eU hi,Va,h];simp[ZJ,hd]
def UA(hi:i<s.length)(hd:Iq s[i]=false):ZJ s=false:=by
 cases h:ZJ s with
 |false=>rfl
 |true=>rw[ZJ,iF]at h;rw[h _ (fb hi)]at hd;cases hd
def NB(s:List UInt8):Bool:=ZJ s&&!s.isEmpty
theorem yk(c:Fits F w)(f:s.length<=1000000000):Qf prog 255 [tx s] w F (.bool (NB s)):=by
 refine QU.intro (G:=λ_=>True) func255 rfl tH rfl rfl c tL<|wa<|wZ rfl<|QG<|wb rfl<|QA (Xc rfl Zm)<|wW rfl<|wY<|QV<|YB (ι:=Uv s.length λi=>ZJ (s.take i)=true) (λi=>[(0,tx s),(5,.int .i64 s.length),(6,.int .i64 i.i)]) (λ_=>[]) (λ_ _=>True) (λi=>s.length-i.i) ⟨0,eI _,rfl⟩ wu we tM λi=>?_
 have b:=i.le;refine wA 6 I ?_;refine QQ I (λhc=>?_) λhc=>?_
 ·have hi:i.i<s.length:=by simp at hc;omega
  refine wC 14 I<|QA (Hh I I Zm (hi))<|wB 2 I ?_
  refine Qn (t:=13) rfl (λa=>?_) λa=>?_
  ·refine wD 7 I ?_;refine QQ I (λhc=>?_) λhc=>?_
   ·refine wA 6 I ?_
    repeat first|refine Q6 ?_|refine Qv ?_
    exact QP () I (wT I) (congrArg ah (by unfold NB;rw[UA hi (by have h1:=wi a;cases hd:Iq s[i.i]with | false=>rfl | true=>(have:=Kh.1 hd;omega))];rfl)) tL
   refine QN<|Qj<|QC<|QB<|QA (Qu I I O)<|wB 2 I ?_
   cases hc
  refine wB 5 I<|QA (Hh I I Zm (hi))<|wD 5 I ?_
  refine QQ I (λhc=>?_) λhc=>?_
  ·refine wA 6 I ?_
   repeat first|refine Q6 ?_|refine Qv ?_
   exact QP () I (wT I) (congrArg ah (by unfold NB;rw[UA hi (by have h1:=wi hc;cases hd:Iq s[i.i]with | false=>rfl | true=>(have:=Kh.1 hd;omega))];rfl)) tL
  refine QN<|Qj<|QC<|QB<|QA (Qu I I O)<|wB 2 I ?_
  exact Ql (⟨i.i+1,O,j4 hi i.h (Kh.2 (by have h1:=wj a;have h2:=wj hc;constructor<;>omega))⟩:Uv s.length λi=>ZJ (s.take i)=true) (by show s.length-(i.i+1)<s.length-i.i;omega) wu we tM
 refine Qx ?_
 repeat first|refine QY ?_|refine QO tH ?_
 refine QZ<|wE 4 I<|QA (xb I I)<|wD 4 I ?_
 exact QP () I (wT I) (congrArg ah (by have h1:=i.h;rw[ao (by simp at hc;omega)]at h1;unfold NB;rw[h1];cases s<;>rfl)) tL
theorem head_ne(h:0<s.length):((s[0].toNat:Int) != 48)=!(s.head?==some 48):=by
 cases s with
 |nil=>simp at h
 |cons c s =>
  simp only[List.getElem_cons_zero,List.head?_cons];by_cases e:c=48
  ·subst e;rfl
  have f:c.toNat≠48:=λh=>e (eO (by rw[h];rfl));have b:((c.toNat:Int) != 48)=true:=by simp only[bne_iff_ne,ne_eq];omega
  have a:(some c==some 48)=false:=by simp[e]
  rw[b,a];rfl
def Fu(h:NB s=true):0<s.length:=by
 cases s with
 |nil=>cases h
 |cons=>simp
theorem Rf(g:Fits F w)(c:s.length<=1000000000):Qf prog 176 [tx s] w F (.bool (Xv s)):=by
 refine QU.intro (G:=λ_=>True) func176 rfl tH rfl rfl g tL<|wa<|wZ rfl<|wb rfl<|QI rfl (λ_ _ f _=>yk f c) λ_=>wW rfl ?_
 refine Qn (t:=5) rfl (λa=>?_) λa=>?_
 ·refine wB 3 I<|QA (VE I I)<|wB 2 I ?_
  refine Qn (t:=8) rfl (λb=>?_) λb=>?_
  ·refine wD 10 I ?_;exact QP () I (wT I) (congrArg ah (by have h:=a;unfold NB at h;unfold Xv;rw[h,b];rfl)) tL
  refine wB 3 I<|QA (Hh (i:=0) rfl rfl Zm (Fu a))<|wD 9 I ?_
  exact QP () I (wT I) (congrArg ah (by have h:=a;unfold NB at h;unfold Xv;rw[h,b,head_ne (Fu a)];rfl)) tL
 refine wB 3 I<|Jn I I<|Jn I I<|Jn I I<|wD 6 I ?_
 exact QP () I (wT I) (congrArg ah (by have h:=a;unfold NB at h;unfold Xv;rw[h];rfl)) tL
def Iz(size d:List UInt8)(neg fr:Bool):Bool:=!Xv size||(neg&&size==[48])||(fr&&(!Xv d||d==[48]||d==[49]))
def Hl(n d:List UInt8)(fr:Bool):Int :=
 if Iz (ag n [45]) d (aB n [45]) fr=true then 1
 else if(decide (600<(ag n [45]).length)||decide (600<d.length))=true then 4
 else if(fr&&!(jf (Jc (ag n [45])) (Jc d)==1))=true then 1 else 0
def Jp(s:List UInt8):Int:=Hl (Yq 47 s).1 (Yq 47 s).2.1 (Yq 47 s).2.2
theorem yx(c:UInt8)(s:List UInt8):(Yq c s).1.length<=s.length/\(Yq c s).2.1.length<=s.length:=by
 have h:=WO (· != c) s;have h1:=congrArg fe h.1;have h2:=congrArg fe h.2;simp at h1 h2;unfold Yq;split
 ·refine⟨?_,?_⟩
  ·show(s.takeWhile (· != c)).length<=_;exact(List.takeWhile_sublist _).length_le
  show((s.dropWhile (· != c)).drop 1).length<=_;rw[bh];have:=(List.dropWhile_sublist (l:=s) (· != c)).length_le;omega
 exact⟨aE _,tJ⟩
def WU(h:Xv s=true):ZJ s=true:=by
 simp only[Xv,ay]at h;exact h.1.1
def AK(s p:List UInt8):(ag s p).length<=s.length:=by unfold ag;split<;>simp
theorem Eo(K:Fits F w)(hG:JE F)(hl:s.length<=1000000):Qf prog 86 [tx s] w F (.int .i64 (Jp s)):=by
 have z:=yx 47 s;unfold Jp;refine QU.intro (G:=λF=>JE F) func86 rfl tH rfl rfl K (λF' H=>hG.le H)<|wa<|wZ rfl<|wb rfl<|QI rfl (λ_ _ f k=>QAG f k O) λ_=>?_
 rw[yw];generalize Yq 47 s=cp at z ⊢;obtain⟨n,d,fr⟩:=cp;dsimp only at z ⊢;have R:=AK n [45];refine wD 12 I<|QI I (λ_ _ f k=>Fw f ) λ_=>wD 8 I ?_
 refine Ew 46 (.bool (Iz (ag n [45]) d (aB n [45]) fr)) ?_ ?_
 ·refine wA 2 I<|QI I (λ_ _ f k=>Rf f O) λ_=>QA (XL I)<|wW I ?_
  refine Qn (t:=24) rfl (λE=>?_) λE=>?_
  ·refine wB 2 I<|Jn I I<|Jn I I<|wB 5 I<|Jn I I<|Jn I I<|Jn I I<|Jn I I<|Jn I I<|Jn I I<|Jn I I<|Jn I I<|Jn I I<|Jn I I<|Jn I I<|wB 3 I ?_
   exact ZU (exd 27 rfl rfl) (congrArg (λb=>some (ah b)) (by rw[au];simp_all [Iz])) we tN
  refine wB 4 I ?_;refine Qn (t:=26) rfl (λD=>?_) λD=>?_
  ·refine wB 3 I<|QA (VE I I)<|wB 4 I ?_
   refine Qn (t:=31) rfl (λC=>?_) λC=>?_
   ·refine wB 2 I<|Jn I I<|Jn I I<|Jn I I<|Jn I I<|Jn I I<|Jn I I<|Jn I I<|Jn I I<|Jn I I<|Jn I I<|Jn I I<|wB 3 I ?_
    exact ZU (exd 29 rfl rfl) (congrArg (λb=>some (ah b)) (by rw[au];simp_all [Iz])) we tN
   refine wB 4 I ?_;refine Qn (t:=33) rfl (λu=>?_) λu=>?_
   ·refine wB 3 I<|QI I (λ_ _ f k=>Rf f O) λ_=>QL I I<|QA (XL I)<|wB 2 I ?_
    refine Qn (t:=37) rfl (λo=>?_) λo=>?_
    ·refine wB 14 I ?_;exact ZU (exd 31 rfl rfl) (congrArg (λb=>some (ah b)) (by rw[au];simp_all [Iz])) we λ_ h=>h.1.1
    refine wB 3 I<|QA (VE I I)<|wB 4 I ?_
    refine Qn (t:=41) rfl (λm=>?_) λm=>?_
    ·refine wB 8 I ?_;exact ZU (exd 32 rfl rfl) (congrArg (λb=>some (ah b)) (by rw[au];simp_all [Iz])) we λ_ h=>h.1.1
    refine wB 3 I<|QA (VE I I)<|wB 6 I ?_
    exact ZU (exd 32 rfl rfl) (congrArg (λb=>some (ah b)) (by rw[au];simp_all [Iz])) we λ_ h=>h.1.1
   refine wB 4 I<|Jn I I<|Jn I I<|wB 2 I<|Jn I I<|Jn I I<|wB 5 I ?_
   exact ZU (exd 30 rfl rfl) (congrArg (λb=>some (ah b)) (by rw[au];simp_all [Iz])) we tN
  refine wB 10 I ?_;refine Qn (t:=33) rfl (λu=>?_) λu=>?_
  ·refine wB 3 I<|QI I (λ_ _ f k=>Rf f O) λ_=>QL I I<|QA (XL I)<|wB 2 I ?_
   refine Qn (t:=37) rfl (λo=>?_) λo=>?_
   ·refine wB 14 I ?_;exact ZU (exd 30 rfl rfl) (congrArg (λb=>some (ah b)) (by rw[au];simp_all [Iz])) we λ_ h=>h.1.1
   refine wB 3 I<|QA (VE I I)<|wB 4 I ?_
   refine Qn (t:=41) rfl (λm=>?_) λm=>?_
   ·refine wB 8 I ?_;exact ZU (exd 31 rfl rfl) (congrArg (λb=>some (ah b)) (by rw[au];simp_all [Iz])) we λ_ h=>h.1.1
   refine wB 3 I<|QA (VE I I)<|wB 6 I ?_
   exact ZU (exd 31 rfl rfl) (congrArg (λb=>some (ah b)) (by rw[au];simp_all [Iz])) we λ_ h=>h.1.1
  refine wB 4 I<|Jn I I<|Jn I I<|wB 2 I<|Jn I I<|Jn I I<|wB 5 I ?_
  exact ZU (exd 29 rfl rfl) (congrArg (λb=>some (ah b)) (by rw[au];simp_all [Iz])) we tN
 refine QQ I (λa=>?_) λa=>?_
 ·refine wA 6 I ?_;exact QP () I (wT I) (congrArg (ak .i64) (by unfold Hl;rw[if_pos a])) tL
 refine wC 3 I ?_;refine Ew 54 (.bool (decide (600<(ag n [45]).length)||decide (600<d.length))) ?_ ?_
 ·refine wA 2 I<|QA (Xc I Zm)<|wB 2 I ?_
  refine Qn (t:=50) rfl (λB=>?_) λB=>?_
  ·refine wB 5 I ?_;exact ZU (exd 9 rfl rfl) (congrArg (λb=>some (ah b)) (by simp at *;first | omega | (rw[au];simp;omega))) we tM
  refine wB 3 I<|QA (Xc I Zm)<|wB 4 I ?_
  exact ZU (exd 9 rfl rfl) (congrArg (λb=>some (ah b)) (by simp at *;first | omega | (rw[au];simp;omega))) we tM
 refine QQ I (λc=>?_) λc=>?_
 ·refine wA 6 I ?_;exact QP () I (wT I) (congrArg (ak .i64) (by unfold Hl;rw[if_neg (by rw[a];decide),if_pos c])) tL
 refine wC 8 I ?_;refine QQ I (λg=>?_) λg=>?_
 ·have N:(ag n [45]).length<=600/\d.length<=600:=by simp at c;omega
  have y:Xv (ag n [45])=true/\Xv d=true:=by
   subst g;simp only[Iz,bI,fz,eR]at a;exact⟨a.1.1,a.2.1.1⟩
  have i:=WU y.1;have j:=WU y.2;have Q:=D3 i;have P:=D3 j;refine wb I<|QI I (λ_ _ f k=>P6 f (by rw[WM i];exact i) O) λZ=>wW I<|QI I (λ_ _ f k=>P6 f (by rw[WM j];exact j) O) λY=>QI I (λ_ _ f k=>cm f k.1.2 k.2 (by rw[YO i];omega) (by rw[YO j];omega)) λX=>QI I (λw F K ⟨⟨⟨⟨⟨S,_⟩,_⟩,V⟩,U⟩,T⟩=>gN K (by assumption)) λc62=>JQ _ (λ_ _ f h=>h.2) λx=>?_
  rw[YO i,YO j,Int.gcd_natCast_natCast]at x;refine wD 7 I ?_;refine Ew 70 (.bool (!(jf (Jc (ag n [45])) (Jc d)==1))) ?_ ?_
  ·refine wA 2 I<|QA (XL I)<|wW I ?_
   refine Qn (t:=67) rfl (λA=>?_) λA=>?_
   ·refine wB 4 I ?_;exact ZU (exd 7 rfl rfl) (congrArg (λb=>some (ah b)) (by rcases x with ⟨M,L,e3⟩ | ⟨M,L⟩<;>rw[au]<;>simp_all<;>omega)) we tM
   refine wB 6 I ?_;exact ZU (exd 7 rfl rfl) (congrArg (λb=>some (ah b)) (by rcases x with ⟨M,L,e3⟩ | ⟨M,L⟩<;>rw[au]<;>simp_all<;>omega)) we tM
  refine QQ I (λl=>?_) λl=>?_
  ·refine wA 6 I ?_;exact QP () I (wT I) (congrArg (ak .i64) (by unfold Hl;rw[if_neg (by rw[a];decide),if_neg (by rw[c];decide),if_pos (by rw[g,l];rfl)])) tL
  refine wC 8 I ?_;exact QP () I (wT I) (congrArg (ak .i64) (by unfold Hl;rw[if_neg (by rw[a];decide),if_neg (by rw[c];decide),if_neg (by rw[g,l];decide)])) tL
 refine wC 8 I ?_;exact QP () I (wT I) (congrArg (ak .i64) (by unfold Hl;rw[if_neg (by rw[a];decide),if_neg (by rw[c];decide),if_neg (by rw[g];simp)])) tL
def Qz(s:List UInt8):Rat:=if(Yq 47 s).2.2=true then mkRat (Y9 (Yq 47 s).1) (Jc (Yq 47 s).2.1)else((Y9 (Yq 47 s).1:Int):Rat)
theorem Ml(h:c∈s):∃r,s.dropWhile (· != c)=c::r:=by
 induction s with
 |nil=>cases h
 |cons b s ih =>
  simp only[fY];by_cases e:b=c
  ·subst e;exact⟨s,tJ⟩
  have h1:(b != c)=true:=by simp[e]
  rw[if_pos h1];exact ih (by rcases List.mem_cons.1 h with h | h;exact absurd h.symm e;exact h)
def qX(c:UInt8)(s:List UInt8):((Yq c s).2.2=true->s=(Yq c s).1++c::(Yq c s).2.1)/\((Yq c s).2.2=false->s=(Yq c s).1/\(Yq c s).2.1=[]):=by
 unfold Yq;by_cases h:s.contains c=true
 ·rw[if_pos h];refine⟨λ_=>?_,λe=>(by cases e)⟩;obtain⟨r,hr⟩:=Ml (c:=c) (s:=s) (by simpa using h);have a:s.dropWhile (· != c)=c::(s.dropWhile (· != c)).drop 1:=by rw[hr];rfl
  show s=s.takeWhile (· != c)++c::(s.dropWhile (· != c)).drop 1;rw[<-a,List.takeWhile_append_dropWhile]
 rw[if_neg h];exact⟨λe=>(by cases e),λ_=>⟨rfl,rfl⟩⟩
def Sa(h:Xv l=true)(h0:l≠[48]):0<Jc l:=by
 simp only[Xv,ay,iN,beq_iff_eq,iD,fu]at h;rcases h.2 with h1 | h1
 ·exact absurd h1 h0
 exact(Eh h.1.1 h.1.2 (by simpa using h1)).2
theorem Ck(h:Xv l=true)(h0:l≠[48])(h1:l≠[49]):2<=Jc l:=by
 have hp:=Sa h h0;have hd:=DL h;rcases aR (Jc l) 2 with g | g
 ·have:Jc l=1:=O;rw[this]at hd;exact absurd (hd.symm.trans (by rw[ae];rfl)) h1
 exact g
theorem dF{n:List UInt8}(h:Xv (ag n [45])=true)(h0:(aB n [45]&&ag n [45]==[48])=false):Ze (Y9 n)=n/\(Y9 n).natAbs=Jc (ag n [45]):=by
 unfold Y9;by_cases hp:aB n [45]=true
 ·have f:n=45::n.drop 1:=by
   cases n with
   |nil=>cases hp
   |cons c r =>
    have a:(45==c)=true:=by simpa[aB,ei]using hp
    have:45=c:=by simpa using a
    rw[<-this];rfl
  have ht:ag n [45]=n.drop 1:=by unfold ag;rw[if_pos hp];rfl
  rw[ht]at h h0 ⊢;rw[hp,fz]at h0;have b:=Sa h (by simpa using h0);rw[if_pos hp];refine⟨?_,O⟩;rw[Yo O,show(-(Jc (n.drop 1):Int)).natAbs=Jc (n.drop 1) by omega,DL h,<-f]
 have ht:ag n [45]=n:=by unfold ag;rw[if_neg hp]
 rw[ht]at h ⊢;rw[if_neg hp];refine⟨?_,O⟩;rw[XJ O,show((Jc n:Nat):Int).natAbs=Jc n by omega,DL h]
theorem Ai(h:ZJ l=true)(b:l.length<=600):Jc l<lim:=by
 have h1:=Hb h;have h2:10^l.length<=lim:=by have a:∀k,l.length<=k->10^l.length<=10^k:=λk h=>bJ tF h;unfold lim;exact a 600 b
 omega
theorem XM(h:Jp s=0):s=JP (Qz s)/\Jh (Qz s)=false:=by
 unfold Jp at h;have hj:=qX 47 s;unfold Qz;generalize Yq 47 s=c at h hj ⊢;obtain⟨n,d,fr⟩:=c;dsimp only at h hj ⊢;unfold Hl at h;split at h
 ·cases h
 rename_i h1;split at h
 ·cases h
 rename_i h2;split at h
 ·cases h
 rename_i h3;have h1':=eq_false_of_ne_true h1;simp only[Iz,bI,eR]at h1';obtain⟨⟨hw,hz⟩,hf⟩:=h1';have hsa:=WU hw;have hl:(ag n [45]).length<=600/\d.length<=600:=by simp at h2;omega
 obtain⟨hn1,hn2⟩:=dF hw hz;have hlim:=Ai hsa hl.1;cases fr with
 |false =>
  rw[if_neg tF];obtain⟨hs,_⟩:=hj.2 rfl;refine⟨?_,?_⟩
  ·unfold JP;rw[eB,if_pos rfl,ey,hn1];exact hs
  unfold Jh Dp;rw[ey,eB,hn2];rw[decide_eq_false O,fA];refine decide_eq_false ?_;have:((1:Nat):Int).natAbs<lim:=tG;omega
 |true =>
  rw[if_pos rfl];simp only[fz,bI,eR]at hf;obtain⟨⟨hwd,hd0⟩,hd1⟩:=hf;have hd2:=Ck hwd (by simpa using hd0) (by simpa using hd1);have hda:=WU hwd;have hg:jf (Jc (ag n [45])) (Jc d)=1:=by simpa using h3
  have hco:Nat.Coprime (Y9 n).natAbs (Jc d):=by rw[hn2];exact hg
  have hmk:=Rat.mk_eq_mkRat (Y9 n) (Jc d) O hco;rw[<-hmk];refine⟨?_,?_⟩
  ·unfold JP;show s=if Jc d=1 then _ else Ze (Y9 n)++47::ae (Jc d)
   rw[if_neg O,hn1,DL hwd];exact hj.1 I
  unfold Jh Dp;show(decide (lim<=(Y9 n).natAbs)||decide (lim<=((Jc d:Nat):Int).natAbs))=false;have:=Ai hda hl.2;rw[hn2,decide_eq_false O,decide_eq_false O];rfl
theorem Gm{r:Rat}(h:Jh r=false):JW r<=2400:=by
 unfold Jh Dp at h;rw[bI]at h;have h1:=wj h.1;have h2:=wj h.2;have e:lim<=2^2400:=by
  decide +kernel
 unfold JW;have a:=(XD r.num 2400).2 (aA (iK h1) e);have b:=(XD (r.den:Int) 2400).2 (aA (iK h2) e);omega
def KO(h:Jp s=0):JW (Qz s)<=2400:=Gm (XM h).2
theorem qT{q:Option Addr}{c f:Nat}{vs:Nat->Value}{es:List Int}{c1 c2:List Value}(o:Fits F w)(l:∀F F',Gs.le F F'->G0 F->G0 F')(h0:G0 F)(m:Qy F q n 1 cs)(x:es.length=n)(hb:n<=1000000000)
  (j:∀i,i<n->cs[i*1]?=some (vs i)) (hc:∀i (hi:i<es.length) w F,Fits F w->G0 F->Qf prog f (c1++[vs i]++c2) w F (.int .i64 es[i])) :
  Qf prog 274 [.slice q n c,.func (.func f) c1.toArray c2.toArray] w F (.int .i64 (Qs es)):=by
 refine QU.intro (G:=λF=>G0 F/\Qy F q n 1 cs) func274 rfl tH rfl rfl o (λF' g=>⟨l F F' g h0,m.le g⟩)<|wa<|wZ rfl<|QG<|wb rfl<|QA (Qg rfl YG)<|wW rfl<|wY<|QV<|YB (ι:=Uv n λi=>Qs (es.drop i)=Qs es) (λi=>[(1,.func (.func f) c1.toArray c2.toArray),(8,.slice q n c),(9,.int .i64 n),(10,.int .i64 i.i)]) (λ_=>[]) (λ_ F=>G0 F/\Qy F q n 1 cs) (λi=>n-i.i) ⟨0,eI _,rfl⟩ wv we tM λi=>?_
 have k:=i.le;refine wA 6 I ?_;refine QQ I (λa=>?_) λa=>?_
 ·have hi:i.i<n:=by simp at a;omega
  have b:i.i<es.length:=O;refine XV _ (λ_ _ f h=>h.2.ptr O) (λhq=>?_);obtain⟨u,s,rfl⟩:=hq;refine wC 6 I<|QA (JL I I YG JF hi)<|QA (Yn I JF tO O (j i.i hi))<|wD 7 I<|Ge I I (λw F f h=>hc i.i b w F f h.1) λ_=>wD 9 I ?_
  refine QQ I (λa=>?_) λa=>?_
  ·refine wA 7 I ?_
   repeat first|refine Q6 ?_|refine Qv ?_
   exact QP () I (wT I) (congrArg (ak .i64) (i.h.symm.trans (Dc b (by simpa using a)))) tL
  refine QN<|Qj<|QC<|QB<|QA (Qu I I O)<|wB 2 I ?_
  exact Ql (⟨i.i+1,O,by rw[<-Wx b (by simpa using a)];exact i.h⟩:Uv n λi=>Qs (es.drop i)=Qs es) (by show n-(i.i+1)<n-i.i;omega) wv we tN
 refine Qx ?_
 repeat first|refine QY ?_|refine QO tH ?_
 refine QZ<|wE 7 I ?_
 exact QP () I (wT I) (by rw[<-i.h,fH (by simp at a;omega)];rfl) tL
theorem kA{q:Option Addr}{c:Nat}{l:List (List UInt8)}(f:Fits F w)(hG:JE F)(g:Qy F q n 1 (l.map tx))(o:n<=1000000/\∀s∈l,s.length<=1000000):Qf prog 203 [.slice q n c] w F (.int .i64 (Qs (l.map Jp))):=by
 have j:l.length=n:=by have:=g.1;simpa using this
 refine QU.intro (G:=λF=>JE F/\Qy F q n 1 (l.map tx)) func203 rfl tH rfl rfl f (λF' b=>⟨hG.le b,g.le b⟩)<|wa<|wZ rfl<|wa<|wW rfl ?_
 refine QI I (λw F f ⟨m,g⟩=>qT (c1:=[]) (c2:=[]) (vs:=λi=>tx (l.getD i [])) (es:=l.map Jp) (G0:=JE) f (λ_ _ h k=>k.le h) m g (by simpa using j) O (λi hi=>by
  have:i<l.length:=O;simp[this]) (λi hi w F f hG=>by
  have a:i<l.length:=by simpa using hi
  have e:l.getD i []=l[i]:=by simp[a]
  have:=Eo f hG (o.2 l[i] (fb a));rw[List.getElem_map];show Qf _ _ [tx (l.getD i [])] _ _ _;rw[e];exact this)) λu=>?_
 refine wD 4 I ?_;exact QP () I (wT I) rfl tL
def MT{b:Int}(h:Qs [a,b]=0):a=0/\b=0:=by
 simp only[Qs]at h;by_cases h1:a=0
 ·rw[if_pos h1]at h;by_cases h2:b=0
  ·exact⟨h1,h2⟩
  rw[if_neg h2]at h;exact absurd h h2
 rw[if_neg h1]at h;exact absurd h h1
def two(b:Int):Int:=2^b.toNat
def j6{b:Int}(h1:b<=64):sz (two b)<=129:=by
 have:=DR 2 b.toNat;have e:sz 2=2:=tF;rw[e]at this;unfold two;omega
def Tn(b:Int):two b≠0:=Int.ne_of_gt (Int.pow_pos tF)
theorem j5{n b:Int}(h:sz n<=k)(h1:b<=64):JW (aF n (two b))<=max k 129:=by
 have:=Vl (a:=n) (Tn b);have:=j6 h1;omega
def Xd(lo hi:List UInt8):Int:=if Qs [Jp lo,Jp hi]=0 then(if Yw (Qz lo) (Qz hi)>0 then 11 else 0)else Qs [Jp lo,Jp hi]
def Ku{lo hi:List UInt8}(h:Xd lo hi=0):Jp lo=0/\Jp hi=0/\¬Yw (Qz lo) (Qz hi)>0:=by
 unfold Xd at h;split at h
 ·rename_i h0;have:=MT h0;refine⟨this.1,this.2,?_⟩;split at h
  ·cases h
  assumption
 rename_i h0;exact absurd h h0
theorem W2{lo hi:List UInt8}(g:Fits F w)(hG:JE F)(i:lo.length<=1000000/\hi.length<=1000000):Qf prog 108 [.agg #[tx lo,tx hi]] w F (.int .i64 (Xd lo hi)):=by
 refine QU.intro (G:=λF=>JE F) func108 rfl tH rfl rfl g (λF' c=>hG.le c)<|wa<|Qp rfl (vs:=[_,_]) rfl λb1=>wZ rfl<|QG<|wa<|QA (QH rfl V6 JF)<|QA (Qe rfl JF .here .h1)<|QA (QH rfl We JF)<|QA (Qe rfl JF .here (.skip .h1))<|Qb rfl (Q5 YG) JF Im rfl rfl λu=>QI rfl (λw F g ⟨b,a⟩=>kA (l:=[lo,hi]) g b (Qy.of (cs:=List.map tx [lo,hi]) a rfl) ⟨tF,λs h=>by simp at h;rcases h with rfl | rfl;exact i.1;exact i.2⟩) λ_=>wD 9 I ?_
 refine QQ I (λhc=>?_) λhc=>?_
 ·refine wA 7 I ?_;exact QP () I (wT I) (by unfold Xd;rw[if_neg (by simpa using hc)];rfl) tL
 have h0:Qs [Jp lo,Jp hi]=0:=by simpa using hc
 have h1:=MT h0;have o:=KO h1.1;have n:=KO h1.2;refine wC 3 I<|JG we mixed tE<|QK (QH I V6 JF)<|QK (Qe I JF .here .h1)<|QR I (λ_ _ f k=>Ki f k.1.1 (XM h1.1).1 O) λm=>QK (QH I We JF)<|QK (Qe I JF .here (.skip .h1))<|QR I (λ_ _ f k=>Ki f k.1.1.1 (XM h1.2).1 O) λj=>QR I (λ_ _ f k=>G3 (r:=Qz lo) (s:=Qz hi) f ⟨k.1.2.1,k.1.2.2⟩ ⟨k.2.1,k.2.2⟩ O O) λ_=>QK (QT I I I)<|QR I (λ_ _ f k=>Pm f ) λ_=>QK (QF I)<|Q7<|QC<|QX ?_
 exact QP () I (wT I) (congrArg (ak .i64) (by unfold Xd;rw[if_pos h0];simp)) tL
structure Sp where
 lo:Fr
 hi:Fr
@[reducible] def Sp.v (x:Sp):Value:=.agg #[.int .i64 x.lo.n.s,.slice x.lo.n.q x.lo.n.n x.lo.n.cap,.int .i64 x.lo.d.s,.slice x.lo.d.q x.lo.d.n x.lo.d.cap,.int .i64 x.hi.n.s,.slice x.hi.n.q x.hi.n.n x.hi.n.cap,.int .i64 x.hi.d.s,.slice x.hi.d.q x.hi.d.n x.hi.d.cap]
def Jl(F:Gs)(x:Sp)(r:Rat×Rat):Prop:=JR F x.lo r.1/\JR F x.hi r.2
def Jl.le{x:Sp}{r:Rat×Rat}(h:Jl F x r)(k:Gs.le F F'):Jl F' x r:=⟨h.1.le k,h.2.le k⟩
abbrev Xp(P:Program)(f:FuncId)(args:List Value)(w:World)(F:Gs)(r:Rat×Rat):Prop:=QU P f args w F Sp.v λx F=>Jl F x r
def Z7(r:Rat×Rat)(b:Int):Rat×Rat:=(aF (r.1*((two b:Int):Rat)).floor (two b),aF (-(-(r.2*((two b:Int):Rat))).floor) (two b))
def ZC(s:Rat×Rat)(x:Rat):Rat×Rat:=(if Yw x s.1<0 then x else s.1,if Yw x s.2>0 then x else s.2)
def Yi(r:Rat)(l:List Rat):Rat×Rat:=l.foldl ZC (r,r)
def Kj(x:Fr):List Value:=[.int .i64 x.n.s,.slice x.n.q x.n.n x.n.cap,.int .i64 x.d.s,.slice x.d.q x.d.n x.d.cap]
def CL{f:α->List Value}(a:∀x,(f x).length=k):∀(l:List α) (i j:Nat) (h:i<l.length),j<k->(l.flatMap f)[i*k+j]?=(f l[i])[j]?
 |[],_,_,h,_=>by simp at h
 |x::l,0,j,_,b=>by
  rw[eV,fM,aV,aQ,if_pos (by rw[a];exact b)];rfl
 |x::l,i+1,j,h,b=>by
  rw[eV,aQ,if_neg (by rw[a,bK];omega),a];have:=CL a l i j (by simpa using h) b;rw[show(i+1)*k+j-k=i*k+j by rw[bK];omega,this];rfl
def Dq{f:α->List Value}(a:∀x,(f x).length=k)(l:List α):(l.flatMap f).length=l.length*k:=by
 induction l with
 |nil=>simp
 |cons x l ih=>rw[eV,aq,a,ih,aM,bK];omega
def Jg(a b:Rat×Rat):Rat×Rat:=Yi (a.1*b.1) [a.1*b.2,a.2*b.1,a.2*b.2]
section
variable[Dr][df:Df]{P:Program}{Q:Exit->Act->World->Prop}{N:Nat}{m:Sl}{ops:Array Oper}{l:List Oper}{w0:World}{F0:Gs}{bs:List (Nat×Obj)}{G:Gs->Prop}{d:Nat}{ty:TypeId}{pos:String}{aft:Array Edge}
theorem IJ(hx:ev m x=some (tx s))(hT:BZ P T=true)(k:∀b,JS P ops Q l N ((d,.pointer (some ⟨b,0,none⟩))::m) ⟨w0,F0,(b,.stringIter ⟨s.toArray⟩ 0)::bs,G⟩)(hd:J5 N (some d)=true:=by rfl):
  JS P ops Q (⟨some d,.range T x,ty,pos,aft,none⟩::l) N m ⟨w0,F0,bs,G⟩:=λa w ha hw=>by
 unfold BZ at hT;split at hT
 ·rename_i hu;have hrun:(execOp a.eval ⟨some d,.range T x,ty,pos,aft,none⟩).run P w = .ok (.value (.pointer (some ⟨w.heap.size,0,none⟩))) (w.alloc (.stringIter ⟨s.toArray⟩ 0)):=by
   simp[execOp,ha.ev hx,Instr.range,run_underlying hu,run_newObj,tx]
  exact wpList_plain rfl λK hK=>upon_value hrun (hK _ _ (k _ _ _ (ha.put hd _) (hw.alloc _ λc fr e=>by cases e)))
 cases hT
theorem OF{p:Nat}(hx:ev m x=some (.pointer (some ⟨b,0,none⟩)))(o:Own bs b (.stringIter ⟨s.toArray⟩ p) f)(hp:p<s.length){c g:Nat}(i:bH ⟨s.toArray⟩ p=(c,g))
  (k:JS P ops Q l N ((d,.tuple #[.bool true,.int .i64 p,.int .i32 c])::m) ⟨w0,F0,f (.stringIter ⟨s.toArray⟩ (p+g)),G⟩) (hd:J5 N (some d)=true:=by rfl) :
  JS P ops Q (⟨some d,.next x true,ty,pos,aft,none⟩::l) N m ⟨w0,F0,bs,G⟩:=λa w ha n=>by
 have hb:=n.own o;obtain⟨pre,post,z,y⟩:=o.split;subst z;rw[y]at k;have j:p<(⟨s.toArray⟩:ByteArray).size:=by rw[Y4];exact hp
 have h:(execOp a.eval ⟨some d,.next x true,ty,pos,aft,none⟩).run P w = .ok (.value (.tuple #[.bool true,.int .i64 p,.int .i32 c])) { w with heap:=w.heap.setIfInBounds b (.stringIter ⟨s.toArray⟩ (p+g)) }:=by
  simp[execOp,ha.ev hx,lA,getObj,setObj,Sem.run,hb,j,i,goInt]
 exact wpList_plain rfl λK u=>upon_value h (u _ _ (k _ _ (ha.put hd _) (n.write pre ⟨rfl,rfl,rfl,rfl,rfl⟩ λc fr e=>by cases e)))
theorem OH{p:Nat}(hx:ev m x=some (.pointer (some ⟨b,0,none⟩)))(i:Own bs b (.stringIter ⟨s.toArray⟩ p) f)(hp:s.length<=p)
  (k:JS P ops Q l N ((d,.tuple #[.bool false])::m) ⟨w0,F0,bs,G⟩) (hd:J5 N (some d)=true:=by rfl) :
  JS P ops Q (⟨some d,.next x true,ty,pos,aft,none⟩::l) N m ⟨w0,F0,bs,G⟩:=λa w ha h=>by
 have hb:=h.own i;have g:¬p<(⟨s.toArray⟩:ByteArray).size:=by rw[Y4];omega
 have c:(execOp a.eval ⟨some d,.next x true,ty,pos,aft,none⟩).run P w = .ok (.value (.tuple #[.bool false])) w:=by
  simp[execOp,ha.ev hx,lA,getObj,Sem.run,hb,g]
 exact wpList_plain rfl λK j=>upon_value c (j _ _ (k _ _ (ha.put hd _) h))
end
theorem decode_high{p:Nat}(hp:p<s.length)(h:¬s[p].toNat<128):128<=(bH ⟨s.toArray⟩ p).1:=by
 have h0:((⟨s.toArray⟩:ByteArray).get! (p+0)).toNat=s[p].toNat:=by
  simp[il,hp]
 unfold bH;simp only[h0];rw[if_neg h];split
 ·split
  ·rename_i g;exact g
  decide
 split
 ·split
  ·rename_i g;simp only[ay,decide_eq_true_eq]at g;exact ab tF g.1
  decide
 split
 ·split
  ·rename_i g;simp only[ay,decide_eq_true_eq]at g;exact ab tF g.1
  decide
 decide
def qV{p:Nat}(hp:p<s.length):∃c width,bH ⟨s.toArray⟩ p=(c,width)/\((s[p].toNat<128/\c=s[p].toNat/\width=1)\/(128<=s[p].toNat/\128<=c)):=by
 have h0:((⟨s.toArray⟩:ByteArray).get! (p+0)).toNat=s[p].toNat:=by
  simp[il,hp]
 by_cases h:s[p].toNat<128
 ·exact⟨_,_,by unfold bH;simp only[h0];rw[if_pos h],.inl ⟨h,rfl,rfl⟩⟩
 exact⟨(bH ⟨s.toArray⟩ p).1,(bH ⟨s.toArray⟩ p).2,rfl,.inr ⟨O,decode_high hp h⟩⟩
def Yp(c:Nat):Bool:=(decide (97<=c)&&decide (c<=122))||(decide (65<=c)&&decide (c<=90))
section
variable{P:Program}{N:Nat}{m:Sl}{Y:World->Prop}{ty:TypeId}
def SV(a:Addr):a.add 0=a:=by simp[Addr.add]
theorem NV{e:TypeId}{q:Option Addr}{c sz:Nat}{g:Bool}(h:Nat)(hx:ev m x=some (.slice q n c))(k:Is m hi=some vh)(j:vh=some (.int .i64 (h:Int)))(f:Gp P T=some e)(i:Z5 P e=some (g,sz))(hc:h<=c):
  Qt P N m Y (.slice T x none hi none) ty (.slice q h c):=λa w _ _ _ _ ha _=>by
 subst j;have l:q.map (λa=>a.add 0)=q:=by cases q<;>simp[SV]
 have b:(iY T (.slice q n c) none (some (.int .i64 (h:Int))) none).run P w = .ok (.slice q h c) w:=by
  simp[iY,run_underlying (Q5 f),Instr.sliceBounds,Instr.sliceBound,asIntOf,hc,K4 i,l]
 simp[execOp,ha.ev hx,ha.Is k,iR,run_underlying (Q5 f),b]
end
def J8(F:Gs)(r:Sr)(l:List Int):Prop:=Qy F r.q r.n 1 (l.map Jo)/\l.length=r.n/\r.n<=r.cap
def J8.le{r:Sr}{l:List Int}(h:J8 F r l)(k:Gs.le F F'):J8 F' r l:=⟨h.1.le k,h.2⟩
theorem Q8.fix{w0:World}{F0:Gs}{bs1:List (Nat×Obj)}{G:Gs->Prop}{sz:Nat}{v:Value}(hr:Q8 T sz v n cs ob):
  ∃r:Sr,v=r.v/\r.n=n/\n<=r.cap/\∀w,St ⟨w0,F0,bs1++ob,G⟩ w->St ⟨w0,F0,bs1,λF=>G F/\Qy F r.q n sz cs⟩ w:=by
 cases hr with
 |nil=>exact⟨⟨eW,0,0⟩,rfl,rfl,aE _,λw hw=>by
   have:=hw.B5 (G':=λF=>G F/\Qy F eW 0 sz []) (λF h=>⟨h,Qy.nil F eW sz⟩);simpa using this⟩
 |some h1 h2 h3 h4 =>
  rename_i b cap rest;refine⟨⟨Option.some ⟨b,0,eW⟩,n,cap⟩,rfl,rfl,h3,λw hw=>?_⟩;have:=St.freeze (pre:=bs1) (post:=[]) (b:=b) hw;rw[ff]at this;refine this.B5 λF h=>⟨h.1,h1,λ_=>⟨b,0,_,T,rfl,h.2,λj u hu=>?_⟩⟩;have hj:j<cs.length:=by rcases aR j cs.length with g | g;exact g;rw[aX g]at hu;cases hu
  rw[aV];simp only[List.getElem?_toArray];rw[aQ,if_pos hj];exact hu
theorem QDI{Q:Exit->Act->World->Prop}{e:Exit}{m:Sl}{E:Env}(h:∀w,St E w->St E' w)(k:Fin Q e N m E'):Fin Q e N m E:=λa w ha b=>k a w ha (h w b)
def B9:Int:=1000000000
theorem jH{Q:Exit->Act->World->Prop}{c:Code}{m:Sl}{E:Env}(h:∀w,St E w->St E' w)(k:J P c Q N m E'):J P c Q N m E:=λa w ha b=>k a w ha (h w b)
theorem VG.one{l:List Value}{v:Value}:∀ {n:Nat},n<l.length->VG l n [v] (l.set n v):=by
 induction l with
 |nil=>intro n h;simp at h
 |cons x l ih =>
  intro n h;cases n with
  |zero=>exact .here .nil
  |succ n=>exact .skip (ih (by simpa using h))
def TY(h:k<o.length):(o.map Jo)[0+k*1]?=some (.int .i64 (Qm o k)):=by
 rw[Z9 h];simp[h,Jo]
def Jz(h:k<o.length):(o.map Jo)[k*1]?=some (.int .i64 (Qm o k)):=by
 rw[Z9 h];simp[h,Jo]
theorem SC(h:k<o.length)(x:Int):VG (o.map Jo) (0+k*1) [.int .i64 x] ((o.set k x).map Jo):=by
 have:=VG.one (l:=o.map Jo) (n:=0+k*1) (v:=.int .i64 x) (by simpa using h);simpa[List.map_set,Jo]using this
def WR(h:k<o.length):(o.map Jo++rest)[0+k*1]?=some (.int .i64 (Qm o k)):=by
 rw[aQ,if_pos tK];exact TY h
def gn{l vs a:List Value}(h:VG l n vs a):VG (l++rest) n vs (a++rest):=by
 induction h with
 |nil=>exact .nil
 |here h ih=>exact .here ih
 |skip h ih=>exact .skip ih
def BB(h:k<o.length)(x:Int):VG (o.map Jo++rest) (0+k*1) [.int .i64 x] ((o.set k x).map Jo++rest):=gn (SC h x)
end Go.Proofs.YtjcphjpkimmmjaaGreatDoor
namespace Ig
structure IU(b:Int)(U v:List Int)(j n i:Nat)(U':List Int)(c:Int):Prop where
 len:U'.length=U.length
 dg:DG b (U'.set (j+n) 0)
 lo:U'.take j=U.take j
 hi:U'.drop (j+i)=U.drop (j+i)
 c0:0<=c
 c1:c<=1
 h:dv b U'+b^(j+i)*c=dv b U+b^j*dv b (v.take i)
end Ig
namespace Go.Proofs.YtjcphjpkimmmjaaGreatDoor
variable{ds o post u:List Int}{B N b cap i j k m n off:Nat}{c:UInt8}{w w':World}{a z:Int}{α γ ι:Type}{x y:Operand}{l s:List UInt8}{F F':Gs}{P:Program}{f:Obj->List (Nat×Obj)}{args cs olds rest:List Value}{T yT:TypeId}{hi:Option Operand}{vh:Option Value}{bs' ob:List (Nat×Obj)}{G0:Gs->Prop}{fn:Func}{fr:Nat×Nat}{aft:Array Edge}{E':Env}{g g':Bg}
open Go.RowKit Ig
def el{α:Type}[Inhabited α](l:List α)(i:Nat):α:=l.getD i default
def Jb[Inhabited α]{l:List α}{i:Nat}(h:i<l.length):el l i=l[i]:=by simp[el,h]
def Qw[Inhabited α]{l:List α}{i:Nat}(h:i<l.length):el l i∈l:=by rw[Jb h];exact fb h
theorem JN[Inhabited α]{f:α->List Value}{k:Nat}(c:∀x,(f x).length=k){l:List α}{i j:Nat}{u:Value}(h:i<l.length)(b:(f (el l i))[j]?=some u):(l.flatMap f)[i*k+j]?=some u:=by
 have a:j<k:=by
  rcases aR j k with g | g
  ·exact g
  rw[aX (by rw[c];exact g)]at b;cases b
 rw[CL c l i j h a,<-Jb h];exact b
def XT[Inhabited α]{f:α->Value}{l:List α}{i:Nat}(h:i<l.length):(l.map f)[i*1]?=some (f (el l i)):=by
 rw[fU,List.getElem?_map,fy h,Jb h];rfl
def XE[Inhabited α]{l:List α}{i:Nat}(h:i<l.length):l.take (i+1)=l.take i++[el l i]:=by
 rw[eU h,Jb h]
def Bp[Inhabited α]{l:List α}{i:Nat}(h:i<l.length):l.drop i=el l i::l.drop (i+1):=by
 rw[bj h,Jb h]
def YW{l:List Int}(h:i<l.length):Qm l i=el l i:=by rw[Z9 h,Jb h]
def QBD(q:Option Addr):Nat:=(q.getD ⟨0,0,none⟩).block
def QBC(q:Option Addr):Nat:=(q.getD ⟨0,0,none⟩).off
section
variable[Dr][df:Df]{P:Program}{Q:Exit->Act->World->Prop}{N:Nat}{m:Sl}{E E0:Env}{ops:Array Oper}{l:List Oper}{w0:World}{F0:Gs}{bs:List (Nat×Obj)}{G:Gs->Prop}{ty:TypeId}
theorem Q3{e:TypeId}{q:Option Addr}{c sz f:Nat}{g:Bool}(i:Nat)(hr:∀F,G F->Qy F q n f cs)(hx:ev m x=some (.slice q n c))(hy:ev m y=some (.int .i64 (i:Int)))(k:Gp P T=some e)(j:Z5 P e=some (g,sz))(hi:i<n):
  Qt P N m (St ⟨w0,F0,bs,G⟩) (.indexAddr T x y) ty (.pointer (some ⟨QBD q,QBC q+i*sz,none⟩)):=λa w _ _ _ _ ha h=>by
 obtain⟨F,l⟩:=id h;obtain⟨b,off,rfl⟩:=(hr F l.hG).ptr O;exact JL hx hy k j hi a w _ _ _ _ ha h
theorem JA{q:Option Addr}{sz:Nat}(j:Nat){u:Value}(hr:∀F,G F->Qy F q n sz cs)(f:0<n)(hx:ev m x=some (.pointer (some ⟨QBD q,QBC q+j,none⟩)))(ht:Z5 P T=some (false,k))(hu:cs[j]?=some u):
  Qt P N m (St ⟨w0,F0,bs,G⟩) (.load T x) ty u:=λa w _ _ _ _ ha c=>by
 obtain⟨F,g⟩:=id c;obtain⟨b,off,rfl⟩:=(hr F g.hG).ptr f;exact Yn hx ht hr f hu a w _ _ _ _ ha c
theorem JZ{q:Option Addr}{sz:Nat}{vs:List Value}(j:Nat)(hr:∀F,G F->Qy F q n sz cs)(f:0<n)(hx:ev m x=some (.pointer (some ⟨QBD q,QBC q+j,none⟩)))(ht:Z5 P T=some (true,k))(g:vs.length=k)(hu:∀i v,vs[i]?=some v->cs[j+i]?=some v):
  Qt P N m (St ⟨w0,F0,bs,G⟩) (.load T x) ty (.agg vs.toArray):=λa w _ _ _ _ ha c=>by
 obtain⟨F,h⟩:=id c;obtain⟨b,off,rfl⟩:=(hr F h.hG).ptr f;exact C9 hx ht hr f g hu a w _ _ _ _ ha c
theorem KN.append{m:Sl}:∀ {k l:Sl},KN m k->KN m l->KN m (k++l)
 |[],_,_,h=>h
 |(_,_)::_,_,⟨h1,h2⟩,h=>⟨h1,KN.append h2 h⟩
theorem JU{c:Code}(K:Sl)(M:ι->Sl)(B:ι->List (Nat×Obj))(R:ι->Gs->Prop)(μ:ι->Nat)(b:ι)
  (hk:KN m K) (hm:KN m (M b)) (hb:(B b).Sublist bs) (f:∀F,G F->R b F)
  (a:∀i,J P c (Exit.then (Cg N w0 F0 (λi=>K++M i) B (λi F=>G F/\R i F) μ i) Q) N (K++M i) ⟨w0,F0,B i,λF=>G F/\R i F⟩):J P (.loop c) Q N m ⟨w0,F0,bs,G⟩ :=
 YB (λi=>K++M i) B (λi F=>G F/\R i F) μ b (hk.append hm) hb (λF h=>⟨h,f F h⟩) a
theorem J9{c:Code}(K:Sl)(M:ι->Sl)(μ:ι->Nat)(b:ι)(hk:KN m K)(hm:KN m (M b))
  (a:∀i,J P c (Exit.then (Cg N w0 F0 (λi=>K++M i) (λ_=>bs) (λ_=>G) μ i) Q) N (K++M i) ⟨w0,F0,bs,G⟩):J P (.loop c) Q N m ⟨w0,F0,bs,G⟩ :=
 YB (λi=>K++M i) (λ_=>bs) (λ_=>G) μ b (hk.append hm) we tM a
theorem ZZ{x y:Code}(K M:Sl)(hk:KN m K)(h1:J P x (ZV λa w=>Ja N (K++M) a/\St ⟨w0,F0,bs,G⟩ w) N m ⟨w0,F0,bs,G⟩)(h2:J P y Q N (K++M) ⟨w0,F0,bs,G⟩):J P (.seq x y) Q N m ⟨w0,F0,bs,G⟩ :=
 QAV _ _ _ h1 h2
theorem Us{x y:Code}(K:Sl)(M:ι->Sl)(B:ι->List (Nat×Obj))(R:ι->Gs->Prop)(hk:KN m K)(h1:J P x (ZV λa w=>∃i,Ja N (K++M i) a/\St ⟨w0,F0,B i,λF=>G F/\R i F⟩ w) N m ⟨w0,F0,bs,G⟩)
  (h2:∀i,J P y Q N (K++M i) ⟨w0,F0,B i,λF=>G F/\R i F⟩):J P (.seq x y) Q N m ⟨w0,F0,bs,G⟩ :=
 BR (λi=>K++M i) B (λi F=>G F/\R i F) h1 h2
end
def TL:(1:Int)<B9:=tF
end Go.Proofs.YtjcphjpkimmmjaaGreatDoor
