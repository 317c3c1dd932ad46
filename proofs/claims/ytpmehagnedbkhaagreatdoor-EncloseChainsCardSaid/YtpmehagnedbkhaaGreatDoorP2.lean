/- Steps of the proof of the theorem in the last file. -/
import Derived.Test.YtpmehagnedbkhaaGreatDoorP1
import Derived.MapKept
import Derived.Maps.RangeRun
import Derived.Lib.ItoaLen
import Derived.Shelf.SlSortCmp.PdqK
import Derived.Ground.SlsfProg
import Derived.Test.YtpmehagnedbkhaaGreatDoorProg
import Derived.Sort.AssemblyPlain
import Derived.Shelf.SlSortCmp.NoneTotal
import Derived.RangeFuncLeaves
import Derived.RangeFuncSeq
import Derived.OwnWalkIn
import Derived.OrdersIn
import Derived.ChangeKeysEq
import Derived.KernelRfl
set_option linter.all false
set_option maxHeartbeats 4000000
open Go.Proofs.Tryz
open List renaming mem_map_of_mem → aa,cons_append → ae,map_cons → ag,nil_append → ah,range → aj,length_append → ak,flatMap → ao,mem_cons_of_mem → ar,length_cons → au,getElem?_eq_getElem → ax,drop_of_length_le → ay,mem_cons → aA,mem_cons_self → aC,take_length → aD,length_erase_of_mem → aH,not_mem_nil → aJ,contains_eq_mem → aK,map_append → aM,length_take → aR,take_append_drop → aS,getElem?_toArray → aT,flatMap_append → aX,length_set → bc,getElem?_eq_none → bj,exists_cons_of_ne_nil → bm,sublist_append_right → bz,length_map → bB,flatMap_cons → bG,perm_append_comm → bK,foldl_cons → bN,append_assoc → bS,sum_cons → bT,take_of_length_le → bV,length_pos_of_mem → bW,mem_append → bY,length_nil → bZ,length_singleton → ei,nodup_nil → ek,mem_of_mem_take → ep,mem_singleton → eC,pairwise_map → eH,mem_map → eI,length_range → eK,perm_middle → eP,any_eq_true → eQ,range' → eR,sum_append → eV,append_nil → eW,perm_ext_iff_of_nodup → eZ,mem_of_find?_eq_some → e8,all_cons → fa,getElem?_cons_succ → ff,map_nil → fg,mem_of_getElem? → fq,map → fu,getElem?_append → fy,length_zipWith → fF,getElem_of_mem → fG,getElem?_map → fL,foldl_append → fM,filter_cons → fQ,drop_append → fR,nodup_cons → fW,mem_filter → fX,find?_some → fY,replicate → ib,map_map → iw
open Bool renaming and_eq_true → af,not_eq_true' → aP,eq_iff_iff → bh,or_eq_true → bC,false_or → fc,false_and → ij,true_and → ir,not_true → iu
open Rat renaming mul_le_mul_of_nonneg_left → ai,le_trans → aq,le_refl → aE,add_zero → aI,mul_le_mul_of_nonneg_right → aN,pow_succ → aO,zero_add → aQ,divInt → aV,add_assoc → aW,pow_zero → bw,le_total → bH,mul_assoc → bM,pow_nonneg → bQ,add_comm → bX,divInt_mul_right → er,divInt_eq_div → eM,le_of_lt → fj,mul_one → fB,not_le → fI,intCast_mul → fZ,mul_zero → ix,one_mul → iD,neg_mul → iE,div_def → iF
open Nat renaming zero_le → av,beq → aF,eq_of_beq_eq_true → aG,le_trans → aU,mul_le_mul → aY,le_refl → aZ,lt_or_ge → bI,zero_add → bO,pow_add → eu,eq_zero_or_pos → eF,sub_zero → eN,pow_pos → eU,mul_assoc → fe,zero_mul → fk,mul_zero → fl,mul_le_mul_right → fC,add_mul → fD,pos_of_ne_zero → fJ,lt_of_lt_of_le → fK,strongRecOn → hJ,not_lt_zero → ia,sub_self → iy,mul_comm → iz,pow_one → iG
open Go.Value renaming int → aB,bool → bL
open List.Perm renaming refl → aL,swap → eO,flatMap_right → eX
open Go.Region renaming waitsFor → bA,ready → eD,binds → eE,waitsFor_spec → fh
open Int renaming natAbs_natCast → bD,natAbs_mul → ew,lt_or_le → fm,lt_trichotomy → fS,natCast_mul → ic,pow_succ → iA
open Go.MapKept renaming run_getObj_map → bF,run_setObj_map → e9,bytes_beq → fA
open Array renaming getElem?_append → bJ,getElem?_eq_none → bU,ext_getElem? → eB,all_eq_true_iff_forall_mem → eG,getElem?_modify → fi,ext' → fH
open Go.Fence renaming wide → bP
open Go.Result renaming andThen_ok → bR
open List.Pairwise renaming nil → ee
open Go.Sem renaming run_bind → ef,run_pure → fp
open Option.some renaming inj → ey
open Option renaming none_or → eT
open Prod.mk renaming injEq → eY
open Go.ByteArray renaming toList_eq → fb
open List.cons renaming injEq → fz
open Go.Instr renaming buildSlice → fN,beginRound → fO,mapUpdate → fV,findNow → ig,lookup → iq,fill → iC
open ByteArray renaming mk → fP
open Go.Proofs.SlLaysF0 renaming n14 → fT
open Go.Oper renaming semAt_plain → fU,uponIn → iB
open Go.Lib renaming itoa → il,compareInt → im
namespace Go.Proofs.YtpmehagnedbkhaaGreatDoor
variable{g:FuncId}{T et kt:TypeId}{N c cap i j k m n:Nat}{x:Operand}{P:Program}{l:List Int}{y:Rat}{w:World}{F F':Gs}{a b:Rat×Rat}{A seen u:List Nat}{f:Rat->Rat->Rat}{α:Type}{β:Nat->Nat}
open Go.RowKit Ig
section
variable[Dr][df:Df]{P:Program}{Q:Exit->Act->World->Prop}{N:Nat}{m:Sl}{ops:Array Oper}{l:List Oper}{w0:World}{F0:Gs}{bs:List (Nat×Obj)}{G:Gs->Prop}{ty:TypeId}{pos:String}{aft:Array Edge}
theorem Bi{d:Nat}{t e:TypeId}{sz:Nat}{g:Bool}(ht:P.underlying t=some (.slice e))(hs:Z1 P e=some (g,sz))(k:∀b,JS P ops Q l N ((d,.slice (some ⟨b,0,none⟩) 0 0)::m) ⟨w0,F0,(b,.cells #[] e (0,0))::bs,G⟩)(hu:Gc e=true:=by rfl)(hd:J2 N (some d)=true:=by rfl):
  JS P ops Q (⟨some d,.buildSlice t 0 #[],ty,pos,aft,none⟩::l) N m ⟨w0,F0,bs,G⟩:=λa w ha hw=>wpList_plain rfl λK hK=>by
 refine upon_value (v:=.slice (some ⟨w.heap.size,0,none⟩) 0 0) (w':=w.alloc (.cells #[] e)) ?_ (hK _ _ (k _ _ _ (ha.put hd _) (hw.alloc _ (X4 hu))));have hrun:(fN t 0 #[]).run P w = .ok (.slice (some ⟨w.heap.size,0,none⟩) 0 0) (w.alloc (.cells #[] e)):=by
  have hf:iC (λi=>some (i*sz,sz)) (Array.map (λx=>(#[]:Array Value)[x%(#[]:Array Value).size]!) (Array.range 0)) []=some #[]:=by simp[iC]
  simp only[fN,ef,run_underlying ht,bR,KX hs,fk,if_neg (show ¬0>2^24 by omega),fp,if_true,hf,newRow,run_newObj];rfl
 simp[execOp,hrun]
theorem CM{e e':TypeId}{sz:Nat}{v:Value}{cs:List Value}{ob:List (Nat×Obj)}{S:World->Prop}(hx:ev m x=some v)(hr:Q7 e' sz v n cs ob)(hT:Hc P T=some e):Qt P N m S (.call ⟨.builtin .len,#[x],#[T]⟩) ty (.int .i64 n):=by
 cases hr with
 |nil=>exact Qg hx hT
 |some=>exact Qg hx hT
end
theorem YB{Q:Exit->Act->World->Prop}{ops:Array Oper}{l:List Oper}{m:Sl}{E E':Env}(h:∀w,St E w->St E' w)(k:JS P ops Q l N m E'):JS P ops Q l N m E:=λa w ha hw=>k a w ha (h w hw)
def FO:Jh 0=[48]:=by
 have h:(0:Rat).num=0:=rfl;unfold Jh;rw[if_pos wy,h,XO wu];exact YZ
def Fb(x:Rat):x.num<0↔x<0:=by rw[<-fI,<-Rat.num_nonneg];omega
theorem I9(x:Rat):D8 x.num=if x<0 then -1 else if x=0 then 0 else 1:=by
 unfold D8;by_cases h:x<0
 ·rw[if_pos h,if_pos ((Fb x).2 h)]
 rw[if_neg h,if_neg (λg=>h ((Fb x).1 g))];by_cases h0:x=0
 ·rw[if_pos h0,if_pos (Rat.num_eq_zero.2 h0)]
 rw[if_neg h0,if_neg (λg=>h0 (Rat.num_eq_zero.1 g))]
structure ZK{α:Type}(l:List α)(f:α->Int) where
 i:Nat
 le:i<=l.length
 h:Qp (l.map f)=Qp ((l.map f).drop i)
section
variable{α:Type}[Inhabited α]{l:List α}{f:α->Int}
def Uf(hi:i<l.length):(l.map f)[i]'(by simpa using hi)=f (el l i):=by rw[List.getElem_map,Ja hi]
def ZK.next(s:ZK l f)(hi:s.i<l.length)(h:f (el l s.i)=0):ZK l f:=⟨s.i+1,hi,by
 rw[s.h,Ww (by simpa using hi) (by rw[Uf hi];exact h)]⟩
def ZK.hit(s:ZK l f)(hi:s.i<l.length)(h:f (el l s.i)≠0):Qp (l.map f)=f (el l s.i):=by
 rw[s.h,Dx (by simpa using hi) (by rw[Uf hi];exact h),Uf hi]
def ZK.stop(s:ZK l f)(hi:l.length<=s.i):Qp (l.map f)=0:=by
 rw[s.h,ay (by simpa using hi)];rfl
end
def ZK.start{α:Type}(l:List α)(f:α->Int):ZK l f:=⟨0,av _,rfl⟩
structure Bj{α:Type}(l:List α)(p:α->Bool) where
 i:Nat
 le:i<=l.length
 h:l.all p=(l.drop i).all p
section
variable{α:Type}[Inhabited α]{l:List α}{p:α->Bool}
def Bj.next(s:Bj l p)(hi:s.i<l.length)(h:p (el l s.i)=true):Bj l p:=⟨s.i+1,hi,by rw[s.h,Hy hi,fa,h,ir]⟩
def Bj.hit(s:Bj l p)(hi:s.i<l.length)(h:p (el l s.i)=false):l.all p=false:=by rw[s.h,Hy hi,fa,h,ij]
def Bj.stop(s:Bj l p)(hi:l.length<=s.i):l.all p=true:=by rw[s.h,ay hi];rfl
end
def Bj.start{α:Type}(l:List α)(p:α->Bool):Bj l p:=⟨0,av _,rfl⟩
def UH(p:List UInt8×List UInt8):List Value:=[tx p.1,tx p.2]
def Gn(p:List UInt8×List UInt8):(UH p).length=2:=rfl
def TX(x y:Rat):Rat:=if Z7 x y<=0 then x else y
def TY(x y:Rat):Rat:=if Z7 x y>=0 then x else y
def P9{x:Rat}(hx:JQ x<=k)(hy:JQ y<=k):JQ (TX x y)<=k:=by unfold TX;split<;>assumption
def RA{x:Rat}(hx:JQ x<=k)(hy:JQ y<=k):JQ (TY x y)<=k:=by unfold TY;split<;>assumption
def ZV(i:Nat):Rat:=aV 1 2^i
theorem jG(i:Nat):(ZV i).num≠0:=by
 intro e;have h0:=Rat.num_eq_zero.1 e;unfold ZV at h0;have h1:aV 1 2≠0:=by
  intro h;have:=OM.1;rw[h]at this;exact absurd this wu
 induction i with
 |zero=>rw[bw]at h0;exact absurd h0 wu
 |succ n ih =>
  rw[aO]at h0;rcases Rat.mul_eq_zero.1 h0 with h | h
  ·exact ih (Rat.num_eq_zero.2 h) h
  exact h1 h
theorem Ks{s:List UInt8}(hF:Fits F w):Qe prog 22 [tx s] w F (.agg #[tx s,tx s]):=by
 refine QT.intro (G:=λF=>True) func22 rfl wy rfl rfl hF w8<|QKO<|Qc Xh λb2=>QJC<|wR rfl<|QJD rfl<|QA (Qx rfl Zk Xh (wP rfl rfl rfl))<|QR (vs:=[_,_]) rfl rfl rfl J1 rfl .here .h2 wT<|QJC<|QW ?_
 exact QQ (()) I (.JZ (c:=[_,_]) I J1 .here .nil) (rfl) w8
def YK(x:Rat)(i:Nat):Rat:=((x/ZV i).floor:Rat)*ZV i
section
open Go Go.RowKit
section
variable[Dr][df:Df]
def Vy(l:List Oper)(r:List Nat)(i:Nat):Bool:=match l[i]? with
 |some o=>o.after.all λe=>!(eE .any e)||!(r.contains e.on)
 |none=>false
def UT(l:List Oper)(i:Nat):Bool:=match l[i]? with
 |some o=>Jy o.op
 |none=>false
def Hg(l:List Oper)(r:List Nat):Option Nat:=r.find? λi=>UT l i&&Vy l r i
def P6(l:List Oper):Bool :=
 Region.noSelect l.toArray&&WZ .any l.toArray l.length&&(aj l.length).all λj=>match l[j]? with
  |none=>false
  |some oj=>(aj j).all λi=>match l[i]? with
   |none=>false
   |some oi=>if Jy oi.op||Jy oj.op then(bA .any l.toArray j i||oi.apart l.toArray oj)else true
theorem P5{l:List Oper}(h:P6 l=true){i j:Nat}(hij:i<j){oi oj:Oper}(hi:l[i]?=some oi)(hj:l[j]?=some oj)(hq:(Jy oi.op||Jy oj.op)=true):(bA .any l.toArray j i||oi.apart l.toArray oj)=true:=by
 simp only[P6,af]at h;have hjl:j<l.length:=by rcases bI j l.length with g | g;exact g;rw[bj g]at hj;cases hj
 have h1:=List.all_eq_true.1 h.2 j (List.mem_range.2 hjl);rw[hj]at h1;have h2:=List.all_eq_true.1 h1 i (List.mem_range.2 hij);rw[hi]at h2;simp only at h2;rw[if_pos hq]at h2;exact h2
section
variable{P:Program}{Q:Exit->Act->World->Prop}{S:World->Prop}
def Gd(P:Program)(l:List Oper)(Q:Exit->Act->World->Prop)(S:World->Prop):Nat->List Nat->Act->World->Prop
 |0,_,a,w=>Q .normal a w
 |n+1,r,a,w=>match Hg l r with
  |some i=>∃o v,l[i]?=some o/\YieldsIf P l.toArray S o v a/\Gd P l Q S n (r.erase i) (a.put o.dst v) w
  |none=>∀i∈r,Vy l r i=true->wpOp P l.toArray (λ_ _ _=>False) i (λa' w'=>S w'/\Gd P l Q S n (r.erase i) a' w') a w
theorem xy{l:List Oper}(hB:P6 l=true)(hQ:∀c a d v w,Q (.panic c) (Act.put a d v) w->Q (.panic c) a w):
  ∀(m:Nat) (r:List Nat) (listed:Array Bool) (a:Act) (w:World),r.length=m->r.Pairwise (·<·)->(∀i,i∈r↔i<l.length/\listed.getD i true=false)->listed.size=l.length ->
   (∀j oj,l.toArray[j]?=some oj->listed.getD j false=true->∀e∈oj.after,eE .any e=true->listed.getD e.on false=true)->S w->Gd P l Q S m r a w->wpAnyH P .any l.toArray Q S m listed a w:=by
 have hB':=hB;simp only[P6,af]at hB';obtain⟨⟨hns,hord⟩,_⟩:=hB';have hsel:=Region.noSelect_spec hns;intro m
 induction m with
 |zero =>
  intro r listed a w hm hs hr hsz hcl hS h;have:r=[]:=List.length_eq_zero_iff.1 hm;subst this;refine⟨?_,h⟩;rw[List.eq_nil_iff_forall_not_mem];intro i hi;obtain⟨h1,o,ho,_⟩:=mem_ready.1 hi;have hlt:i<l.length:=by have:=(Array.getElem?_eq_some_iff.1 ho).1;simpa using this
  have:=(hr i).2 ⟨hlt,h1⟩;cases this
 |succ m ih =>
  intro r listed a w hm hs hr hsz hcl hS h;have hready:∀j,j∈eD .any l.toArray listed↔j∈r/\Vy l r j=true:=by
   intro j;rw[mem_ready,hr j];constructor
   ·rintro⟨h1,o,ho,h2⟩;have hlt:j<l.length:=by have:=(Array.getElem?_eq_some_iff.1 ho).1;simpa using this
    refine⟨⟨hlt,h1⟩,?_⟩;unfold Vy;have ho':l[j]?=some o:=by simpa using ho
    rw[ho'];rw[eG];intro e he;cases hb:eE .any e with
    |false=>rfl
    |true =>
     have:=h2 e he hb;simp only[iu,fc,aP,aK,decide_eq_false_iff_not];intro hmem;have h3:=((hr e.on).1 hmem).2;rw[getD_both h3]at this;cases this
   rintro⟨⟨hlt,h1⟩,h2⟩;obtain⟨o,ho,hed⟩:=ZC hord hlt;refine⟨h1,o,ho,λe he hb=>?_⟩;unfold Vy at h2;have ho':l[j]?=some o:=by simpa using ho
   rw[ho',eG]at h2;have:=h2 e he;rw[hb]at this;simp only[iu,fc,aP,aK,decide_eq_false_iff_not]at this;cases hv:listed.getD e.on false with
   |true=>rfl
   |false =>
    have hel:=hed e he hb;exact absurd ((hr e.on).2 ⟨O,getD_in O hv⟩) this
  have next:∀j,j∈eD .any l.toArray listed->∀a' w',S w'->Gd P l Q S m (r.erase j) a' w'->wpAnyH P .any l.toArray Q S m (listed.setIfInBounds j true) a' w':=by
   intro j hj a' w' hS' h';have hjr:=((hready j).1 hj).1;have hjsz:j<listed.size:=by rw[hsz];exact((hr j).1 hjr).1
   refine ih (r.erase j) _ a' w' (by rw[aH hjr];omega) (hs.sublist List.erase_sublist) (λk=>?_) (by simpa using hsz) (λk ok hk hl e he hb=>?_) hS' h'
   ·rw[List.Nodup.mem_erase_iff (hs.imp λh=>Nat.ne_of_lt h),hr k];by_cases hjk:j=k
    ·subst hjk;simp[hjsz]
    rw[getD_set_ne true hjk];simp[Ne.symm hjk]
   by_cases hjk:j=k
   ·subst hjk;obtain⟨_,oj,hoj,hall⟩:=mem_ready.1 hj;have:ok=oj:=ey (hk.symm.trans hoj);subst this;exact getD_set_true (hall e he hb)
   rw[getD_set_ne false hjk]at hl;exact getD_set_true (hcl k ok hk hl e he hb)
  unfold Gd at h;cases hp:Hg l r with
  |some j =>
   rw[hp]at h;obtain⟨oj,v,hoj0,hy,h'⟩:=h;have hoj:l.toArray[j]?=some oj:=by simpa using hoj0
   have hjr:j∈r:=e8 hp;have hqr:=fY hp;simp only[af]at hqr;have hq:Jy oj.op=true:=by have:=hqr.1;unfold UT at this;rw[hoj0]at this;exact this
   have hj:j∈eD .any l.toArray listed:=(hready j).2 ⟨hjr,hqr.2⟩;have hjs:=mem_ready.1 hj;have happ:∀k ok,l.toArray[k]?=some ok->k≠j->listed.getD k true=false->(∀e∈ok.after,eE .any e=true->e.on≠j)->oj.apart l.toArray ok=true:=by
    intro k ok hok hkj hun hno;have hnw:bA .any l.toArray k j=false:=by
     cases hv:bA .any l.toArray k j with
     |false=>rfl
     |true =>
      obtain⟨o',ho',e,he,hb,hon⟩:=fh hv;have:o'=ok:=ey (ho'.symm.trans hok);subst this;exact absurd hon (hno e he hb)
    have hnw2:bA .any l.toArray j k=false:=by
     cases hv:bA .any l.toArray j k with
     |false=>rfl
     |true =>
      obtain⟨o',ho',e,he,hb,hon⟩:=fh hv;obtain⟨_,o2,ho2,hall⟩:=hjs;have:o'=o2:=ey (ho'.symm.trans ho2);subst this;have:=hall e he hb;rw[hon,getD_both hun]at this;cases this
    rcases Nat.lt_or_gt_of_ne hkj with hlt | hgt
    ·have:=P5 hB hlt (by simpa using hok) (by simpa using hoj) (by simp[hq]);rw[hnw2]at this;exact SB (by simpa using this)
    have:=P5 hB hgt (by simpa using hoj) (by simpa using hok) (by simp[hq]);rw[hnw]at this;simpa using this
   exact wpAnyH_first hoj hsel (λc a w h=>hQ c a _ v w h) m listed a w happ hj hy hS (next j hj _ w hS h')
  |none =>
   rw[hp]at h
   match r,hm,hs,hr,h,hready,next with
   |i::r,hm,hs,hr,h,hready,next =>
    have hil:=(hr i).1 wz;have hmin:∀j,j<i->listed.getD j false=true:=by
     intro j hj;cases hv:listed.getD j false with
     |true=>rfl
     |false =>
      have hjl:j<l.length:=O;have:=(hr j).2 ⟨hjl,getD_in O hv⟩;rcases List.mem_cons.1 this with e | e
      ·omega
      have:=(List.pairwise_cons.1 hs).1 j e;omega
    obtain⟨oi,hoi,hed⟩:=ZC hord hil.1;have hri:i∈eD .any l.toArray listed:=mem_ready.2 ⟨hil.2,oi,hoi,λe he hb=>hmin _ (hed e he hb)⟩;refine⟨λh0=>(by rw[h0]at hri;cases hri),λj hj=>?_⟩;have hj':=(hready j).1 hj;exact Ac (wpOp_mono (λa' w' h=>⟨h.1,next j hj a' w' h.1 h.2⟩) (h j hj'.1 hj'.2))
theorem Sa{l:List Oper}{Q':Exit->Act->World->Prop}(hB:P6 l=true)(hQ:∀c a w,¬Q' (.panic c) a w){a:Act}{w:World}(hS:S w)(h:Gd P l Q' S l.length (eR 0 l.length) a w):
  wpAny P .any l.toArray Q' l.length (Array.replicate l.length false) a w:=by
 refine wpAny_of_held _ _ _ _ (xy hB (λc a d v w h=>absurd h (hQ c _ w)) l.length (eR 0 l.length) _ a w wz List.pairwise_lt_range' (λi=>?_) wz (λj oj _ hl=>(by rw[getD_replicate_false]at hl;cases hl)) hS h);rw[List.mem_range'_1];constructor
 ·intro h;have:i<l.length:=O;simp[this]
 intro h;omega
theorem Pu{id:Nat}{a:Act}{l:List Oper}(hm:P.follows .mixedOrders=true)(hB:P6 l=true)(hS:S { w with drawn:=w.drawn+1 })
  (h:Gd P l (ZD (Q .normal)) S l.length (eR 0 l.length) a { w with drawn:=w.drawn+1 }):(Code.region id l.toArray true).wp P Q a w:=by
 refine wp_region_any hm ?_;have:=Sa (P:=P) (Q':=ZD (Q .normal)) hB (λc a w h=>h) hS h;simpa using Ws (Q':=Q) (λe a w h=>by cases e<;>first | exact h | exact h.elim) _ _ _ _ this
end
section
variable{P:Program}{Q:Exit->Act->World->Prop}{N:Nat}{m:Sl}{E E0:Env}{l:List Oper}{r r':List Nat}{w0:World}{F0:Gs}{bs:List (Nat×Obj)}{G:Gs->Prop}
def JT(P:Program)(l:List Oper)(Q:Exit->Act->World->Prop)(E0:Env)(r:List Nat)(N:Nat)(m:Sl)(E:Env):Prop:=(∀w,St E w->St E0 w)->∀a w,JH N m a->St E w->Gd P l Q (St E0) r.length r a w
def EN(P:Program)(l:List Oper)(Q:Exit->Act->World->Prop)(E0:Env)(r:List Nat):Act->World->Prop:=λa w=>Gd P l Q (St E0) r.length r a w
theorem Q9(h:JT P l Q E0 r N m E):JD P l.toArray (ZD (EN P l Q E0 r)) E0 [] N m E:=λhE a w ha hw=>h hE a w ha hw
theorem Th(h:i∈r):r.length=(r.erase i).length+1:=by
 rw[aH h];have:=bW h;omega
theorem Jk(i:Nat){o:Oper}(hp:Hg l r=some i)(ho:l[i]?=some o)(he:r.erase i=r')(h:JD P l.toArray (ZD (EN P l Q E0 r')) E0 [o] N m E):JT P l Q E0 r N m E:=by
 intro hE a w ha hw;subst he;have hi:i∈r:=e8 hp;rw[Th hi];unfold Gd;rw[hp];have hq:Jy o.op=true:=by
  have:=fY hp;simp only[af]at this;have:=this.1;unfold UT at this;rw[ho]at this;exact this
 rcases h hE a w ha hw with ⟨_,v,h1,h2⟩ | ⟨h1,_⟩
 ·exact⟨o,v,ho,h1,h2⟩
 rw[hq]at h1;cases h1
theorem Dj{o:Oper}(ho:l[i]?=some o)(hq:Jy o.op=false)(h:JD P l.toArray (ZD (EN P l Q E0 r')) E0 [o] N m E)(hE:∀w,St E w->St E0 w){a:Act}{w:World}(ha:JH N m a)(hw:St E w):
  wpOp P l.toArray (λ_ _ _=>False) i (λa' w'=>St E0 w'/\EN P l Q E0 r' a' w') a w:=by
 have ho':l.toArray[i]?=some o:=by simpa using ho
 unfold wpOp;simp only[ho'];rcases h hE a w ha hw with ⟨h1,_⟩ | ⟨_,h2⟩
 ·rw[hq]at h1;cases h1
 split
 ·rename_i g;rw[if_pos g]at h2;exact .inl h2
 rename_i g;rw[if_neg g]at h2;exact h2
theorem QFm(hp:Hg l r=none)(h:∀i∈r.filter (Vy l r),∃o,l[i]?=some o/\Jy o.op=false/\JD P l.toArray (ZD (EN P l Q E0 (r.erase i))) E0 [o] N m E)(hr:r≠[]:=by decide):JT P l Q E0 r N m E:=by
 intro hE a w ha hw;obtain⟨x,s,rfl⟩:=bm hr;show Gd P l Q (St E0) (s.length+1) (x::s) a w;unfold Gd;rw[hp];intro i hi hrd;obtain⟨o,ho,hq,hj⟩:=h i (List.mem_filter.2 ⟨hi,hrd⟩);have:=Dj ho hq hj hE ha hw;refine wpOp_mono (λa' w' h=>⟨h.1,?_⟩) this;have h2:=h.2;unfold EN at h2;rw[show s.length=((x::s).erase i).length by have:=Th hi;simp at this;omega];exact h2
theorem XX(i:Nat){o:Oper}(hp:Hg l r=none)(hl:r.filter (Vy l r)=[i])(ho:l[i]?=some o)(hq:Jy o.op=false)(he:r.erase i=r')(h:JD P l.toArray (ZD (EN P l Q E0 r')) E0 [o] N m E)(hr:r≠[]:=by decide):JT P l Q E0 r N m E :=
 QFm hp (λk hk=>by rw[hl]at hk;cases List.mem_singleton.1 hk;exact⟨o,ho,hq,he ▸ h⟩) hr
theorem Na(i j:Nat){o u:Oper}{r2:List Nat}(hp:Hg l r=none)(hl:r.filter (Vy l r)=[i,j])(ho:l[i]?=some o)(hu:l[j]?=some u)(hq:Jy o.op=false)(hq2:Jy u.op=false)(he:r.erase i=r')(he2:r.erase j=r2)
  (h:JD P l.toArray (ZD (EN P l Q E0 r')) E0 [o] N m E) (h2:JD P l.toArray (ZD (EN P l Q E0 r2)) E0 [u] N m E) (hr:r≠[]:=by decide):JT P l Q E0 r N m E :=
 QFm hp (λk hk=>by
  rw[hl]at hk;simp only[aA,aJ,or_false]at hk;rcases hk with rfl | rfl
  ·exact⟨o,ho,hq,he ▸ h⟩
  exact⟨u,hu,hq2,he2 ▸ h2⟩) hr
theorem KR{id:Nat}{bs0:List (Nat×Obj)}(hb0:bs0.Sublist bs)(hm:P.follows .mixedOrders=true)(hB:P6 l=true)(hr:eR 0 l.length=r)(h:JT P l (ZD (Q .normal)) ⟨w0,F0,bs0,G⟩ r N m ⟨w0,F0,bs,G⟩):J P (.region id l.toArray true) Q N m ⟨w0,F0,bs,G⟩:=λa w ha hw=>by
 subst hr;refine Pu hm hB ((hw.imp hb0 λ_ h=>h).drew) ?_;have:=h (λ_ h=>h.imp hb0 λ_ h=>h) a _ ha hw.drew;simpa using this
theorem Yg(h:Fin Q .normal N m E):JT P l (ZD (Q .normal)) E0 [] N m E:=λ_=>h
end
end
end
def Kf(a:Rat×Rat)(n:Int):Rat×Rat:=(if(decide (n>0)&&(decide (n%2=0)&&(decide (D8 a.1.num<0)&&decide (D8 a.2.num>0))))=true then 0 else(Yf (a.1^n.toNat) [a.2^n.toNat]).1,(Yf (a.1^n.toNat) [a.2^n.toNat]).2)
end Go.Proofs.YtpmehagnedbkhaaGreatDoor
namespace Ig
def Yb:List Int->List Int->Bool
 |x::a,y::b=>decide (y<x)||(decide (x=y)&&Yb a b)
 |_::_,[]=>true
 |[],_=>false
def before(a b:List Int):Bool:=decide (b.sum<a.sum)||(decide (a.sum=b.sum)&&Yb a b)
def Ea:∀a:List Int,Yb a a=false
 |[]=>rfl
 |x::a=>by simp[Yb,Ea a]
def ND:∀ {a b c:List Int},Yb a b=true->Yb b c=true->Yb a c=true
 |[],_,_,h,_=>by simp[Yb]at h
 |_::_,[],_,_,h=>by simp[Yb]at h
 |_::_,_::_,[],_,_=>rfl
 |x::a,y::b,z::c,h,k=>by
  simp only[Yb,bC,af,decide_eq_true_eq]at h k ⊢;rcases h with h | ⟨h,h'⟩<;>rcases k with k | ⟨k,k'⟩
  ·left;omega
  ·left;omega
  ·left;omega
  right;exact⟨O,ND h' k'⟩
def Tb:∀a b:List Int,a=b\/Yb a b=true\/Yb b a=true
 |[],[]=>.inl rfl
 |[],_::_=>.inr (.inr rfl)
 |_::_,[]=>.inr (.inl rfl)
 |x::a,y::b=>by
  simp only[Yb,bC,af,decide_eq_true_eq,fz];rcases fS x y with h | h | h
  ·right;right;left;omega
  ·rcases Tb a b with k | k | k
   ·left;exact⟨h,k⟩
   ·right;left;right;exact⟨h,k⟩
   right;right;right;exact⟨h.symm,k⟩
  right;left;left;omega
def before_irrefl(a:List Int):before a a=false:=by simp[before,Ea]
def before_trans{a b c:List Int}(h:before a b=true)(k:before b c=true):before a c=true:=by
 simp only[before,bC,af,decide_eq_true_eq]at h k ⊢;rcases h with h | ⟨h,h'⟩<;>rcases k with k | ⟨k,k'⟩
 ·left;omega
 ·left;omega
 ·left;omega
 right;exact⟨O,ND h' k'⟩
def G7(a b:List Int):a=b\/before a b=true\/before b a=true:=by
 simp only[before,bC,af,decide_eq_true_eq];rcases fS a.sum b.sum with h | h | h
 ·right;right;left;exact h
 ·rcases Tb a b with k | k | k
  ·left;exact k
  ·right;left;right;exact⟨h,k⟩
  right;right;right;exact⟨h.symm,k⟩
 right;left;left;exact h
abbrev Tm:=Rat×List Int
def XK:List Tm->List Int->Rat
 |[],_=>0
 |t::p,k=>(if t.2=k then t.1 else 0)+XK p k
def Ib(p q:List Tm)(k:List Int):XK (p++q) k=XK p k+XK q k:=by
 induction p with
 |nil=>simp[XK,aQ]
 |cons t p ih=>simp only[ae,XK,ih,aW]
structure Canon(p:List Tm):Prop where
 srt:p.Pairwise λx y=>before x.2 y.2=true
 nz:∀t∈p,t.1≠0
def Canon.nil:Canon []:=⟨ee,λ_ h=>by cases h⟩
def Canon.tail{t:Tm}{p:List Tm}(h:Canon (t::p)):Canon p:=⟨(List.pairwise_cons.1 h.srt).2,λx hx=>h.nz x (ar _ hx)⟩
def GY{p:List Tm}{k:List Int}(h:∀t∈p,t.2≠k):XK p k=0:=by
 induction p with
 |nil=>rfl
 |cons t p ih=>rw[XK,if_neg (h t wz),ih (λx hx=>h x (by simp[hx])),aQ]
def Canon.head{t:Tm}{p:List Tm}(h:Canon (t::p)):XK (t::p) t.2=t.1:=by
 rw[XK,if_pos rfl,GY,aI];intro x hx e;have:=(List.pairwise_cons.1 h.srt).1 x hx;rw[e,before_irrefl]at this;cases this
def Canon.early{t:Tm}{p:List Tm}(h:Canon (t::p)){k:List Int}(hk:before k t.2=true):XK (t::p) k=0:=GY λx hx e=>by
 rcases List.mem_cons.1 hx with rfl | hx
 ·rw[e,before_irrefl]at hk;cases hk
 have:=before_trans hk ((List.pairwise_cons.1 h.srt).1 x hx);rw[e,before_irrefl]at this;cases this
def Ts:∀ {p q:List Tm},Canon p->Canon q->(∀k,XK p k=XK q k)->p=q
 |[],[],_,_,_=>rfl
 |[],y::q,_,hq,h=>by
  have:=h y.2;rw[hq.head]at this;exact absurd this.symm (hq.nz y wz)
 |x::p,[],hp,_,h=>by
  have:=h x.2;rw[hp.head]at this;exact absurd this (hp.nz x wz)
 |x::p,y::q,hp,hq,h=>by
  rcases G7 x.2 y.2 with e | e | e
  ·have h1:=h x.2;rw[hp.head]at h1;have h2:=hq.head;rw[<-e]at h2;rw[h2]at h1;have hxy:x=y:=Prod.ext h1 e;subst hxy;congr 1;refine Ts hp.tail hq.tail (λk=>?_);have h3:=h k;simp only[XK]at h3;generalize XK p k=a at *
   generalize XK q k=b at *
   grind
  ·have h1:=h x.2;rw[hp.head,hq.early e]at h1;exact absurd h1 (hp.nz x wz)
  have h1:=h y.2;rw[hq.head,hp.early e]at h1;exact absurd h1.symm (hq.nz y wz)
def WX:List Tm->Tm->List Tm
 |[],t=>if t.1=0 then[]else[t]
 |x::p,t=>if before x.2 t.2=true then x::WX p t else if x.2=t.2 then(if x.1+t.1=0 then p else(x.1+t.1,t.2)::p)else if t.1=0 then x::p else t::x::p
def Oa(p:List Tm)(t:Tm)(k:List Int):XK (WX p t) k=XK p k+(if t.2=k then t.1 else 0):=by
 induction p with
 |nil =>
  unfold WX;split
  ·rename_i h;rw[h];simp[XK,aI]
  simp[XK,aQ,aI]
 |cons x p ih =>
  unfold WX;split
  ·simp only[XK,ih,aW]
  split
  ·rename_i h;split
   ·rename_i h0;simp only[XK];rw[h];by_cases hk:t.2=k
    ·simp only[hk,if_true];rw[aW,bX (XK p k),<-aW,h0,aQ]
    simp only[hk,if_false,aQ,aI]
   simp only[XK];rw[h];by_cases hk:t.2=k
   ·simp only[hk,if_true];rw[aW,aW,bX t.1]
   simp only[hk,if_false,aQ,aI]
  split
  ·rename_i h0;rw[h0];simp[aI]
  simp only[XK];rw[bX]
def q8{p:List Tm}{t x:Tm}(h:x∈WX p t):x∈p\/x.2=t.2:=by
 induction p with
 |nil =>
  unfold WX at h;split at h
  ·cases h
  simp at h;subst h;exact .inr rfl
 |cons y p ih =>
  unfold WX at h;split at h
  ·rcases List.mem_cons.1 h with rfl | h
   ·exact .inl wz
   rcases ih h with h | h
   ·exact .inl (by simp[h])
   exact .inr h
  split at h
  ·split at h
   ·exact .inl (by simp[h])
   rcases List.mem_cons.1 h with rfl | h
   ·exact .inr rfl
   exact .inl (by simp[h])
  split at h
  ·exact .inl h
  rcases List.mem_cons.1 h with rfl | h
  ·exact .inr rfl
  exact .inl h
def Canon.WX{p:List Tm}(h:Canon p)(t:Tm):Canon (Ig.WX p t):=by
 induction p with
 |nil =>
  unfold Ig.WX;split
  ·exact Canon.nil
  rename_i h0;exact⟨List.pairwise_singleton _ _,λx hx=>by simp at hx;subst hx;exact h0⟩
 |cons x p ih =>
  have hs:=List.pairwise_cons.1 h.srt;unfold Ig.WX;split
  ·rename_i hb;have hc:=ih h.tail;refine⟨List.pairwise_cons.2 ⟨λy hy=>?_,hc.srt⟩,λy hy=>?_⟩
   ·rcases q8 hy with hy | hy
    ·exact hs.1 y hy
    rw[hy];exact hb
   rcases List.mem_cons.1 hy with rfl | hy
   ·exact h.nz _ wz
   exact hc.nz y hy
  rename_i hb;split
  ·rename_i he;split
   ·exact h.tail
   rename_i h0;refine⟨List.pairwise_cons.2 ⟨λy hy=>?_,hs.2⟩,λy hy=>?_⟩
   ·have:=hs.1 y hy;rw[he]at this;exact this
   rcases List.mem_cons.1 hy with rfl | hy
   ·exact h0
   exact h.nz y (by simp[hy])
  rename_i he;split
  ·exact h
  rename_i h0;have hb':before t.2 x.2=true:=by
   rcases G7 x.2 t.2 with q | q | q
   ·exact absurd q he
   ·exact absurd q hb
   exact q
  refine⟨List.pairwise_cons.2 ⟨λy hy=>?_,h.srt⟩,λy hy=>?_⟩
  ·rcases List.mem_cons.1 hy with rfl | hy
   ·exact hb'
   exact before_trans hb' (hs.1 y hy)
  rcases List.mem_cons.1 hy with rfl | hy
  ·exact h0
  exact h.nz y hy
def Xw(l:List Tm):List Tm:=l.foldl WX []
def Rm(l:List Tm):∀ {p:List Tm},Canon p->Canon (l.foldl WX p)/\∀k,XK (l.foldl WX p) k=XK p k+XK l k:=by
 induction l with
 |nil=>intro p h;exact⟨h,λk=>by simp[XK,aI]⟩
 |cons t l ih =>
  intro p h;obtain⟨h1,h2⟩:=ih (h.WX t);exact⟨h1,λk=>by rw[bN,h2,Oa,XK,aW]⟩
def Ii(l:List Tm):Canon (Xw l):=(Rm l Canon.nil).1
def Ob(l:List Tm)(k:List Int):XK (Xw l) k=XK l k:=by
 rw[Xw,(Rm l Canon.nil).2,XK,aQ]
def AV(p q:List Tm):Prop:=∀k,XK p k=XK q k
def AV.refl(p:List Tm):AV p p:=λ_=>rfl
def AV.trans{p q r:List Tm}(h:AV p q)(h':AV q r):AV p r:=λk=>(h k).trans (h' k)
def Fe{p l:List Tm}(hp:Canon p)(h:AV p l):p=Xw l:=Ts hp (Ii l) λk=>by rw[Ob,h]
def RW{p:List Tm}(hp:Canon p):Xw p=p:=(Fe hp (AV.refl p)).symm
def AV.perm{l m:List Tm}(h:l.Perm m):AV l m:=by
 intro k
 induction h with
 |nil=>rfl
 |cons x _ ih=>rw[XK,XK,ih]
 |swap x y l=>simp only[XK];rw[<-aW,<-aW];congr 1;exact bX _ _
 |trans _ _ h1 h2=>exact h1.trans h2
def AV.cons{p q:List Tm}(t:Tm)(h:AV p q):AV (t::p) (t::q):=λk=>by rw[XK,XK,h]
def eqv_filter(p:List Tm):AV (p.filter λt=>decide (t.1≠0)) p:=by
 induction p with
 |nil=>exact AV.refl _
 |cons t p ih =>
  rw[fQ];split
  ·exact ih.cons t
  rename_i h;have h0:t.1=0:=by simpa using h
  intro k;rw[XK,h0,ih k];simp[aQ]
def Wm(a b:List Int):List Int:=List.zipWith (·+·) a b
def Io{a b:List Int}(h:a.length=b.length):(Wm a b).length=a.length:=by simp[Wm,h]
def K8(s:Tm)(q:List Tm):List Tm:=q.map λt=>(s.1*t.1,Wm s.2 t.2)
def Zr(p q:List Tm):List Tm:=p.flatMap λs=>K8 s q
def L3(s:Tm)(p q:List Tm):Zr (s::p) q=K8 s q++Zr p q:=by simp[Zr]
def DQ(s:Tm)(p q:List Tm):K8 s (p++q)=K8 s p++K8 s q:=by simp[K8]
def EO(p p' q:List Tm):Zr (p++p') q=Zr p q++Zr p' q:=by simp[Zr]
end Ig
namespace Go.Proofs.YtpmehagnedbkhaaGreatDoor
variable{g:FuncId}{T et kt:TypeId}{N c cap i j k m n:Nat}{x:Operand}{P:Program}{l:List Int}{y:Rat}{w:World}{F F':Gs}{a b:Rat×Rat}{A seen u:List Nat}{f:Rat->Rat->Rat}{α:Type}{β:Nat->Nat}
open Go.RowKit Ig
section
variable[Dr]
def PW(l:List Int):Prop:=(∀x∈l,0<=x/\x<=1000000)/\l.length<=1000
theorem PW.el(h:PW l){i:Nat}(hi:i<l.length):0<=Qm l i/\Qm l i<=1000000:=by rw[Yy hi];exact h.1 _ (Q3 hi)
theorem S8(hi:i<l.length):(l.take (i+1)).sum=(l.take i).sum+Qm l i:=by
 rw[XV hi,eV,Yy hi];simp
theorem PW.sum(h:PW l):∀i,i<=l.length->0<=(l.take i).sum/\(l.take i).sum<=i*1000000:=by
 intro i
 induction i with
 |zero=>intro _;simp
 |succ i ih =>
  intro hi;have h1:=ih O;have h2:=h.el (i:=i) O;rw[S8 O];omega
theorem CD(l:List Int):Qp l=Qp (l.map λx=>x):=by rw[List.map_id']
def LM:List Int->List Int->Int
 |[],[]=>0
 |[],_::_=>-1
 |_::_,[]=>1
 |x::a,y::b=>if YG x y≠0 then YG x y else LM a b
theorem O8:∀a b:List Int,(LM b a<0↔Yb a b=true)/\(LM b a=0↔a=b)
 |[],[]=>by simp[LM,Yb]
 |[],_::_=>by simp[LM,Yb]
 |_::_,[]=>by simp[LM,Yb]
 |x::a,y::b=>by
  have ih:=O8 a b;unfold LM Yb YG;by_cases h1:y<x
  ·simp[h1];omega
  by_cases h2:y=x
  ·subst h2;simp[ih.1,ih.2]
  have h3:¬x=y:=λe=>h2 e.symm;simp[h1,h2,h3]
theorem PI(x y:Int):im x y=YG x y:=by
 unfold im YG;by_cases h1:x<y
 ·simp[h1]
 by_cases h2:x=y
 ·subst h2;simp
 have h3:y<x:=O;simp[h1,h2,h3]
def Gg(a b:List Int):Int:=Qp [YG b.sum a.sum,LM b a]
theorem B4(a b:List Int):before a b=decide (Gg a b<0):=by
 obtain⟨h1,h2⟩:=O8 a b;unfold before Gg;rw[bh,decide_eq_true_iff];simp only[Qp];by_cases h:b.sum<a.sum
 ·have e:YG b.sum a.sum = -1:=by unfold YG;rw[if_pos h]
  rw[e];simp[h]
 by_cases g:b.sum=a.sum
 ·have e:YG b.sum a.sum=0:=by unfold YG;rw[if_neg h,if_pos g]
  rw[e];by_cases k:LM b a=0
  ·have hf:Yb a b=false:=by cases hl:Yb a b with
    |false=>rfl
    |true=>have:=h1.2 hl;omega
   simp[k,g,hf]
  simp[k,g,h1]
 have e:YG b.sum a.sum=1:=by unfold YG;rw[if_neg h,if_neg g]
 have g2:¬a.sum=b.sum:=λe=>g e.symm;rw[e];simp[h,g2]
def KO(l:List Int):List UInt8:=l.flatMap λx=>il x++[32]
theorem GR(x:Int)(l:List Int):KO (x::l)=Zn x++32::KO l:=by unfold KO;rw[bG];simp[Zn]
theorem Ec:∀ {a b:List Int},KO a=KO b->a=b
 |[],[],_=>rfl
 |[],y::b,h=>by rw[GR]at h;simp[KO]at h
 |x::a,[],h=>by rw[GR]at h;simp[KO]at h
 |x::a,y::b,h=>by
  rw[GR,GR]at h;have h1:=Et (c:=32) (a:=Zn x) (b:=KO a) (Mx x wu wu);have h2:=Et (c:=32) (a:=Zn y) (b:=KO b) (Mx y wu wu);rw[h,h2]at h1;simp only[eY,and_true]at h1;have e:x=y:=by rw[<-Kt x,<-Kt y,h1.1]
  rw[e,Ec h1.2.symm]
theorem TM{r:Sr}(hF:Fits F w)(hR:XD F r l)(hp:PW l):Qe prog 145 [r.v] w F (.int .i64 l.sum):=by
 obtain⟨q,n,c⟩:=r;have hln:=hR.2.1;dsimp only[Sr.v]at hln ⊢;have hl1:=hp.2;refine QT.intro (G:=λF=>XD F ⟨q,n,c⟩ l) func145 rfl wy rfl rfl hF (λF' hF'=>hR.le hF')<|QKO<|wQ rfl<|QKO<|wQ rfl<|QG<|wR rfl<|QA (Qg rfl JB)<|QJD rfl<|QJC<|QV<|XM (ι:={i:Nat // i<=l.length}) [(6,_),(7,_)] (λi=>[(3,.int .i64 ((l.take i.1).sum)),(8,.int .i64 ((i.1:Nat):Int))]) (λi=>l.length-i.1) (⟨0,av _⟩) wT wT λi=>?_
 simp only[ae,ah];have hi:=i.2;have hs:=hp.sum i.1 hi;refine wA 6 I ?_;refine QO I (λhc=>?_) λhc=>?_
 ·have hlt:i.1<l.length:=wk<|QKc hc
  have he:=hp.el hlt;refine QKr 6 I<|QA (Q6 (n:=n) (i.1) (λF hR=>(hR).1) rfl rfl JB JO O)<|QA (JA (n:=n) ((i.1)*1) (λF hR=>(hR).1) O rfl JO (J6 (o:=l) O))<|QKq 6 I<|QA (Qv I I O)<|wB 2 I<|Qk<|QC<|QB<|QA (Qv I I O)<|wB 2 I ?_
  exact Ql (⟨i.1+1,hlt⟩) (by show l.length-(i.1+1)<l.length-i.1;omega) ⟨rfl,rfl,(congrArg (λz:Int=>some (aB .i64 z)) (S8 hlt).symm),rfl,trivial⟩ QJZ w9
 have hge:i.1=l.length:=wk<|QKd hc
 refine Q2 ?_
 repeat first|refine QY ?_|refine QP wy ?_
 refine QZ<|QKs 8 I ?_
 exact QKx I I (congrArg (aB .i64) (by rw[bV O])) w8
theorem pL{q:Option Addr}(hF:Fits F w)(hR:Qw F q n 1 (l.map Jn))(hn:n<=1000000000):Qe prog 143 [.slice q n c] w F (.int .i64 (Qp l)):=by
 have hln:l.length=n:=by have:=hR.1;simpa using this
 have em:l=l.map (λx=>x):=wz;refine QT.intro (G:=λF=>Qw F q n 1 (l.map Jn)) func143 rfl wy rfl rfl hF (λF' hF'=>hR.le hF')<|QKO<|wQ rfl<|QKO<|wQ rfl<|QG<|wR rfl<|QA (Qg rfl JB)<|QJD rfl<|QJC<|QV<|XM (ι:=ZK l λx=>x) [(3,_),(6,_),(7,_)] (λi=>[(8,.int .i64 ((i.i:Nat):Int))]) (λi=>l.length-i.i) (ZK.start _ _) wU wS λi=>?_
 simp only[ae,ah];have hi:=i.le;refine wA 6 I ?_;refine QO I (λhc=>?_) λhc=>?_
 ·have hlt:i.i<l.length:=wk<|QKc hc
  refine QKr 6 I<|QA (Q6 (n:=n) i.i w9 rfl rfl JB JO O)<|QA (JA (n:=n) ((i.i)*1) w9 O rfl JO (J6 (o:=l) O))<|QKq 10 I ?_
  refine QO I (λhc=>?_) λhc=>?_
  ·refine wA 7 I ?_
   repeat first|refine Q4 ?_|refine Qy ?_
   exact QKx I I (congrArg (aB .i64) (by rw[Yy hlt,CD l];exact i.hit hlt (by rw[<-Yy hlt];simpa using hc))) w8
  refine QN<|Qk<|QC<|QB<|QA (Qv I I O)<|wB 2 I ?_
  exact Ql (i.next hlt (by rw[<-Yy hlt];simpa using hc)) (by show l.length-(i.i+1)<l.length-i.i;omega) wV QJZ w9
 have hge:l.length<=i.i:=wk<|QKd hc
 refine Q2 ?_
 repeat first|refine QY ?_|refine QP wy ?_
 refine QZ<|QKs 8 I ?_
 exact QKx I I (congrArg (aB .i64) (by rw[CD l];exact i.stop hge)) w8
structure QCf(a b:List Int) where
 i:Nat
 la:i<=a.length
 lb:i<=b.length
 h:LM a b=LM (a.drop i) (b.drop i)
theorem QCf.cons{a b:List Int}(s:QCf a b)(ha:s.i<a.length)(hb:s.i<b.length):LM a b=if YG (Qm a s.i) (Qm b s.i)≠0 then YG (Qm a s.i) (Qm b s.i)else LM (a.drop (s.i+1)) (b.drop (s.i+1)):=by
 rw[s.h,Xo ha,Xo hb,LM]
theorem FC{ra rb:Sr}{a b:List Int}(hF:Fits F w)(hA:XD F ra a)(hB:XD F rb b)(la:a.length<=1000000)(lb:b.length<=1000000):Qe prog 146 [ra.v,rb.v] w F (.int .i64 (LM a b)):=by
 obtain⟨q,n,c⟩:=ra;obtain⟨q',n',c'⟩:=rb;have na:=hA.2.1;have nb:=hB.2.1;dsimp only[Sr.v]at na nb ⊢;refine QT.intro (G:=λF=>XD F ⟨q,n,c⟩ a/\XD F ⟨q',n',c'⟩ b) func146 rfl wy rfl rfl hF (λF' hF'=>⟨hA.le hF',hB.le hF'⟩)<|QKO<|wQ rfl<|QG<|wR rfl<|QA (Qg rfl JB)<|QJD rfl<|QJC<|QV<|XM (ι:=QCf a b) [(0,_),(1,_),(9,_),(10,_)] (λi=>[(11,.int .i64 ((i.i:Nat):Int))]) (λi=>a.length-i.i) (⟨0,av _,av _,rfl⟩) wV wS λi=>?_
 simp only[ae,ah];have hla:=i.la;have hlb:=i.lb;refine wA 6 I ?_;refine QO I (λhc=>?_) λhc=>?_
 ·have hlt:i.i<a.length:=wk<|QKc hc
  refine QKr 7 I<|QA (Q6 (n:=n) i.i (λF h9=>(h9.1).1) rfl rfl JB JO O)<|QA (JA (n:=n) ((i.i)*1) (λF h9=>(h9.1).1) O rfl JO (J6 (o:=a) O))<|QKq 9 I<|QA (Qg I JB)<|QKq 3 I ?_
  refine QO I (λhc=>?_) λhc=>?_
  ·have hge2:b.length<=i.i:=wk<|QKc hc
   refine wA 6 I ?_
   repeat first|refine Q4 ?_|refine Qy ?_
   exact QKx I I (congrArg (aB .i64) (by rw[i.h,Xo hlt,ay hge2];rfl)) w8
  have hlt2:i.i<b.length:=wk<|QKd hc
  refine QKr 6 I<|QA (Q6 (n:=n') i.i (λF h9=>(h9.2).1) rfl rfl JB JO O)<|QA (JA (n:=n') ((i.i)*1) (λF h9=>(h9.2).1) O rfl JO (J6 (o:=b) O))<|QKq 7 I<|QI I (λ_ _ f k=>Eu f ) λ_=>QKq 9 I ?_
  refine QO I (λhc=>?_) λhc=>?_
  ·refine wA 7 I ?_
   repeat first|refine Q4 ?_|refine Qy ?_
   exact QKx I I (congrArg (aB .i64) (by rw[i.cons hlt hlt2,if_pos (by rw[<-PI];simpa using hc),PI])) w8
  refine QN<|Qk<|QC<|QB<|QA (Qv I I O)<|wB 2 I ?_
  exact Ql (⟨i.i+1,hlt,hlt2,by rw[i.cons hlt hlt2,if_neg (by rw[<-PI];simpa using hc)]⟩) (by show a.length-(i.i+1)<a.length-i.i;omega) wW QJZ tA
 have hge:a.length<=i.i:=wk<|QKd hc
 refine Q2 ?_
 repeat first|refine QY ?_|refine QP wy ?_
 refine QZ<|QKs 5 I<|QA (Qg I JB)<|QJD I<|QA (Qg I JB)<|QKq 3 I ?_
 refine QO I (λhc=>?_) λhc=>?_
 ·have hlt3:=QKc hc;refine wA 6 I ?_;exact QKx I I (congrArg (aB .i64) (by rw[i.h,ay hge,Xo (l:=b) (k:=i.i) O];rfl)) w8
 have hlt3:=QKd hc;refine QKr 8 I ?_;exact QKx I I (congrArg (aB .i64) (by rw[i.h,ay hge,ay O];rfl)) w8
theorem RT{ra rb:Sr}{a b:List Int}(hF:Fits F w)(hA:XD F ra a)(hB:XD F rb b)(pa:PW a)(pb:PW b):Qe prog 51 [ra.v,rb.v] w F (.int .i64 (Gg a b)):=by
 have la:=pa.2;have lb:=pb.2;dsimp only[Sr.v];refine QT.intro (G:=λF=>XD F ra a/\XD F rb b) func51 rfl wy rfl rfl hF (λF' hF'=>⟨hA.le hF',hB.le hF'⟩)<|QKO<|wQ rfl<|wR rfl<|QI rfl (λ_ _ f k=>TM f (r:=rb) k.2 (pb)) λ_=>QJD rfl<|QI rfl (λ_ _ f k=>TM f (r:=ra) k.1.1 (pa)) λ_=>QI rfl (λ_ _ f k=>Eu f ) λ_=>?_
 rw[PI];refine wB 2 I<|QI I (λ_ _ f k=>FC f (ra:=rb) (rb:=ra) k.1.1.1.2 (k.1.1.1.1) O O) λ_=>Qb I (Qz JB) JO Pp I I λb13=>QI I (λ_ _ f k=>pL f (Qw.of (cs:=fu Jn [YG b.sum a.sum,LM b a]) k.2 I) wu) λ_=>wQ I<|QW ?_
 exact QKx I I (rfl) w8
end
def ZF{κ:Type}(K:κ->Value):List (κ×Value)->Nat->List MapEntry
 |[],_=>[]
 |x::l,i=>⟨K x.1,x.2,i⟩::ZF K l (i+1)
def Zz{κ:Type}(K:κ->Value)(l:List (κ×Value)):Obj:=.map (ZF K l 0).toArray l.length
def VT{κ:Type}[DecidableEq κ]:List (κ×Value)->κ->Nat->Option (Nat×Value)
 |[],_,_=>none
 |x::l,k,i=>if k=x.1 then some (i,x.2)else VT l k (i+1)
def Nj{κ:Type}[DecidableEq κ]:List (κ×Value)->κ->Value->List (κ×Value)
 |[],k,v=>[(k,v)]
 |x::l,k,v=>if k=x.1 then(k,v)::l else x::Nj l k v
structure jk(P:Program)(kt:TypeId){κ:Type}[DecidableEq κ](K:κ->Value):Prop where
 chk:∀e w k,(Instr.checkKey e 10000 kt (K k)).run P w = .ok () w
 find:∀w k (l:List (κ×Value)),(Instr.findKey kt (K k) (ZF K l 0)).run P w = .ok (VT l k 0) w
 same:∀k,Instr.sameBits 10000 (K k) (K k)=true
section
variable{κ:Type}{K:κ->Value}
def Mi:∀(l:List (κ×Value)) i,(ZF K l i).length=l.length
 |[],_=>rfl
 |_::l,i=>by simp[ZF,Mi l]
theorem Rx:∀(l:List (κ×Value)) i k v,ZF K (l++[(k,v)]) i=ZF K l i++[⟨K k,v,i+l.length⟩]
 |[],i,k,v=>by simp[ZF]
 |x::l,i,k,v=>by
  simp only[ae,ZF,Rx l,au];rw[show i+1+l.length=i+(l.length+1)from by omega]
def GW:∀(l:List (κ×Value)) (i j:Nat),(ZF K l i)[j]?=l[j]?.map λx=>(⟨K x.1,x.2,i+j⟩:MapEntry)
 |[],_,_=>by simp[ZF]
 |x::l,i,0=>by simp[ZF]
 |x::l,i,j+1=>by
  simp only[ZF,ff,GW l];rw[show i+1+j=i+(j+1)from by omega]
theorem Ti:∀(l:List (κ×Value)) i j k v,ZF K (l.set j (k,v)) i=(ZF K l i).modify j λe=>{ e with key:=K k,val:=v }
 |[],_,_,_,_=>by simp[ZF]
 |x::l,i,0,k,v=>by simp[ZF]
 |x::l,i,j+1,k,v=>by simp[ZF,Ti l]
theorem D0:∀(l:List (κ×Value)) i,∀e∈ZF K l i,i<=e.born/\e.born<i+l.length
 |[],_,e,h=>by cases h
 |x::l,i,e,h=>by
  simp only[ZF,aA]at h;rcases h with rfl | h
  ·simp
  have:=D0 l (i+1) e h;simp only[au];omega
theorem NL:∀(l:List (κ×Value)) i,((ZF K l i).map (·.born)).Nodup
 |[],_=>ek
 |x::l,i=>by
  simp only[ZF,ag];refine List.nodup_cons.2 ⟨λh=>?_,NL l (i+1)⟩;obtain⟨e,he,h⟩:=List.mem_map.1 h;have:=(D0 l (i+1) e he).1;omega
variable[DecidableEq κ]
theorem Dy:∀ {l:List (κ×Value)} {k i j v},VT l k i=some (j,v)->i<=j/\j-i<l.length/\l[j-i]?=some (k,v)
 |[],_,_,_,_,h=>by cases h
 |x::l,k,i,j,v,h=>by
  simp only[VT]at h;split at h
  ·rename_i e;cases h;subst e;simp
  obtain⟨h1,h2,h3⟩:=Dy h;refine⟨O,by simp only[au];omega,?_⟩;rw[show j-i=(j-(i+1))+1 from by omega,ff];exact h3
theorem TK:∀ {l:List (κ×Value)} {k v i},VT l k i=none->Nj l k v=l++[(k,v)]
 |[],_,_,_,_=>rfl
 |x::l,k,v,i,h=>by
  simp only[VT]at h;split at h
  ·cases h
  rename_i e;simp only[Nj,if_neg e,ae,TK h]
theorem TJ:∀ {l:List (κ×Value)} {k v i j u},VT l k i=some (j,u)->Nj l k v=l.set (j-i) (k,v)
 |[],_,_,_,_,_,h=>by cases h
 |x::l,k,v,i,j,u,h=>by
  simp only[VT]at h;split at h
  ·rename_i e;cases h;simp[Nj,e]
  rename_i e;have:=(Dy h).1;simp only[Nj,if_neg e,TJ h];rw[show j-i=(j-(i+1))+1 from by omega];rfl
end
def Lq(a b:List UInt8):Instr.sameNow .string (tx a) (tx b)=some (decide (a=b)):=by
 show some ((⟨a.toArray⟩:ByteArray)==⟨b.toArray⟩)=_;congr 1;rw[bh,decide_eq_true_iff,fA];constructor
 ·intro h;cases h;rfl
 intro h;rw[h]
theorem Rp(k:List UInt8):∀(l:List (List UInt8×Value)) (i n:Nat),ig .string (tx k) (ZF tx l n) i=some (VT l k i)
 |[],_,_=>rfl
 |x::l,i,n=>by
  simp only[ZF,ig,Lq,VT];by_cases h:k=x.1
  ·simp[h]
  simp[h,Rp k l]
theorem jk.str(h:P.underlying kt=some .string):jk P kt tx where
 chk:=λe w k=>MapKept.run_checkKey (k:=tx k) h (by simp[MapKept.IsKey,tx]) e 9999
 find:=λw k l=>MapKept.run_findKey h (Rp k l 0 0)
 same:=λk=>by
  show(fP k.toArray==fP k.toArray)=true;rw[fA]
def zvB(P:Program)(T:TypeId):Option Value:=match P.info? T with
 |some i=>i.zero
 |none=>none
theorem dK{z:Value}(h:zvB P T=some z)(w:World):(zeroValue T).run P w = .ok z w:=by
 unfold zvB at h;split at h
 ·rename_i i hi;simp[zeroValue,typeInfo,hi,h]
 cases h
def OG(P:Program)(T kt et:TypeId):Bool:=match P.underlying T with | some (.map k e)=>aF k kt&&aF e et | _=>false
def Uh(h:OG P T kt et=true):P.underlying T=some (.map kt et):=by
 unfold OG at h;split at h
 ·rename_i e;simp only[af]at h;have h1:=aG h.1;have h2:=aG h.2;rw[e,h1,h2]
 cases h
section
variable[Dr][df:Df]{P:Program}{Q:Exit->Act->World->Prop}{N:Nat}{m:Sl}{E E0:Env}{ops:Array Oper}{l:List Oper}{w0:World}{F0:Gs}{bs:List (Nat×Obj)}{G:Gs->Prop}{d:Nat}{ty:TypeId}{pos:String}{aft:Array Edge}
theorem HK{κ:Type}(K:κ->Value){T:TypeId}(k:∀b,JS P ops Q l N ((d,.map (some b))::m) ⟨w0,F0,(b,Zz K [])::bs,G⟩)(hd:J2 N (some d)=true:=by rfl):
  JS P ops Q (⟨some d,.makeMap T none,ty,pos,aft,none⟩::l) N m ⟨w0,F0,bs,G⟩:=λa w ha hw=>by
 have hrun:(execOp a.eval ⟨some d,.makeMap T none,ty,pos,aft,none⟩).run P w = .ok (.value (.map (some w.heap.size))) (w.alloc (.map #[] 0)):=by
  simp[execOp,Instr.makeMap]
 exact wpList_plain rfl λKk hK=>upon_value hrun (hK _ _ (k _ _ _ (ha.put hd _) (hw.alloc _ λc fr e=>by cases e)))
variable{κ:Type}[DecidableEq κ]{K:κ->Value}{kv:List (κ×Value)}{b:Nat}{f:Obj->List (Nat×Obj)}
theorem yC{y:Operand}{k:κ}{v:Value}(hq:jk P kt K)(hx:ev m x=some (.map (some b)))(hy:ev m y=some (K k))(ht:OG P T kt et=true)(ho:Own bs b (Zz K kv) f)(hf:VT kv k 0=some (i,v)):
  Qt P N m (St ⟨w0,F0,bs,G⟩) (.lookup T x y true) ty (.tuple #[v,.bool true]):=λa w _ _ _ _ ha hw=>by
 have hb:=hw.own ho;unfold Zz at hb;have hu:=Uh ht;simp[execOp,ha.ev hx,ha.ev hy,iq,run_underlying hu,bF hb,hq.chk,hq.find,hf]
theorem qg{y:Operand}{k:κ}{z:Value}(hq:jk P kt K)(hx:ev m x=some (.map (some b)))(hy:ev m y=some (K k))(ht:OG P T kt et=true)(hz:zvB P et=some z)(ho:Own bs b (Zz K kv) f)(hf:VT kv k 0=none):
  Qt P N m (St ⟨w0,F0,bs,G⟩) (.lookup T x y true) ty (.tuple #[z,.bool false]):=λa w _ _ _ _ ha hw=>by
 have hb:=hw.own ho;unfold Zz at hb;have hu:=Uh ht;simp[execOp,ha.ev hx,ha.ev hy,iq,run_underlying hu,bF hb,hq.chk,hq.find,hf,dK hz]
theorem Tw{y z:Operand}{k:κ}{v:Value}(hq:jk P kt K)(hx:ev m x=some (.map (some b)))(hy:ev m y=some (K k))(hz:ev m z=some v)(ht:OG P T kt et=true)(ho:Own bs b (Zz K kv) f)
  (kk:JS P ops Q l N m ⟨w0,F0,f (Zz K (Nj kv k v)),G⟩):JS P ops Q (⟨none,.mapUpdate T x y z,ty,pos,aft,none⟩::l) N m ⟨w0,F0,bs,G⟩:=λa w ha hw=>by
 have hb:=hw.own ho;obtain⟨pre,post,e1,e2⟩:=ho.split;subst e1;rw[e2]at kk;have hu:=Uh ht;have hb':=hb;unfold Zz at hb';have hrun:(execOp a.eval ⟨none,.mapUpdate T x y z,ty,pos,aft,none⟩).run P w = .ok .skip { w with heap:=w.heap.setIfInBounds b (Zz K (Nj kv k v)) }:=by
  cases hf:VT kv k 0 with
  |none =>
   have e:Zz K (Nj kv k v) = .map ((ZF K kv 0).toArray.push ⟨K k,v,kv.length⟩) (kv.length+1):=by
    rw[TK hf];simp[Zz,Rx]
   rw[e];simp[execOp,ha.ev hx,ha.ev hy,ha.ev hz,fV,run_underlying hu,bF hb',hq.chk,hq.find,hf,e9 _ hb']
  |some r =>
   obtain⟨i,u⟩:=r;obtain⟨_,h2,h3⟩:=Dy hf;rw[eN]at h2 h3;have e:Zz K (Nj kv k v) = .map ((ZF K kv 0).toArray.modify i λe=>{ e with key:=K k,val:=v }) kv.length:=by
    rw[TJ hf];unfold Zz;rw[eN,Ti,bc];congr 1;apply fH;simp
   have hk:((((ZF K kv 0).toArray[i]?).map (·.key)).getD (K k))=K k:=by
    simp[GW,h3]
   rw[e];simp only[execOp,ha.ev hx,ha.ev hy,ha.ev hz,fV,ef,run_underlying hu,bF hb',hq.chk,hq.find,hf,bR,hk,Instr.keyThatStays,hq.same,if_true,fp,e9 _ hb']
 exact wpList_plain rfl λKk hK=>upon_skip hrun (hK _ _ (kk _ _ ha (hw.write pre ⟨rfl,rfl,rfl,rfl,rfl⟩ λc fr e=>by cases e)))
def nxA(kv:List (κ×Value))(K:κ->Value):Option Nat->Array Value
 |some j=>match kv[j]? with
  |some p=>#[.bool true,K p.1,p.2]
  |none=>#[.bool true]
 |none=>#[.bool false]
def nxS(seen:List Nat):Option Nat->List Nat
 |some j=>seen++[j]
 |none=>seen
def nxP(n:Nat)(seen:List Nat):Option Nat->Prop
 |some j=>j<n/\j∉seen
 |none=>∀j,j<n->j∈seen
omit [DecidableEq κ] in
theorem QEl(x:Option Nat):(nxA kv K x)[0]?=some (.bool x.isSome):=by
 cases x with
 |none=>rfl
 |some j =>
  simp only[nxA]
  cases kv[j]?<;>rfl
def j6(b n:Nat)(seen:List Nat):Obj:=.mapIter (some b) n seen.toArray n
omit [DecidableEq κ] in
theorem Iw(hx:ev m x=some (.map (some b)))(ht:OG P T kt et=true)(ho:Own bs b (Zz K kv) f)(k:∀r,JS P ops Q l N ((d,.pointer (some ⟨r,0,none⟩))::m) ⟨w0,F0,(r,j6 b kv.length [])::bs,G⟩)(hd:J2 N (some d)=true:=by rfl):
  JS P ops Q (⟨some d,.range T x,ty,pos,aft,none⟩::l) N m ⟨w0,F0,bs,G⟩:=λa w ha hw=>by
 have hb:=hw.own ho
 unfold Zz at hb
 have hrun:(execOp a.eval ⟨some d,.range T x,ty,pos,aft,none⟩).run P w = .ok (.value (.pointer (some ⟨w.heap.size,0,none⟩))) (w.alloc (j6 b kv.length [])):=by
  simp[execOp,ha.ev hx,run_range_map w T kt et b _ _ (Uh ht) hb,j6]
 exact wpList_plain rfl λKk hK=>upon_value hrun (hK _ _ (k _ _ _ (ha.put hd _) (hw.alloc _ λc fr e=>by cases e)))
omit [DecidableEq κ] in
theorem Oo{r:Nat}{g:Obj->List (Nat×Obj)}(hx:ev m x=some (.pointer (some ⟨r,0,none⟩)))(hr:Own bs r (j6 b kv.length seen) g)(ho:Own bs b (Zz K kv) f)
  (k:∀x,nxP kv.length seen x->JS P ops Q l N ((d,.tuple (nxA kv K x))::m) ⟨w0,F0,g (j6 b kv.length (nxS seen x)),G⟩) (hd:J2 N (some d)=true:=by rfl) :
  JS P ops Q (⟨some d,.next x false,ty,pos,aft,none⟩::l) N m ⟨w0,F0,bs,G⟩:=λa w ha hw=>by
 have hb:=hw.own ho
 have hi:=hw.own hr
 unfold Zz at hb
 obtain⟨pre,post,e1,e2⟩:=hr.split
 subst e1
 simp only[e2]at k
 have hold:∀e∈(ZF K kv 0).toArray.toList,e.born<kv.length:=λe he=>by have:=(D0 kv 0 e (by simpa using he)).2;omega
 rcases run_next_at (P:=P) w ty r b kv.length kv.length seen.toArray (ZF K kv 0).toArray kv.length hi hb hold (aZ _)with ⟨h0,hn⟩ | ⟨e,he,w1,hw1,hn⟩
 ·have hrun:(execOp a.eval ⟨some d,.next x false,ty,pos,aft,none⟩).run P w = .ok (.value (.tuple (nxA kv K none))) w:=by
   simp[execOp,ha.ev hx,hn,nxA]
  refine wpList_plain rfl λKk hK=>upon_value hrun (hK _ _ (k none (λj hj=>?_) _ _ (ha.put hd _) hw))
  have hm:(⟨K kv[j].1,kv[j].2,j⟩:MapEntry)∈ZF K kv 0:=by
   have:=GW (K:=K) kv 0 j
   rw[ax hj,bO]at this
   exact fq this
  have hz:leftOf (ZF K kv 0).toArray seen.toArray=#[]:=Array.eq_empty_of_size_eq_zero h0
  unfold leftOf at hz
  rw[Array.filter_eq_empty_iff]at hz
  have:=hz _ (by simpa using hm)
  simpa using this
 unfold leftOf at he
 simp only[List.mem_toArray,Array.mem_toList_iff,Array.mem_filter]at he
 obtain⟨hm,hs⟩:=he
 obtain⟨j,hj,hje⟩:=fG hm
 rw[Mi]at hj
 have hg:=GW (K:=K) kv 0 j
 rw[ax hj,ax (by rw[Mi];exact hj),hje,bO]at hg
 have hg':e=⟨K kv[j].1,kv[j].2,j⟩:=by simpa using hg
 subst hg'
 have hrun:(execOp a.eval ⟨some d,.next x false,ty,pos,aft,none⟩).run P w = .ok (.value (.tuple (nxA kv K (some j)))) (ChangeMaps.setBlock w1 r (j6 b kv.length (nxS seen (some j)))):=by
  simp[execOp,ha.ev hx,hn,nxA,hj,j6,nxS]
 have hw2:St ⟨w0,F0,pre++(r,j6 b kv.length seen)::post,G⟩ w1:=by
  rcases hw1 with rfl | rfl
  ·exact hw
  exact hw.drew
 exact wpList_plain rfl λKk hK=>upon_value hrun (hK _ _ (k (some j) ⟨hj,by simpa using hs⟩ _ _ (ha.put hd _) (hw2.write pre ⟨rfl,rfl,rfl,rfl,rfl⟩ λc fr e=>by cases e)))
omit [DecidableEq κ] in
theorem pB{r:Nat}{p:κ×Value}{g:Obj->List (Nat×Obj)}(hx:ev m x=some (.pointer (some ⟨r,0,none⟩)))(hr:Own bs r (j6 b kv.length (seen++[j])) g)(ho:Own bs b (Zz K kv) f)(hj:kv[j]?=some p):
  Qt P N m (St ⟨w0,F0,bs,G⟩) (.entry x) ty (.tuple #[K p.1,p.2]):=λa w _ _ _ _ ha hw=>by
 have hb:=hw.own ho
 have hi:=hw.own hr
 unfold Zz at hb
 have hg:=GW (K:=K) kv 0 j
 rw[hj,bO]at hg
 have hmem:=fq hg
 have:=run_entry_at (P:=P) w r b kv.length seen.toArray (ZF K kv 0).toArray kv.length ⟨K p.1,p.2,j⟩ (by rw[hi];simp[j6]) hb (by simpa using hmem) (by simpa using NL kv 0)
 simp[execOp,ha.ev hx,this]
end
def jC(l:List Int)(x:Int):KO (l++[x])=(KO l++il x)++[32]:=by unfold KO;rw[aX];simp
def Tc{x:Int}(h:0<=x/\x<=1000000):(il x).length<=21:=Lib.itoa_length_le x O O
theorem F6:∀ {l:List Int},(∀x∈l,0<=x/\x<=1000000)->(KO l).length<=22*l.length
 |[],_=>by simp[KO]
 |x::l,h=>by
  have h1:=Tc (h x wz);have h2:=F6 (l:=l) (λy hy=>h y (by simp[hy]));rw[GR];simp only[ak,au];change (Zn x).length<=21 at h1;omega
structure QIK(b:Nat)(l:List Int) where
 i:Nat
 ob:List (Nat×Obj)
 le:i<=l.length
 bl:LP b (KO (l.take i)) ob
theorem yW{r:Sr}(hF:Fits F w)(hGl:JC F)(hR:XD F r l)(hp:PW l):Qe prog 229 [r.v] w F (tx (KO l)):=by
 obtain⟨q,n,c⟩:=r;have hln:=hR.2.1;dsimp only[Sr.v]at hln ⊢;have hl1:=hp.2;refine QT.intro (G:=λF=>JC F/\XD F ⟨q,n,c⟩ l) func229 rfl wy rfl rfl hF (λF' hF'=>⟨hGl.le hF',hR.le hF'⟩)<|QKO<|wQ rfl<|QKO<|Qc cP λb3=>QJC<|QG<|wR rfl<|QA (Qg rfl JB)<|QJD rfl<|QJC<|QV<|JW (ι:=QIK b3 l) [(3,_),(6,_),(7,_)] (λi=>[(8,.int .i64 ((i.i:Nat):Int))]) (λi=>i.ob++[]) (λi F=>True) (λi=>l.length-i.i) (⟨0,_,av _,by rw[List.take_zero];exact .fresh⟩) wU wS QJZ w8 λi=>?_
 have hi:=i.le;have hkl:=F6 (l:=l.take i.i) (λx hx=>hp.1 x (ep hx));rw[aR]at hkl;refine wA 6 I ?_;refine QO I (λhc=>?_) λhc=>?_
 ·have hlt:i.i<l.length:=wk<|QKc hc
  have he:=hp.el hlt;have hil:=Tc he;refine QKr 6 I<|QA (Q6 (n:=n) i.i (λF h9=>(h9.1.2).1) rfl rfl JB JO O)<|QA (JA (n:=n) ((i.i)*1) (λF h9=>(h9.1.2).1) O rfl JO (J6 (o:=l) O))<|QKq 6 I<|QI I (λ_ _ f k=>kL f k.1.1 (O) (O)) λ_=>XS I (aL _) (W6 i.bl O) λcQ=>JN _ (λ_ _ f h=>h.2) λhbl=>QJC<|QB<|XS I (aL _) (AZ (c:=32) hbl (by rw[ak];omega)) λwob2=>JN _ (λ_ _ f h=>h.2) λhbl2=>?_
  rw[<-jC,Yy hlt,<-XV hlt]at hbl2;refine QE<|Qk<|QC<|QB<|QA (Qv I I O)<|wB 2 I ?_
  exact Ql (⟨i.i+1,wob2,hlt,hbl2⟩) (by show l.length-(i.i+1)<l.length-i.i;omega) wV QJZ λF h=>⟨h.1.1.1.1,trivial⟩
 have hge:i.i=l.length:=wk<|QKd hc
 refine Q2 ?_
 repeat first|refine QY ?_|refine QP wy ?_
 refine QZ<|QKs 3 I ?_
 have hbl:=i.bl;rw[hge,aD]at hbl;refine Nb (v:=tx (KO l)) hF rfl (enters_of func305 wy rfl) (λw' hw'=>Builder_String_any w.heap.size b3 (KO l) w' (hbl.is hw') (by obtain⟨F',h'⟩:=hw';exact h'.ext.size))<|wQ I<|QW ?_
 exact QKx I I (rfl) w8
end Go.Proofs.YtpmehagnedbkhaaGreatDoor
namespace Ig
def Mo:List Tm->Tm->List Tm
 |[],n=>[n]
 |t::l,n=>if n.2=t.2 then n::l else t::Mo l n
def Tv:∀(l:List Tm) (n:Tm),∀k,k∈(Mo l n).map (·.2)->k=n.2\/k∈l.map (·.2)
 |[],n,k,h=>by simp[Mo]at h;exact .inl h
 |t::l,n,k,h=>by
  simp only[Mo]at h;split at h
  ·simp only[ag,aA]at h ⊢;rcases h with h | h
   ·exact .inl h
   exact .inr (.inr h)
  simp only[ag,aA]at h ⊢;rcases h with h | h
  ·exact .inr (.inl h)
  rcases Tv l n k h with h | h
  ·exact .inl h
  exact .inr (.inr h)
def SC:∀ {l:List Tm} (n:Tm),(l.map (·.2)).Nodup->((Mo l n).map (·.2)).Nodup
 |[],n,_=>by simp[Mo]
 |t::l,n,h=>by
  simp only[ag]at h;obtain⟨h1,h2⟩:=List.nodup_cons.1 h;simp only[Mo];split
  ·rename_i e;simp only[ag];rw[e];exact h
  rename_i e;simp only[ag];refine List.nodup_cons.2 ⟨λhm=>?_,SC n h2⟩;rcases Tv l n _ hm with g | g
  ·exact e g.symm
  exact h1 g
def Tp:∀ {l:List Tm} (n:Tm),(l.map (·.2)).Nodup->∀k,XK (Mo l n) k=if n.2=k then n.1 else XK l k
 |[],n,_,k=>by simp[Mo,XK,aI]
 |t::l,n,h,k=>by
  simp only[ag]at h;obtain⟨h1,h2⟩:=List.nodup_cons.1 h;have hz:XK l t.2=0:=GY λx hx e=>h1 (e ▸ aa (f:=(·.2)) hx);simp only[Mo];split
  ·rename_i e;simp only[XK];by_cases g:n.2=k
   ·have g2:t.2=k:=e ▸ g;rw[if_pos g,if_pos g,<-g2,hz,aI]
   have g2:¬t.2=k:=λq=>g (e.trans q);rw[if_neg g,if_neg g,if_neg g2]
  rename_i e;simp only[XK];rw[Tp n h2 k];by_cases g:n.2=k
  ·have g2:¬t.2=k:=λq=>e (g.trans q.symm);rw[if_pos g,if_neg g2,if_pos g,aQ]
  rw[if_neg g,if_neg g]
structure ve(T l:List Tm):Prop where
 nd:(T.map (·.2)).Nodup
 eq:AV T l
def ve.nil:ve [] []:=⟨ek,AV.refl _⟩
def ve.add{T l:List Tm}(h:ve T l)(f:Rat)(p:List Int):ve (Mo T (f+XK T p,p)) (l++[(f,p)]) :=
 ⟨SC _ h.nd,λk=>by
  rw[Tp _ h.nd,Ib,<-h.eq k];simp only[XK];by_cases g:p=k
  ·rw[if_pos g,if_pos g,g,aI];exact bX _ _
  rw[if_neg g,if_neg g,aI,aI]⟩
def ve.Ia{T l:List Tm}(h:ve T l){t:Tm}(ht:t∈T):XK T t.2=t.1:=by
 have key:∀ {T:List Tm},(T.map (·.2)).Nodup->t∈T->XK T t.2=t.1:=by
  intro T
  induction T with
  |nil=>intro _ h;cases h
  |cons x T ih =>
   intro hn hm;simp only[ag]at hn;obtain⟨h1,h2⟩:=List.nodup_cons.1 hn;rcases List.mem_cons.1 hm with rfl | hm
   ·simp only[XK];have hz:XK T t.2=0:=GY λx hx e=>h1 (e ▸ aa (f:=(·.2)) hx);rw[if_pos trivial,hz,aI]
   simp only[XK];have:¬x.2=t.2:=λe=>h1 (e ▸ aa (f:=(·.2)) hm);rw[if_neg this,ih h2 hm,aQ]
 exact key h.nd ht
def jU{T:List Tm}{p:List Int}(h:p∉T.map (·.2)):XK T p=0:=GY λx hx e=>h (e ▸ aa (f:=(·.2)) hx)
def ve.norm{T l s:List Tm}(h:ve T l)(hp:s.Perm (T.filter λt=>decide (t.1≠0)))(hs:s.Pairwise λx y=>before x.2 y.2=true):s=Xw l:=by
 refine Fe ⟨hs,λt ht=>?_⟩ ((AV.perm hp).trans ((eqv_filter T).trans h.eq));have:=(hp.mem_iff).1 ht;simpa using(List.mem_filter.1 this).2
end Ig
namespace Go.Proofs.YtpmehagnedbkhaaGreatDoor
variable{g:FuncId}{T et kt:TypeId}{N c cap i j k m n:Nat}{x:Operand}{P:Program}{l:List Int}{y:Rat}{w:World}{F F':Gs}{a b:Rat×Rat}{A seen u:List Nat}{f:Rat->Rat->Rat}{α:Type}{β:Nat->Nat}
open Go.RowKit Ig
structure Zb where
 x:Fr
 r:Sr
 t:Tm
variable{t:Zb}{ts:List Zb}
instance :Inhabited Zb:=⟨⟨⟨⟨0,none,0,0⟩,⟨0,none,0,0⟩⟩,⟨none,0,0⟩,(0,[])⟩⟩
def WO(t:Zb):List Value:=[.int .i64 t.x.n.s,.slice t.x.n.q t.x.n.n t.x.n.cap,.int .i64 t.x.d.s,.slice t.x.d.q t.x.d.n t.x.d.cap,.slice t.r.q t.r.n t.r.cap]
@[reducible] def j4 (t:Zb):Value:=.agg #[.int .i64 t.x.n.s,.slice t.x.n.q t.x.n.n t.x.n.cap,.int .i64 t.x.d.s,.slice t.x.d.q t.x.d.n t.x.d.cap,.slice t.r.q t.r.n t.r.cap]
theorem Bu(t:Zb):(WO t).length=5:=rfl
def xD(F:Gs)(t:Zb):Prop:=JP F t.x t.t.1/\XD F t.r t.t.2
def xD.le(h:xD F t)(k:Gs.le F F'):xD F' t:=⟨h.1.le k,h.2.le k⟩
def GA(F:Gs)(ts:List Zb):Prop:=∀t∈ts,xD F t
theorem GA.le(h:GA F ts)(k:Gs.le F F'):GA F' ts:=λt ht=>(h t ht).le k
def Hk(ts:List Zb):List (List UInt8×Value):=ts.map λt=>(KO t.t.2,j4 t)
def J3(ts:List Zb):List Tm:=ts.map (·.t)
def addN:List Zb->Zb->List Zb
 |[],n=>[n]
 |t::l,n=>if n.t.2=t.t.2 then n::l else t::addN l n
theorem Ao:∀(ts:List Zb) (n:Zb),J3 (addN ts n)=Mo (J3 ts) n.t
 |[],n=>rfl
 |t::l,n=>by
  have ih:=Ao l n;unfold J3 at ih ⊢;simp only[addN,ag,Mo];split
  ·simp
  simp[ih]
theorem Rf:∀(ts:List Zb) (n:Zb),Hk (addN ts n)=Nj (Hk ts) (KO n.t.2) (j4 n)
 |[],n=>rfl
 |t::l,n=>by
  have ih:=Rf l n;unfold Hk at ih ⊢;simp only[addN,ag,Nj];by_cases h:n.t.2=t.t.2
  ·rw[if_pos h,if_pos (congrArg KO h)];simp
  rw[if_neg h,if_neg λe=>h (Ec e)];simp[ih]
theorem RZ{n x:Zb}(h:x∈addN ts n):x=n\/x∈ts:=by
 induction ts with
 |nil=>simp[addN]at h;exact .inl h
 |cons t l ih =>
  simp only[addN]at h;split at h
  ·rcases List.mem_cons.1 h with h | h
   ·exact .inl h
   exact .inr (ar _ h)
  rcases List.mem_cons.1 h with h | h
  ·exact .inr (h ▸ aC)
  rcases ih h with h | h
  ·exact .inl h
  exact .inr (ar _ h)
theorem QAd:∀(ts:List Zb) (p:List Int) (i:Nat),(VT (Hk ts) (KO p) i=none/\p∉(J3 ts).map (·.2))\/∃j,∃t∈ts,t.t.2=p/\VT (Hk ts) (KO p) i=some (j,j4 t)
 |[],_,_=>.inl ⟨rfl,by simp[J3]⟩
 |t::l,p,i=>by
  by_cases h:p=t.t.2
  ·exact .inr ⟨i,t,aC,h.symm,by show(if _ then _ else _)=_;rw[if_pos (congrArg KO h)]⟩
  rcases QAd l p (i+1)with ⟨h1,h2⟩ | ⟨j,u,hu,h1,h2⟩
  ·refine .inl ⟨?_,?_⟩
   ·show(if _ then _ else _)=_;rw[if_neg λe=>h (Ec e)];exact h1
   simp only[J3,ag,aA,not_or];exact⟨h,h2⟩
  refine .inr ⟨j,u,ar _ hu,h1,?_⟩;show(if _ then _ else _)=_;rw[if_neg λe=>h (Ec e)];exact h2
def KC(l:List Tm):Nat:=(l.map λt=>JQ t.1+1).sum
def Zh(l m:List Tm):KC (l++m)=KC l+KC m:=by unfold KC;rw[aM,eV]
theorem As:∀(l:List Tm) (k:List Int),JQ (XK l k)<=KC l+1
 |[],k=>by show JQ (0:Rat)<=_;decide
 |t::l,k=>by
  have h1:=As l k;simp only[XK];have h2:=YC (if t.2=k then t.1 else 0) (XK l k);have h3:JQ (if t.2=k then t.1 else 0)<=JQ t.1+1:=by
   split
   ·omega
   have:JQ (0:Rat)<=1:=wu;omega
  have e:KC (t::l)=JQ t.1+1+KC l:=by unfold KC;rw[ag,bT]
  have h4:JQ (XK (t::l) k)<=KC l+1+(JQ t.1+1):=by
   simp only[XK];by_cases g:t.2=k
   ·rw[if_pos g]at h2 ⊢;omega
   rw[if_neg g,aQ];omega
  rw[e];simp only[XK]at h4;omega
structure WJ(ts:List Zb)(l:List Tm):Prop where
 dT:ve (J3 ts) l
 pw:∀t∈ts,PW t.t.2
 ln:ts.length<=l.length
def WJ.nil:WJ [] []:=⟨ve.nil,(λ_ h=>by cases h),aZ _⟩
theorem vV(ts:List Zb)(n:Zb):(addN ts n).length<=ts.length+1:=by
 induction ts with
 |nil=>exact aZ _
 |cons t l ih =>
  simp only[addN];split<;>simp only[au]<;>omega
def WJ.add{l:List Tm}(h:WJ ts l){f:Rat}{p:List Int}(hp:PW p){n:Zb}(hn:n.t=(f+XK (J3 ts) p,p)):WJ (addN ts n) (l++[(f,p)]) :=
 ⟨by rw[Ao,hn];exact h.dT.add f p,λt ht=>by
  rcases RZ ht with rfl | ht
  ·rw[hn];exact hp
  exact h.pw t ht,by have:=vV ts n;have:=h.ln;rw[ak];simp only[ei];omega⟩
theorem WJ.sz{l:List Tm}(h:WJ ts l){t:Zb}(ht:t∈ts):JQ t.t.1<=KC l+1:=by
 rw[<-h.dT.Ia (aa (f:=Zb.t) ht),h.dT.eq];exact As _ _
theorem RY:OG prog 204 9 101=true:=wm
theorem Uo:jk prog 9 tx:=.str wm
theorem dJ:zvB prog 101=some (.agg #[.int .i64 0,.slice none 0 0,.int .i64 0,.slice none 0 0,.slice none 0 0]):=wm
section
theorem AO{Q:Exit->Act->World->Prop}{m:Sl}{w0:World}{F0:Gs}{bs:List (Nat×Obj)}{G H:Gs->Prop}{c:Code}(h:∀F,G F->H F)(k:J P c Q N m ⟨w0,F0,bs,λF=>G F/\H F⟩):J P c Q N m ⟨w0,F0,bs,G⟩ :=
 λa w ha hw=>k a w ha (hw.DJ λF h'=>⟨h',h F h'⟩)
variable{w0:World}{F0:Gs}{bs:List (Nat×Obj)}{G:Gs->Prop}
theorem Ll{l:List Tm}{x:Fr}{f:Rat}{r:Sr}{p:List Int}(hI:WJ ts l)(hp:PW p)(hz:JQ f<=40000000)(hl:KC l<=40000000)(hG:∀F,G F->JC F/\GA F ts/\JP F x f/\XD F r p){t0:Zb}{j:Nat}(ht:t0∈ts)(h0:t0.t.2=p)(hf:VT (Hk ts) (KO p) 0=some (j,j4 t0)):
  XG prog 133 [.map (some m),x.v,r.v] ⟨w0,F0,(m,Zz tx (Hk ts))::bs,G⟩ (λ(_:Zb)=>.tuple #[]) (λn=>⟨w0,F0,(m,Zz tx (Hk (addN ts n)))::bs,λF=>G F/\GA F (addN ts n)/\n.t=(f+XK (J3 ts) p,p)⟩):=by
 have hc0:XK (J3 ts) p=t0.t.1:=by rw[<-h0];exact hI.dT.Ia (aa (f:=Zb.t) ht)
 have hz0:=hI.sz ht;dsimp only[Sr.v,Fr.v];refine XG.intro func133 rfl wy rfl rfl<|AO hG<|QKO<|Qu rfl (vs:=[_,_,_,_]) rfl λb4=>QJC<|wR rfl<|QI rfl (λ_ _ f k=>yW f k.2.1 (r:=r) k.2.2.2.2 (hp)) λ_=>wQ rfl<|QG<|wR rfl<|QJD rfl<|QA (yC Uo rfl rfl RY .u1 hf)<|QJD rfl<|QA (QX rfl rfl)<|QA (QX rfl rfl)<|Qc GI λb7=>QR (vs:=[_,_,_,_,_]) rfl rfl rfl Xv rfl .here .h5 wW ?_
 refine QKq 8 I ?_;refine QO I (λhc=>?_) λhc=>?_
 ·refine QB<|QA (wJ I Qa .u1)<|QA (QH I Wx Qa)<|QA (wJ I Qa .here)<|QI I (λw F hF ⟨⟨hG0,hGl,hT,⟨hxn,hxd⟩,hR⟩,_⟩=>Dz hF ⟨by assumption,by assumption⟩ ((hT t0 ht).1) O O) λx21=>QR (vs:=[_,_,_,_]) I I I Qa I .u1 .h4 wV<|QKq 5 I<|QA (wJ I Qa .u1)<|QJD I<|QA (Qx I yV GI (.cons (vs:=[_,_,_,_]) I I I .h4 (.cons (vs:=[_]) I I I (.skip (.skip (.skip (.skip .h1)))) .nil)))<|Tw (k:=KO p) (v:=j4 ⟨x21,r,(f+t0.t.1,p)⟩) Uo I I I RY .u2<|QE<|Mt ?_
  exact Y2 (⟨x21,r,(f+t0.t.1,p)⟩) I .nil (rfl) (λw h=>by
   show St ⟨w0,F0,(m,Zz tx (Hk (addN ts ⟨x21,r,(f+t0.t.1,p)⟩)))::bs,_⟩ w;rw[Rf];exact St.imp h (.cons _ (.cons _ QJZ)) (λF ⟨⟨⟨hG0,hGl,hT,⟨hxn,hxd⟩,hR⟩,_⟩,⟨h21,h21_⟩⟩=>⟨hG0,λt ht=>by
    rcases RZ ht with rfl | ht
    ·exact⟨⟨by assumption,by assumption⟩,hR⟩
    exact hT t ht,by rw[hc0]⟩))
 exact absurd hc (by cases hc)
theorem Aw{l:List Tm}{x:Fr}{f:Rat}{r:Sr}{p:List Int}(hI:WJ ts l)(hp:PW p)(hz:JQ f<=40000000)(hl:KC l<=40000000)(hG:∀F,G F->JC F/\GA F ts/\JP F x f/\XD F r p)(hf:VT (Hk ts) (KO p) 0=none)(hm:p∉(J3 ts).map (·.2)):
  XG prog 133 [.map (some m),x.v,r.v] ⟨w0,F0,(m,Zz tx (Hk ts))::bs,G⟩ (λ(_:Zb)=>.tuple #[]) (λn=>⟨w0,F0,(m,Zz tx (Hk (addN ts n)))::bs,λF=>G F/\GA F (addN ts n)/\n.t=(f+XK (J3 ts) p,p)⟩):=by
 have hc0:XK (J3 ts) p=0:=jU hm;dsimp only[Sr.v,Fr.v];refine XG.intro func133 rfl wy rfl rfl<|AO hG<|QKO<|Qu rfl (vs:=[_,_,_,_]) rfl λb4=>QJC<|wR rfl<|QI rfl (λ_ _ f k=>yW f k.2.1 (r:=r) k.2.2.2.2 (hp)) λ_=>wQ rfl<|QG<|wR rfl<|QJD rfl<|QA (qg Uo rfl rfl RY dJ .u1 hf)<|QJD rfl<|QA (QX rfl rfl)<|QA (QX rfl rfl)<|Qc GI λb7=>QR (vs:=[_,_,_,_,_]) rfl rfl rfl Xv rfl .here .h5 wW ?_
 refine QKq 8 I ?_;refine QO I (λhc=>?_) λhc=>?_
 ·exact absurd hc (by cases hc)
 refine QKr 5 I<|QA (wJ I Qa .u1)<|QJD I<|QA (Qx I yV GI (.cons (vs:=[_,_,_,_]) I I I .h4 (.cons (vs:=[_]) I I I (.skip (.skip (.skip (.skip .h1)))) .nil)))<|Tw (k:=KO p) (v:=j4 ⟨x,r,(f,p)⟩) Uo I I I RY .u2<|QE<|Mt ?_
 exact Y2 (⟨x,r,(f,p)⟩) I .nil (rfl) (λw h=>by
  show St ⟨w0,F0,(m,Zz tx (Hk (addN ts ⟨x,r,(f,p)⟩)))::bs,_⟩ w;rw[Rf];exact St.imp h (.cons _ (.cons _ QJZ)) (λF ⟨⟨hG0,hGl,hT,⟨hxn,hxd⟩,hR⟩,_⟩=>⟨hG0,λt ht=>by
   rcases RZ ht with rfl | ht
   ·exact⟨⟨by assumption,by assumption⟩,hR⟩
   exact hT t ht,by rw[hc0,aI]⟩))
theorem EH{l:List Tm}{x:Fr}{f:Rat}{r:Sr}{p:List Int}(hI:WJ ts l)(hp:PW p)(hz:JQ f<=40000000)(hl:KC l<=40000000)(hG:∀F,G F->JC F/\GA F ts/\JP F x f/\XD F r p):
  XG prog 133 [.map (some m),x.v,r.v] ⟨w0,F0,(m,Zz tx (Hk ts))::bs,G⟩ (λ(_:Zb)=>.tuple #[]) (λn=>⟨w0,F0,(m,Zz tx (Hk (addN ts n)))::bs,λF=>G F/\GA F (addN ts n)/\n.t=(f+XK (J3 ts) p,p)⟩):=by
 rcases QAd ts p 0 with ⟨h1,h2⟩ | ⟨j,t,ht,h1,h2⟩
 ·exact Aw hI hp hz hl hG h1 h2
 exact Ll hI hp hz hl hG ht h1 h2
end
section
variable[Dr]
theorem pK{w:World}{F:Gs}{a b:Zb}(hF:Fits F w)(hA:xD F a)(hB:xD F b)(pa:PW a.t.2)(pb:PW b.t.2):Qe prog 230 [j4 a,j4 b] w F (.int .i64 (Gg a.t.2 b.t.2)):=by
 refine QT.intro (G:=λF=>xD F a/\xD F b) func230 rfl wy rfl rfl hF (λF' hF'=>⟨hA.le hF',hB.le hF'⟩)<|QKO<|Qu rfl (vs:=[_,_,_,_,_]) rfl λb2=>Qu rfl (vs:=[_,_,_,_,_]) rfl λb3=>wQ rfl<|QKO<|QA (QH rfl V3 Jz)<|QA (Qf rfl Jz .u1 (.skip (.skip (.skip (.skip .h1)))))<|QA (QH rfl V3 Jz)<|QA (Qf rfl Jz .here (.skip (.skip (.skip (.skip .h1)))))<|QI rfl (λ_ _ f k=>RT f (ra:=a.r) (rb:=b.r) k.1.2 (k.2.2) (pa) (pb)) λ_=>wQ rfl<|QW ?_
 exact QKx I I (rfl) w8
end
end Go.Proofs.YtpmehagnedbkhaaGreatDoor
namespace Go.Proofs
open Go.Shelf
def qp:Go.Shelf.Ren:=⟨λ| 14=>141 | 20=>241 | 21=>242 | 22=>243 | 23=>244 | 24=>245 | 25=>246 | 26=>247 | 27=>248 | 46=>309 | 47=>310 | 48=>311 | 49=>312 | 50=>313 | 15=>142 | 57=>336 | 28=>249 | 29=>250 | n=>n,λ| 24=>101 | 22=>86 | 3=>3 | 25=>104 | 4=>4 | 0=>0 | 46=>295 | 45=>294 | 50=>258 | 66=>350 | 39=>212 | 55=>289 | 70=>354 | 76=>371 | 77=>372 | 53=>301 | 5=>5 | 9=>9 | n=>n,λ| n=>n⟩
theorem QAF:fT prog qp:={
 mixed:=wm
 f14:=⟨f141.name,wu,func141.trans tH⟩
 f15:=func142.trans tH
 f20:=⟨Tryz.f241.name,wu,func241.trans tH⟩
 f21:=⟨f242.name,wu,func242.trans tH⟩
 f22:=⟨Tryz.f243.name,wu,func243.trans tH⟩
 f23:=⟨Tryz.f244.name,wu,func244.trans tH⟩
 f24:=⟨Tryz.f245.name,wu,func245.trans tH⟩
 f25:=⟨Tryz.f246.name,wu,func246.trans tH⟩
 f26:=⟨Tryz.f247.name,wu,func247.trans tH⟩
 f27:=⟨f248.name,wu,func248.trans tH⟩
 f28:=func249.trans tH
 f29:=func250.trans tH
 f46:=⟨f309.name,wu,func309.trans tH⟩
 f47:=func310.trans tH
 f48:=func311.trans tH
 f49:=⟨f312.name,wu,func312.trans tH⟩
 f50:=⟨f313.name,wu,func313.trans tH⟩
 f57:=⟨f336.name,wu,func336.trans tH⟩
 t0:=underlying0
 a0:=isAgg0
 z0:=sizeOf0
 v0:=zeroValue0
 t3:=underlying3
 a3:=isAgg3
 z3:=sizeOf3
 v3:=zeroValue3
 t4:=underlying4
 a4:=isAgg4
 z4:=sizeOf4
 v4:=zeroValue4
 t5:=underlying5
 a5:=isAgg5
 z5:=sizeOf5
 v5:=zeroValue5
 t9:=underlying9
 a9:=isAgg9
 z9:=sizeOf9
 v9:=zeroValue9
 t22:=underlying86
 a22:=isAgg86
 z22:=sizeOf86
 v22:=zeroValue86
 t25:=underlying104
 a25:=isAgg104
 z25:=sizeOf104
 v25:=zeroValue104
 t39:=underlying212
 a39:=isAgg212
 z39:=sizeOf212
 v39:=zeroValue212
 t45:=underlying294
 a45:=isAgg294
 z45:=sizeOf294
 v45:=zeroValue294
 t46:=underlying295
 a46:=isAgg295
 z46:=sizeOf295
 v46:=zeroValue295
 t50:=underlying258
 a50:=isAgg258
 z50:=sizeOf258
 v50:=zeroValue258
 t53:=underlying301
 a53:=isAgg301
 z53:=sizeOf301
 v53:=zeroValue301
 t55:=underlying289
 a55:=isAgg289
 z55:=sizeOf289
 v55:=zeroValue289
 t66:=underlying350
 a66:=isAgg350
 z66:=sizeOf350
 v66:=zeroValue350
 t70:=underlying354
 a70:=isAgg354
 z70:=sizeOf354
 v70:=zeroValue354
 t76:=underlying371
 a76:=isAgg371
 z76:=sizeOf371
 v76:=zeroValue371
 t77:=underlying372
 a77:=isAgg372
 z77:=sizeOf372
 v77:=zeroValue372 }
end Go.Proofs
namespace Go.Proofs.YtpmehagnedbkhaaGreatDoor
variable{g:FuncId}{T et kt:TypeId}{N c cap i j k m n:Nat}{x:Operand}{P:Program}{l:List Int}{y:Rat}{w:World}{F F':Gs}{a b:Rat×Rat}{A seen u:List Nat}{f:Rat->Rat->Rat}{α:Type}{β:Nat->Nat}{t:Zb}{ts:List Zb}
section
open Go.RowKit Ig Go.Sort
def ntd:Zb:=⟨⟨⟨0,none,0,0⟩,⟨1,none,0,0⟩⟩,⟨none,0,0⟩,(0,[])⟩
def QEm(F:Gs):xD F ntd:=⟨⟨XC.small F wu wu,XC.small F wu wu⟩,⟨by simp[Qw,ntd],rfl,aZ _⟩⟩
def PW.nil:PW []:=⟨λ_ h=>(by cases h),wz⟩
abbrev cD(F:Gs):={t:Zb // xD F t/\PW t.t.2}
instance(F:Gs):Inhabited (cD F):=⟨⟨ntd,QEm F,PW.nil⟩⟩
def DK(F:Gs):cD F->List Value:=λt=>WO t.1
def cfT(F:Gs):cD F->cD F->Int:=λx y=>Gg x.1.t.2 y.1.t.2
def ltT(x y:cD F):ltOf (cfT F) x y=before x.1.t.2 y.1.t.2:=(B4 _ _).symm
def Ss{a b c:List Int}(h:before a b=false)(k:before b c=false):before a c=false:=by
 cases hb:before a c with
 |false=>rfl
 |true =>
  rcases G7 b c with e | e | e
  ·subst e;rw[h]at hb;cases hb
  ·rw[k]at e;cases e
  rw[before_trans hb e]at h;cases h
theorem QEN(F:Gs):SWO (ltOf (cfT F)) where
 irrefl:=λx=>by rw[ltT];exact before_irrefl _
 trans:=λx y z h k=>by rw[ltT]at h k ⊢;exact before_trans h k
 ntrans:=λx y z h k=>by rw[ltT]at h k ⊢;exact Ss h k
def qw(w:World)(F:Gs)(W:World):Gs:=λb=>if b<w.heap.size then F b else match W.heap[b]? with | some (.cells c T _)=>if T=289 then some (c,289)else none | _=>none
def GO{W:World}{b:Nat}(h:b<w.heap.size):qw w F W b=F b:=if_pos h
theorem CW{W:World}(hF:Fits F w):Gs.le F (qw w F W):=λb x hb=>by rw[GO (hF.lt hb)];exact hb
theorem TS{W:World}{H7:Nat}{c':Array Value}{fr':Nat×Nat}(hF:Fits F w)(hn:F H7=none)(hT:T≠289)(h1:∀b,b<w.heap.size->b≠H7->W.heap[b]?=w.heap[b]?)(h2:W.heap[H7]?=some (.cells c' T fr')):Fits (qw w F W) W:=by
 refine⟨λb c T hb=>?_,λb c fr hb=>?_⟩
 ·by_cases hlt:b<w.heap.size
  ·rw[GO hlt]at hb;obtain⟨fr,e⟩:=hF.row b c T hb;have hne:b≠H7:=by rintro rfl;rw[hn]at hb;cases hb
   exact⟨fr,by rw[h1 b hlt hne];exact e⟩
  unfold qw at hb;rw[if_neg hlt]at hb;split at hb
  ·rename_i c' T' fr heq;split at hb
   ·rename_i hT;cases hb;exact⟨fr,by rw[heq,hT]⟩
   cases hb
  cases hb
 by_cases hlt:b<w.heap.size
 ·rw[GO hlt];by_cases hne:b=H7
  ·subst hne;rw[h2]at hb;cases hb;exact absurd rfl hT
  rw[h1 b hlt hne]at hb;exact hF.all b c fr hb
 unfold qw;rw[if_neg hlt,hb];simp
theorem uQ{w':World}(h1:Below w.heap.size w w')(h2:w.drawn<=w'.drawn):w'=grow (w.drewN (w'.drawn-w.drawn)) (w'.heap.extract w.heap.size w'.heap.size):=by
 have hh:w'.heap=w.heap++w'.heap.extract w.heap.size w'.heap.size:=by
  apply eB;intro i;rw[bJ];split
  ·rename_i h;exact h1.block i h
  rename_i h;rw[Array.getElem?_extract];have:=h1.size;by_cases g:i<w'.heap.size
  ·rw[if_pos O];congr 1;omega
  rw[if_neg O,bU O]
 obtain⟨e1,e2,e3,_,_⟩:=h1;cases w' with
 |mk heap tape drawn os output =>
  simp only at hh e1 e2 e3 h2;unfold grow World.drewN;simp only[World.mk.injEq];exact⟨hh,e2,O,e1,e3⟩
section
variable{α:Type}[Inhabited α]{enc:α->List Value}{k:Nat}{w:World}{H7 m:Nat}{dk:Array α}{os:Array Obj}{c:Array Value}{T:TypeId}{fr:Nat×Nat}
def EG(b:Nat)(hb:b<w.heap.size)(hne:b≠H7):(sortWorldK enc k w H7 0 m dk os).heap[b]?=w.heap[b]?:=by
 show((w.heap.modify H7 _)++os)[b]?=_;rw[bJ,if_pos (by simpa using hb),fi,if_neg (Ne.symm hne)]
theorem zM(h:w.heap[H7]?=some (.cells c T fr)):(sortWorldK enc k w H7 0 m dk os).heap[H7]?=some (.cells (putCells id 0 (flatK enc k dk) c) T fr):=by
 have hb:H7<w.heap.size:=by
  rcases bI H7 w.heap.size with g | g
  ·exact g
  rw[bU g]at h;cases h
 show((w.heap.modify H7 _)++os)[H7]?=_;rw[bJ,if_pos (by simpa using hb),fi,if_pos rfl,h];rfl
theorem OP(hk:∀x,(enc x).length=k)(d:Array α):flatK enc k d=(d.toList.flatMap enc).toArray:=by
 have hl:(d.toList.flatMap enc).length=d.size*k:=by
  generalize hd:d.toList=l;have:d.size=l.length:=by rw[<-hd];simp
  rw[this];clear this hd
  induction l with
  |nil=>simp
  |cons x l ih=>rw[bG,ak,ih,hk,au,fD];omega
 apply eB;intro t;by_cases ht:t<d.size*k
 ·have hk0:0<k:=fJ λe=>by rw[e]at ht;simp at ht
  have h1:t/k<d.size:=(Nat.div_lt_iff_lt_mul hk0).2 ht;have h2:t%k<k:=Nat.mod_lt _ hk0;have h3:t%k<(enc d[t/k]!).length:=by rw[hk];exact h2
  have e1:(flatK enc k d)[t]?=some ((enc d[t/k]!)[t%k]!):=by
   rw[Array.getElem?_eq_getElem (by rw[size_flatK];exact ht)];have:=get_flatK enc k d t ht;rw[getElem!_pos _ t (by rw[size_flatK];exact ht)]at this;rw[this]
  rw[e1,aT];have h4:el d.toList (t/k)=d[t/k]!:=by simp[el,h1]
  have:=Jc (f:=enc) hk (l:=d.toList) (i:=t/k) (j:=t%k) (u:=(enc d[t/k]!)[t%k]!) (by simpa using h1) (by rw[h4,ax h3,getElem!_pos (enc d[t/k]!) (t%k) h3]);rw[iz,Nat.div_add_mod]at this;exact this.symm
 rw[bU (by rw[size_flatK];omega),aT,bj O]
theorem UX{a b rest:List Value}(h:b.length=a.length):putCells id 0 b.toArray (a++rest).toArray=(b++rest).toArray:=by
 apply eB;intro i;unfold putCells;rw[Array.getElem?_mapIdx,aT,aT,fy,fy];by_cases hi:i<a.length
 ·have hi':i<b.length:=O;rw[if_pos hi,if_pos hi',ax hi,ax hi'];simp[hi']
 have hi':¬i<b.length:=O;rw[if_neg hi,if_neg hi',h];have e:¬(0<=i/\i<0+b.toArray.size):=w6;cases rest[i-a.length]? with
 |none=>rfl
 |some x=>simp only[Option.map_some];rw[if_neg e]
end
def jr(g:FuncId):Prop:=Enters prog g/\∀(w:World) (F:Gs) (a b:Zb),Fits F w->xD F a->xD F b->PW a.t.2->PW b.t.2->@QT ⟨True⟩ prog g [j4 a,j4 b] w F Unit (λ_=>.int .i64 (Gg a.t.2 b.t.2)) λ_ _=>True
theorem jr.lays(hg:jr g){w:World}{F:Gs}{H7 size:Nat}{c:Array Value}{T:TypeId}{fr:Nat×Nat}(hF:Fits F w)(hn:F H7=none)(hT:T≠289)(hb:w.heap[H7]?=some (.cells c T fr)):CmpLays prog g #[] (DK F) 5 (cfT F) H7 0 size w:=λm os dk _ x y=>by
 have hf:=TS (W:=sortWorldK (DK F) 5 w H7 0 m dk os) hF hn hT (λb h1 h2=>EG b h1 h2) (zM hb);have hle:=CW (W:=sortWorldK (DK F) 5 w H7 0 m dk os) hF;have:=(hg.2 _ _ x.1 y.1 hf (x.2.1.le hle) (y.2.1.le hle) x.2.2 y.2.2).2;refine this.mono ?_;rintro e w' ⟨_,F',rfl,hx,_⟩;exact⟨rfl,_,_,uQ (@Sx.toBelow ⟨True⟩ _ _ hx) (@Sx.dr ⟨True⟩ _ _ hx trivial)⟩
def QHU(x:cD F):∀v∈DK F x,v.oneCell'=true:=by
 intro v hv;unfold DK WO at hv;simp only[aA,aJ,or_false]at hv;rcases hv with rfl | rfl | rfl | rfl | rfl<;>rfl
variable[Dr]{w0:World}{F0:Gs}{bs:List (Nat×Obj)}{G:Gs->Prop}
theorem QEf(hg:jr g){b n cap lim:Nat}{ts:List Zb}{rest:List Value}(hG:∀F,G F->GA F ts)(hp:∀t∈ts,PW t.t.2)(hl:ts.length=n)(hn:n<4611686018427387904)(hlim:lim<4611686018427387904):
  XG prog 141 [.slice (some ⟨b,0,none⟩) n cap,.int .i64 0,.int .i64 (n:Nat),.int .i64 (lim:Nat),.func (.func g) #[] #[]] ⟨w0,F0,(b,.cells (ts.flatMap WO++rest).toArray 101 (0,0))::bs,G⟩ (λ(_:List Zb)=>.tuple #[])
   (λts'=>⟨w0,F0,(b,.cells (ts'.flatMap WO++rest).toArray 101 (0,0))::bs,λF=>G F/\ts'.Perm ts/\ts'.Pairwise λx y=>before y.t.2 x.t.2=false⟩):=by
 refine⟨enters_of func141 wy rfl,λw hw=>?_⟩;obtain⟨F,h⟩:=hw;obtain⟨hb1,hb2,hb3⟩:=h.bx (b,_) aC;have hts:=hG F h.hG;have hblt:b<w.heap.size:=(Array.getElem?_eq_some_iff.1 hb1).1;have hT:(101:TypeId)≠289:=wu;obtain⟨d,hd⟩:∃d:Array (cD F),d.toList.map (·.1)=ts:=by
  refine⟨(ts.attach.map λt=>(⟨t.1,hts t.1 t.2,hp t.1 t.2⟩:cD F)).toArray,?_⟩;simp[iw,Function.comp_def]
 have hds:d.size=n:=by rw[<-hl,<-hd];simp
 have hfl:∀d:Array (cD F),flatK (DK F) 5 d=((d.toList.map (·.1)).flatMap WO).toArray:=λd=>by
  rw[OP (enc:=DK F) (k:=5) (λ_=>rfl),List.flatMap_map];rfl
 have hH:HoldsK (DK F) 5 w b 0 d:=by
  intro j hj;rw[hfl,hd]at hj ⊢;have hj':j<(ts.flatMap WO).length:=by simpa using hj
  rw[bO];refine⟨?_,by simp[World.frozen?,hb1]⟩;simp only[World.cell?,hb1,Option.isSome_none,Bool.false_eq_true,if_false,aT];rw[List.getElem?_append_left hj',ax hj'];show some _=some ((ts.flatMap WO).toArray[j]!);rw[getElem!_pos (ts.flatMap WO).toArray j (by simpa using hj')];simp
 have hR:RowK (DK F) 5 w b 0 d:=⟨λ_=>rfl,λx=>QHU x,hH,hblt⟩;have eg:=hg.1;have hcmp:=hg.lays (size:=d.size) h.fits hb3 hT hb1;have hs:=AnyQ.pdqsortCmpFunc_all QAF 5 (UD Xv) (KX Xv) (DK F) (cfT F) g #[] (QEN F) b 0 cap d w eg hcmp hR (d.size+1) 0 d.size lim d w O rfl (SWK.start hH) (av _) (aZ _) O hlim (Or.inl I);have hpl:=pdq_sorts (ltOf (cfT F)) (QEN F) d 0 d.size lim true true (av _) (aZ _) (Or.inl I);generalize pdq (ltOf (cfT F)) d 0 d.size lim true true=d' at hs hpl;obtain⟨⟨hp1,_,hp2⟩,hso⟩:=hpl;rw[hds]at hs;refine hs.mono ?_;rintro e w' ⟨rfl,m,os,rfl⟩;have hbk:=zM (enc:=DK F) (k:=5) (m:=m) (dk:=d') (os:=os) hb1;have hfit:=TS (W:=sortWorldK (DK F) 5 w b 0 m d' os) h.fits hb3 hT (λb h1 h2=>EG b h1 h2) hbk;have hle:=CW (W:=sortWorldK (DK F) 5 w b 0 m d' os) h.fits;have hperm:(d'.toList.map (·.1)).Perm ts:=by
  rw[<-hd];refine List.Perm.map _ ?_;have e1:(d'.extract 0 d.size).toList=d'.toList:=by rw[<-hp1];simp
  have e2:(d.extract 0 d.size).toList=d.toList:=wz;rw[e1,e2]at hp2;exact hp2
 have hcells:putCells id 0 (flatK (DK F) 5 d') (ts.flatMap WO++rest).toArray=((d'.toList.map (·.1)).flatMap WO++rest).toArray:=by
  rw[hfl];refine UX ?_;have:=(eX WO hperm).length_eq;exact this
 rw[hcells]at hbk;have hsz:w.heap.size<=(sortWorldK (DK F) 5 w b 0 m d' os).heap.size:=by
  show _<=((w.heap.modify b _)++os).size;simp
 refine⟨d'.toList.map (·.1),rfl,qw w F (sortWorldK (DK F) 5 w b 0 m d' os),?_⟩;refine⟨Gs.le_trans h.le hle,λk hk=>?_,hfit,⟨⟨?_,?_,?_,?_,?_⟩,?_⟩,λk hk=>?_,h.nd,λF' hF'=>⟨h.g F' (Gs.le_trans hle hF'),hperm,?_⟩⟩
 ·have:k<w.heap.size:=fK hk h.ext.size;rw[GO this];exact h.old k hk
 ·exact h.ext.os
 ·exact h.ext.tape
 ·exact h.ext.output
 ·exact aU h.ext.size hsz
 ·intro k hk;have h1:k<w.heap.size:=fK hk h.ext.size;have h2:k≠b:=by rintro rfl;exact absurd hk (Nat.not_lt.2 hb2)
  rw[EG k h1 h2];exact h.ext.block k hk
 ·intro hd;exact aU (h.ext.dr hd) (Nat.le_add_right _ _)
 ·rcases List.mem_cons.1 hk with rfl | hk
  ·exact⟨hbk,hb2,by rw[GO hblt];exact hb3⟩
  obtain⟨g1,g2,g3⟩:=h.bx k (ar _ hk);have h1:k.1<w.heap.size:=(Array.getElem?_eq_some_iff.1 g1).1;have h2:k.1≠b:=by
   have:=h.nd;simp only[ag]at this;have:=(List.nodup_cons.1 this).1;rintro e;exact this (e ▸ aa (f:=(·.1)) hk)
  exact⟨by rw[EG k.1 h1 h2];exact g1,g2,by rw[GO h1];exact g3⟩
 rw[eH,List.pairwise_iff_getElem];intro i j hi hj hij;have hi':i<d'.size:=by simpa using hi
 have hj':j<d'.size:=by simpa using hj
 have:=hso i j (av _) hij O;rw[ltT,getElem!_pos _ i hi',getElem!_pos _ j hj']at this;simpa using this
end
open Go.RowKit Ig
section
variable[Dr]{w0:World}{F0:Gs}{bs:List (Nat×Obj)}{G:Gs->Prop}
theorem jZ(hF:Fits F w){n:Nat}(h:n<4611686018427387904):Qe prog 142 [.int .u64 (n:Nat)] w F (.int .i64 (Lib.bitLen n:Nat)) :=
 QT.same (enters_of func142 wy rfl) hF (by
  have:=bits_Len (n:Nat) w O O
  rwa [Int.toNat_natCast]at this)
theorem kU:∀ {ts:List Zb},ts.flatMap WO=[]->ts=[]
 |[],_=>rfl
 |t::l,h=>by rw[bG]at h;simp[WO]at h
theorem QBh(hg:jr g){n lim:Nat}{v:Value}{ts:List Zb}{ob:List (Nat×Obj)}(hr:Q7 101 5 v n (ts.flatMap WO) ob)(hG:∀F,G F->GA F ts)(hp:∀t∈ts,PW t.t.2)(hl:ts.length=n)(hn:n<4611686018427387904)(hlim:lim<4611686018427387904):
  XG prog 141 [v,.int .i64 0,.int .i64 (n:Nat),.int .i64 (lim:Nat),.func (.func g) #[] #[]] ⟨w0,F0,ob++bs,G⟩ (λ(_:List Zb×List (Nat×Obj))=>.tuple #[])
   (λc=>⟨w0,F0,c.2++bs,λF=>G F/\Q7 101 5 v n (c.1.flatMap WO) c.2/\c.1.Perm ts/\c.1.Pairwise λx y=>before y.t.2 x.t.2=false⟩):=by
 generalize hcs:ts.flatMap WO=cs at hr;cases hr with
 |nil =>
  have:=kU hcs;subst this;refine⟨enters_of func141 wy rfl,λw hw=>?_⟩;refine(AnyF.pdqsortCmpFunc_none QAF none 0 (lim:Nat) (.func (.func g) #[] #[]) w).mono ?_;rintro e w' ⟨rfl,rfl⟩;exact⟨([],[]),rfl,hw.DJ λF h=>⟨h,.nil,aL _,ee⟩⟩
 |some h1 h2 h3 h4 =>
  rename_i b cap rest;subst hcs;have h:=QEf (w0:=w0) (F0:=F0) (bs:=bs) (G:=G) hg (b:=b) (n:=n) (cap:=cap) (lim:=lim) (ts:=ts) (rest:=rest) hG hp hl hn hlim;refine⟨h.1,λw hw=>(h.2 w hw).mono ?_⟩;rintro e w' ⟨ts',rfl,hw'⟩;refine⟨(ts',[(b,.cells (ts'.flatMap WO++rest).toArray 101 (0,0))]),rfl,hw'.DJ λF ⟨hG',hpm,hpw⟩=>⟨hG',?_,hpm,hpw⟩⟩;have hlen:(ts'.flatMap WO).length=(ts.flatMap WO).length:=(eX WO hpm).length_eq;exact .some (by rw[hlen];exact h1) (by rw[hlen];exact h2) h3 h4
theorem QBP(hg:jr g){n:Nat}{v:Value}{ts:List Zb}{ob:List (Nat×Obj)}(hr:Q7 101 5 v n (ts.flatMap WO) ob)(hG:∀F,G F->GA F ts)(hp:∀t∈ts,PW t.t.2)(hl:ts.length=n)(hn:n<4611686018427387904):
  XG prog 49 [v,.func (.func g) #[] #[]] ⟨w0,F0,ob++bs,G⟩ (λ(_:List Zb×List (Nat×Obj))=>.tuple #[])
   (λc=>⟨w0,F0,c.2++bs,λF=>G F/\Q7 101 5 v n (c.1.flatMap WO) c.2/\c.1.Perm ts/\c.1.Pairwise λx y=>before y.t.2 x.t.2=false⟩):=by
 refine XG.intro func49 rfl wy rfl rfl<|wR rfl<|QA (CM rfl hr Vs)<|wQ rfl<|QB<|QJD rfl<|QJD rfl<|QJD rfl<|QA (CN rfl QEE QAW O)<|QI rfl (λ_ _ f _=>jZ f hn) λ_=>QJD rfl<|XS rfl (aL _) (QBh hg hr (λF h=>hG F h.1) hp hl hn (Nat.lt_of_le_of_lt (Lib.bitLen_le n 62 O O) O)) λc=>QE<|Mt ?_
 exact Y2 (c) rfl .nil (rfl) λw h=>h.DJ λF h=>⟨h.1.1,h.2⟩
end
theorem MX:∀(n:Nat) (l:List Nat),l.Nodup->(∀j∈l,j<n)->l.length<=n
 |0,l,_,h=>by
  cases l with
  |nil=>exact aZ _
  |cons x l=>exact absurd (h x aC) (ia _)
 |n+1,l,hn,h=>by
  have h1:=MX n (l.erase n) (hn.erase n) λj hj=>by
   have h2:=(hn.mem_erase_iff).1 hj;have h3:=h j h2.2;have h4:=h2.1;omega
  rw[List.length_erase]at h1;split at h1<;>omega
theorem qV{l:List Nat}(hn:l.Nodup)(h:∀j∈l,j<n)(hj:j<n)(hjn:j∉l):(l++[j]).Nodup/\(∀i∈l++[j],i<n)/\l.length<n:=by
 have h1:(l++[j]).Nodup:=by
  rw[List.nodup_append];exact⟨hn,wz,λa ha b hb=>by rw[List.mem_singleton.1 hb];rintro rfl;exact hjn ha⟩
 have h2:∀i∈l++[j],i<n:=λi hi=>by
  rcases List.mem_append.1 hi with hi | hi
  ·exact h i hi
  rw[List.mem_singleton.1 hi];exact hj
 have h3:=MX n _ h1 h2;rw[ak]at h3;exact⟨h1,h2,by simp at h3;omega⟩
theorem zh{l:List Nat}(hn:l.Nodup)(h:∀j∈l,j<n)(ha:∀j,j<n->j∈l):l.Perm (aj n) :=
 (eZ hn List.nodup_range).2 λa=>by rw[List.mem_range];exact⟨h a,ha a⟩
theorem Ug[Inhabited α](l:List α):(aj l.length).map (el l)=l:=by
 apply List.ext_getElem?;intro i;by_cases h:i<l.length
 ·rw[fL,List.getElem?_range h,ax h];simp[Ja h]
 rw[bj w6,bj O]
def XN(F:Gs)(s:Sr)(ts:List Zb)(p:List Tm):Prop:=Qw F s.q s.n 5 (ts.flatMap WO)/\GA F ts/\J3 ts=p/\s.n<=s.cap/\ts.length=s.n
def XN.le{s:Sr}{p:List Tm}(h:XN F s ts p)(k:Gs.le F F'):XN F' s ts p:=⟨h.1.le k,h.2.1.le k,h.2.2⟩
def CT(ts:List Zb):List Zb:=ts.filter λt=>decide (t.t.1≠0)
def Fa(ts:List Zb)(t:Zb):CT (ts++[t])=CT ts++(if t.t.1≠0 then[t]else[]):=by
 unfold CT;rw[List.filter_append];congr 1;by_cases h:t.t.1=0
 ·simp[h]
 simp[h]
structure QFh(ts:List Zb) where
 seen:List Nat
 v:Value
 n:Nat
 ob:List (Nat×Obj)
 hr:Q7 101 5 v n ((CT (seen.map (el ts))).flatMap WO) ob
 nd:seen.Nodup
 lt:∀j∈seen,j<ts.length
 hn:(CT (seen.map (el ts))).length=n
def Cc(ts:List Zb):(Hk ts).length=ts.length:=by simp[Hk]
theorem vD:jr 230:=⟨enters_of func230 wy rfl,λw F a b hF hA hB pa pb=>@pK ⟨True⟩ w F a b hF hA hB pa pb⟩
def zX{r:Rat}:D8 r.num=0↔r=0:=by
 unfold D8;constructor
 ·intro h;apply Rat.num_eq_zero.1;split at h
  ·omega
  split at h<;>omega
 rintro rfl;rfl
def zN{os:List Zb}{l:List Tm}(hI:WJ ts l)(hn:seen.Nodup)(hlt:∀j∈seen,j<ts.length)(hall:∀j,j<ts.length->j∈seen)(hp:os.Perm (CT (seen.map (el ts))))(hs:os.Pairwise λx y=>before y.t.2 x.t.2=false):J3 os=Xw l:=by
 have h1:os.Perm (CT ts):=by
  refine hp.trans ?_;unfold CT;refine List.Perm.filter _ ?_;have:=(zh hn hlt hall).map (el ts)
  rwa [Ug]at this
 have h2:(J3 os).Perm ((J3 ts).filter λt=>decide (t.1≠0)):=by
  have:=h1.map Zb.t;unfold CT at this;have e:(ts.filter λt=>decide (t.t.1≠0)).map Zb.t=(ts.map Zb.t).filter λt=>decide (t.1≠0):=by
   rw[List.filter_map];rfl
  rw[e]at this;exact this
 refine hI.dT.norm h2 ?_;have hnd:((J3 os).map (·.2)).Nodup:=by
  have h3:((J3 os).map (·.2)).Perm (((J3 ts).filter λt=>decide (t.1≠0)).map (·.2)):=h2.map _;rw[h3.nodup_iff];exact(List.filter_sublist.map _).nodup hI.dT.nd
 unfold J3 at hnd ⊢;rw[eH];rw[iw]at hnd;have hnd2:=List.pairwise_map.1 hnd;refine(hs.and hnd2).imp ?_;rintro x y ⟨h1,h2⟩;rcases G7 x.t.2 y.t.2 with e | e | e
 ·exact absurd e h2
 ·exact e
 rw[h1]at e;cases e
def OE(hlt:∀j∈seen,j<ts.length){t:Zb}(h:t∈CT (seen.map (el ts))):t∈ts:=by
 have:=(List.mem_filter.1 h).1;obtain⟨j,hj,e⟩:=List.mem_map.1 this;rw[<-e];exact Q3 (hlt j hj)
def yi(e:el ts j=t)(h:t.t.1≠0):CT ((seen++[j]).map (el ts))=CT (seen.map (el ts))++[t]:=by
 rw[aM,ag,fg,e,Fa,if_pos h]
def QAN(e:el ts j=t)(h:t.t.1=0):CT ((seen++[j]).map (el ts))=CT (seen.map (el ts)):=by
 rw[aM,ag,fg,e,Fa,if_neg (not_not_intro h),eW]
def pO(t:Zb):∀v∈WO t,v.oneCell'=true:=by
 intro v hv;unfold WO at hv;simp only[aA,aJ,or_false]at hv;rcases hv with rfl | rfl | rfl | rfl | rfl<;>rfl
section
variable{w0:World}{F0:Gs}{bs:List (Nat×Obj)}{G:Gs->Prop}
theorem Bn{l:List Tm}(hI:WJ ts l)(hlen:ts.length<=1000000000)(hG:∀F,G F->GA F ts):
  XG prog 134 [.map (some m)] ⟨w0,F0,(m,Zz tx (Hk ts))::bs,G⟩ (λ(c:Sr×List Zb)=>c.1.v) (λc=>⟨w0,F0,(m,Zz tx (Hk ts))::bs,λF=>G F/\XN F c.1 c.2 (Xw l)⟩):=by
 refine XG.intro func134 rfl wy rfl rfl<|AO hG<|QKO<|wQ rfl<|QKO<|wQ rfl<|QG<|wR rfl<|Iw rfl RY .here λb7=>QJC<|QV<|JW (ι:=QFh ts) [(7,_)] (λi=>[(3,i.v)]) (λi=>(b7,j6 m (Hk ts).length i.seen)::(m,Zz tx (Hk ts))::(i.ob++bs)) (λi F=>True) (λi=>ts.length-i.seen.length) (⟨[],_,0,[],.nil,ek,(λ_ h=>by cases h),rfl⟩) wS wS QJZ w8 λi=>?_
 simp only[ae,ah];have hn0:i.n<=i.seen.length:=by rw[<-i.hn];exact aU (List.length_filter_le _ _) wz
 refine QKO<|Oo (kv:=Hk ts) (K:=tx) (b:=m) rfl .here .u1 λx hx=>QA (QX I (QEl x))<|QJC<|QG ?_
 refine QO I (λhc=>?_) λhc=>?_
 ·obtain⟨j,rfl⟩:∃j,x=some j:=by
   cases x with
   |none=>cases hc
   |some j=>exact⟨j,rfl⟩
  obtain⟨hj,hjn⟩:=hx;rw[Cc]at hj;obtain⟨hs1,hs2,hs3⟩:=qV i.nd i.lt hj hjn;have htm:=Q3 hj;have hkj:(Hk ts)[j]?=some (KO (el ts j).t.2,j4 (el ts j)):=by rw[Hk,fL,ax hj,Ja hj];rfl
  generalize hte:el ts j=t at htm hkj;refine QKr 5 I<|QA (pB (kv:=Hk ts) (K:=tx) (p:=(KO t.t.2,j4 t)) I .here .u1 hkj)<|wB 1 I<|Qc GI λb5=>QR (vs:=[_,_,_,_,_]) I I I Xv I .here .h5 wW<|QJC<|QKO<|QA (QH I Wx Qa)<|QA (wJ I Qa .here)<|QI I (λ_ _ f k=>My f ((k.1.2 t htm).1)) λ_=>QKq 3 I ?_
  refine QO I (λhc=>?_) λhc=>?_
  ·have hnz:t.t.1≠0:=λe=>by rw[e]at hc;cases hc
   refine wA 2 I<|QA (QJ (vs:=[_,_,_,_,_]) I Xv .here .h5 rfl)<|Qb I (Qz Vs) Xv GI I I λb18=>Zi (bs':=(_::_::_::bs)++i.ob) (.cons _ (.cons _ (.cons _ bK))) ?_
   refine Ys (ob:=i.ob) (k:=1) (sz:=5) (news:=WO t) rfl rfl Vs Xv GI I QCa i.hr (Src.row (off:=0) tB (λj v hv=>by rw[bO];show((WO t).toArray)[j]?=some v;rw[aT];exact hv) rfl) O O (pO t) (λv19 ob19 hr19=>?_);refine Zi (bs':=_::_::_::(ob19++bs)) (.cons _ (.cons _ (.cons _ bK)))<|wB 2 I<|Qk ?_
   exact Ql (⟨i.seen++[j],v19,i.n+1,ob19,by rw[yi hte hnz,aX];simpa using hr19,hs1,hs2,by rw[yi hte hnz,ak,i.hn];rfl⟩) (by show _-(i.seen++[j]).length<_;rw[ak];simp only[ei];omega) wT (.cons _ QJZ) λF h=>⟨h.1.1.1,trivial⟩
  have hz:t.t.1=0:=zX.1 (by simpa using hc);refine QN<|Qk ?_
  exact Ql (⟨i.seen++[j],i.v,i.n,i.ob,by rw[QAN hte hz];exact i.hr,hs1,hs2,by rw[QAN hte hz];exact i.hn⟩) (by show _-(i.seen++[j]).length<_;rw[ak];simp only[ei];omega) wT (.cons _ QJZ) λF h=>⟨h.1.1,trivial⟩
 obtain rfl:x=none:=by
  cases x with
  |none=>rfl
  |some j=>cases hc
 rw[show nxP (Hk ts).length i.seen none=∀j,j<(Hk ts).length->j∈i.seen from rfl,Cc]at hx;refine Q2 ?_
 repeat first|refine QY ?_|refine QP wy ?_
 refine QZ<|QC<|wR I<|XS I (List.perm_middle.trans (.cons _ eP)).symm (QBP vD i.hr (λF ⟨⟨hG0,hT⟩,_⟩ t ht=>hT t (OE i.lt ht)) (λt ht=>hI.pw t (OE i.lt ht)) i.hn (wk<|MX _ _ i.nd i.lt)) λc=>JN _ (λ_ _ f h=>h.2) λhso=>?_
 obtain⟨r,hv,hrn,hrc,hfix⟩:=Q7.fix (w0:=w0) (F0:=F0) (bs1:=(b7,j6 m (Hk ts).length (nxS i.seen none))::(m,Zz tx (Hk ts))::bs) (G:=_) hso.1;refine Zi bK<|YB hfix ?_
 rw[hv];refine QKq 9 I ?_;exact Y2 (⟨r,c.1⟩) I (wN I) (rfl) λw h=>St.imp h (.cons _ QJZ) λF h9=>⟨h9.1.1.1.1,by rw[hrn];exact h9.2,λt ht=>h9.1.1.1.2 t (OE i.lt (hso.2.1.mem_iff.1 ht)),zN hI i.nd i.lt hx hso.2.1 hso.2.2,by rw[hrn];exact hrc,hso.2.1.length_eq.trans (i.hn.trans hrn.symm)⟩
end
section
variable[Dr][df:Df]{P:Program}{N:Nat}{m:Sl}{w0:World}{F0:Gs}{bs:List (Nat×Obj)}{G:Gs->Prop}
theorem xH{yT ty e:TypeId}{y:Operand}{q:Option Addr}{Y:World->Prop}(hx:ev m x=some (.slice q n c))(hy:ev m y=some (.slice none 0 0))(hT:Hc P T=some e):Qt P N m Y (.binOp .eql T x y yT) ty (.bool q.isNone):=λa w _ _ _ _ ha _=>by
 have:=Lib.run_eql_slice_nil (P:=P) w T e q n c 0 0 (Qz hT);simp[execOp,ha.ev hx,ha.ev hy,eqGuard,this]
theorem Src.QDX{sz:Nat}{a:Addr}{news:List Value}(hr:∀F,G F->Qw F (some a) k sz news)(hl:news.length=k*sz):Src ⟨w0,F0,bs,G⟩ sz (.slice (some a) k c) k news:=by
 refine⟨hl,.inr ⟨a,c,rfl,λw hw j v hv=>?_⟩⟩;have hk:0<k:=by
  rcases eF k with h | h
  ·rw[h,fk]at hl;rw[List.length_eq_zero_iff.1 hl]at hv;simp at hv
  exact h
 obtain⟨F,h⟩:=id hw;obtain⟨b,off,_,_,e,_,_⟩:=(hr F h.hG).2 hk;cases e;rw[Hu];exact W2 hw hr hk hv
theorem Src.QHG{q:Option Addr}{sz:Nat}{news:List Value}(h0:q=none->k=0)(hr:∀F,G F->Qw F q k sz news)(hl:news.length=k*sz):Src ⟨w0,F0,bs,G⟩ sz (.slice q k c) k news:=by
 cases q with
 |some a=>exact .QDX hr hl
 |none =>
  have h:=h0 rfl;subst h;rw[fk,List.length_eq_zero_iff]at hl;subst hl;exact .nil
theorem yb(h:XD F ⟨none,n,c⟩ l):Q7 3 1 (.slice none 0 0) n (l.map Jn) []:=by
 obtain⟨⟨_,h1⟩,h2,_⟩:=h;have h0:n=0:=by
  rcases eF n with h | h
  ·exact h
  obtain⟨_,_,_,_,e,_⟩:=h1 h;cases e
 subst h0;rw[List.length_eq_zero_iff.1 h2];exact .nil
theorem uN(l:List Int):∀v∈l.map Jn,v.oneCell'=true:=by
 intro v hv;obtain⟨x,_,rfl⟩:=List.mem_map.1 hv;rfl
end
section
variable{w0:World}{F0:Gs}{bs:List (Nat×Obj)}{G:Gs->Prop}
theorem AB{r:Sr}(hG:∀F,G F->XD F r l)(hn:l.length=r.n)(hl:l.length<=1000000000):
  XG prog 48 [r.v] ⟨w0,F0,bs,G⟩ (λ(c:Value×List (Nat×Obj))=>c.1) (λc=>⟨w0,F0,bs++c.2,λF=>G F/\Q7 3 1 c.1 r.n (l.map Jn) c.2⟩):=by
 obtain⟨q,n,c⟩:=r;dsimp only[Sr.v]at hn ⊢;refine XG.intro func48 rfl wy rfl rfl<|AO hG<|QKO<|wQ rfl<|QG<|wR rfl<|QA (xH rfl rfl JB)<|QE<|QC ?_
 refine QO I (λhc=>?_) λhc=>?_
 ·obtain rfl:q=none:=by
   cases q with
   |none=>rfl
   |some a=>cases hc
  refine wA 6 I ?_;exact Y2 (⟨.slice none 0 0,[]⟩) I (wN I) (rfl) λw h=>St.imp h wz λF h9=>⟨h9.1,yb h9.2⟩
 obtain⟨a,rfl⟩:∃a,q=some a:=by
  cases q with
  |none=>cases hc
  |some a=>exact⟨a,rfl⟩
 refine QKr 4 I<|Bi (Qz JB) JO λb5=>QJD I<|Zi (bs':=bs++[(b5,.cells ([]++[]:List Value).toArray 3 (0,0))]) (bK (l₁:=[_]))<|Ys (ob:=[(b5,.cells ([]++[]:List Value).toArray 3 (0,0))]) (n:=0) (k:=n) (sz:=1) (news:=l.map Jn) rfl rfl JB JO Pp I Og (.some rfl rfl (aZ _) wu) (Src.QDX (λF hG=>hG.2.1) (by simp[hn])) O O (uN l) λv7 ob7 hr7=>?_
 rw[bO,ah]at hr7;refine wQ I<|QW ?_
 exact Y2 (⟨v7,ob7⟩) I (wN I) (rfl) λw h=>St.imp h QJZ λF h9=>⟨h9.1,hr7⟩
end
structure MG where
 f:List UInt8
 r:Sr
 k:List Int
variable{ps:List MG}
instance :Inhabited MG:=⟨⟨[],⟨none,0,0⟩,[]⟩⟩
def Di(t:MG):List Value:=[tx t.f,.slice t.r.q t.r.n t.r.cap]
def B7(t:MG):(Di t).length=2:=rfl
def WK(F:Gs)(ts:List MG):Prop:=∀t∈ts,XD F t.r t.k
theorem WK.le{ts:List MG}(h:WK F ts)(k:Gs.le F F'):WK F' ts:=λt ht=>(h t ht).le k
def gO(t:MG):Tm:=(Qh t.f,t.k)
structure QFf(ps:List MG) where
 i:Nat
 ts:List Zb
 le:i<=ps.length
 hI:WJ ts ((ps.take i).map gO)
def zG(l:List Tm)(i:Nat):KC (l.take i)<=KC l:=by
 have:=Zh (l.take i) (l.drop i);rw[aS]at this;omega
theorem N2{l:List Tm}{t:Tm}(h:t∈l):JQ t.1<=KC l:=by
 induction l with
 |nil=>cases h
 |cons x l ih =>
  have e:KC (x::l)=JQ x.1+1+KC l:=by unfold KC;rw[ag,bT]
  rcases List.mem_cons.1 h with rfl | h
  ·omega
  have:=ih h;omega
section
variable{P:Program}{w:World}{F:Gs}{f:FuncId}{args:List Value}{γ:Type}{val:γ->Value}{fact:γ->Gs->Prop}
theorem uq{r:Sr}(hF:Fits F w)(hR:XD F r l)(hl:l.length<=1000000000):QT prog 48 [r.v] w F (λ(c:Sr)=>c.v) (λc F=>XD F c l):=by
 have h:=AB (w0:=w) (F0:=F) (bs:=[]) (G:=λF'=>Gs.le F F') (r:=r) (l:=l) (λF' h=>hR.le h) hR.2.1 hl;refine⟨h.1,(h.2 w (St.start hF λ_ h=>h)).mono ?_⟩;rintro e w' ⟨⟨v,ob⟩,rfl,hw⟩;obtain⟨F1,h1⟩:=id hw;have ho:=(h1.hG).2;dsimp only at ho hw;obtain⟨s,hv,hsn,hsc,hfix⟩:=Q7.fix (w0:=w) (F0:=F) (bs1:=[]) ho;obtain⟨F',h'⟩:=hfix w' hw;exact⟨s,F',by rw[hv],h'.ext,h'.le,h'.old,h'.fits,λF'' hle=>⟨by rw[hsn];exact(h'.g F'' hle).2,by rw[hsn];exact hR.2.1,by rw[hsn];exact hsc⟩⟩
end
section
theorem pE{r:Sr}(hF:Fits F w)(hGl:JC F)(hR:Qw F r.q r.n 2 (ps.flatMap Di))(hP:WK F ps)(hn:ps.length=r.n)(hl:ps.length<=100000)(hv:∀t∈ps,Jd t.f=0/\t.f.length<=1000000/\PW t.k)(hz:KC (ps.map gO)<=40000000):
  QT prog 45 [r.v] w F (λ(c:Sr×List Zb)=>c.1.v) (λc F=>XN F c.1 c.2 (Xw (ps.map gO))):=by
 obtain⟨q,n,cap⟩:=r;dsimp only[Sr.v]at hn hR ⊢;refine QT.intro (G:=λF=>JC F/\Qw F q n 2 (ps.flatMap Di)/\WK F ps) func45 rfl wy rfl rfl hF (λF' hF'=>⟨hGl.le hF',hR.le hF',hP.le hF'⟩)<|QKO<|wQ rfl<|QKO<|HK tx λm=>wQ rfl<|QG<|wR rfl<|QA (Qg rfl VR)<|QJD rfl<|QJC<|QV<|JW (ι:=QFf ps) [(3,_),(7,_),(8,_)] (λi=>[(9,.int .i64 ((i.i:Nat):Int))]) (λi=>[(m,Zz tx (Hk i.ts))]) (λi F=>GA F i.ts) (λi=>ps.length-i.i) (⟨0,[],av _,WJ.nil⟩) wU wS QJZ (λ_ _ _ h=>by cases h) λi=>?_
 simp only[ae,ah];have hi:=i.le;refine wA 6 I ?_;refine QO I (λhc=>?_) λhc=>?_
 ·have hlt:i.i<ps.length:=wk<|QKc hc
  have hv1:=hv _ (Q3 hlt);have hz1:=zG (ps.map gO) i.i;rw[<-List.map_take]at hz1;have hz2:JQ (gO (el ps i.i)).1<=KC (ps.map gO):=N2 (aa (Q3 hlt));dsimp only[gO]at hz2;have hl1:=hv1.2.2.2;refine QKr 6 I<|QA (Q6 (n:=n) i.i (λF h9=>h9.1.2.1) rfl rfl VR Kv O)<|QA (JX (n:=n) (vs:=[tx (el ps i.i).f,.slice (el ps i.i).r.q (el ps i.i).r.n (el ps i.i).r.cap]) ((i.i)*2) (λF h9=>h9.1.2.1) O rfl Kv I λj v hv=>Jc (f:=Di) (l:=ps) B7 O hv)<|Qc Gi λb5=>QR (vs:=[_,_]) I I I Kv I .here .h2 wT<|QJC<|JK (.cons_cons _ (.cons _ .slnil)) mixed wm<|QK (QD I)<|QK (QH I U2 JR)<|QK (Qf I JR .here .h1)<|QM I (λ_ _ f k=>Yw f k.1.1 ((XI (hv _ (Q3 hlt)).1).1) (wk<|(hv _ (Q3 hlt)).2.1)) λx16=>QK (QH I BW Jz)<|QK (Qf I Jz .here (.skip .h1))<|QM I (λ_ _ f k=>uq f (r:=(el ps i.i).r) (k.1.1.2.2 _ (Q3 hlt)) O) λc19=>I0 I (eO _ _ _) (EH (r:=c19) (x:=x16) i.hI hv1.2.2 O O λF h9=>⟨h9.1.1.1.1,h9.1.1.2,h9.1.2,h9.2⟩) (λn w h=>St.imp h (.cons _ QJZ) λF h=>h.1.1.1) λn20=>Yh _ (λ_ _ f h=>h.2.2) λh20=>?_
  have hI2:WJ (addN i.ts n20) ((ps.take (i.i+1)).map gO):=by
   have:=i.hI.add hv1.2.2 h20;rw[XV hlt,aM];exact this
  refine Q5<|Qk<|QC<|QB<|QA (Qv I I O)<|wB 2 I ?_
  exact Ql (⟨i.i+1,addN i.ts n20,hlt,hI2⟩) (by show ps.length-(i.i+1)<ps.length-i.i;omega) wV (.cons_cons _ (.cons _ .slnil)) λF h=>⟨h.1.1.1.1,h.2.1⟩
 have hge:i.i=ps.length:=wk<|QKd hc
 refine Q2 ?_
 repeat first|refine QY ?_|refine QP wy ?_
 refine QZ<|QKs 4 I ?_
 have hI:=i.hI;rw[hge,aD]at hI;refine XS I (aL _) (Bn hI (by have:=hI.ln;rw[bB]at this;omega) tB) (λc23=>wQ I<|QW ?_);exact QQ (c23) rfl (wN I) (rfl) tB
end
abbrev WR:=Sr×List Zb
variable{ls:List WR}
instance :Inhabited WR:=⟨(⟨none,0,0⟩,[])⟩
def Nx(F:Gs)(ls:List WR):Prop:=∀e∈ls,XN F e.1 e.2 (J3 e.2)
def Nx.le(h:Nx F ls)(k:Gs.le F F'):Nx F' ls:=λe he=>(h e he).le k
def Ey(ls:List WR):List Tm:=ls.flatMap λe=>J3 e.2
structure QIQ(ls:List WR) where
 i:Nat
 ts:List Zb
 le:i<=ls.length
 hI:WJ ts (Ey (ls.take i))
structure I4(l0:List Tm)(te:List Zb) where
 j:Nat
 ts:List Zb
 le:j<=te.length
 hI:WJ ts (l0++J3 (te.take j))
def VH{te:List Zb}(h:j<te.length):J3 (te.take (j+1))=J3 (te.take j)++[(el te j).t]:=by unfold J3;rw[XV h,aM];rfl
def jc(h:i<ls.length):Ey (ls.take (i+1))=Ey (ls.take i)++J3 (el ls i).2:=by unfold Ey;rw[XV h,aX];simp
def cA(h:i<ls.length):KC (Ey (ls.take i)++J3 ((el ls i).2.take j))<=KC (Ey ls):=by
 have e1:Ey ls=Ey (ls.take i)++(J3 (el ls i).2++Ey (ls.drop (i+1))):=by
  have:ls=ls.take i++el ls i::ls.drop (i+1):=by rw[<-Hy h,aS]
  unfold Ey
  conv=>lhs;rw[this]
  rw[aX,bG]
 have e2:J3 (el ls i).2=J3 ((el ls i).2.take j)++J3 ((el ls i).2.drop j):=by unfold J3;rw[<-aM,aS]
 have h1:=congrArg KC e1;have h2:=congrArg KC e2;rw[Zh,Zh]at h1;rw[Zh]at h2;rw[Zh];omega
theorem QBi{p q:WR}(hF:Fits F w)(hGl:JC F)(hP:XN F p.1 p.2 (J3 p.2))(hQ:XN F q.1 q.2 (J3 q.2))(hp:(∀t∈p.2,PW t.t.2)/\∀t∈q.2,PW t.t.2)(hl:p.2.length<=400000000/\q.2.length<=400000000)(hz:KC (J3 p.2++J3 q.2)<=40000000):
  QT prog 53 [p.1.v,q.1.v] w F (λ(c:WR)=>c.1.v) (λc F=>XN F c.1 c.2 (Xw (J3 p.2++J3 q.2))):=by
 have hpw:∀e∈[p,q],(∀t∈e.2,PW t.t.2)/\e.2.length<=400000000/\e.2.length=e.1.n:=by
  intro e he;simp only[aA,aJ,or_false]at he;rcases he with rfl | rfl
  ·exact⟨hp.1,hl.1,hP.2.2.2.2⟩
  exact⟨hp.2,hl.2,hQ.2.2.2.2⟩
 have hall:Ey [p,q]=J3 p.2++J3 q.2:=by simp[Ey]
 rw[<-hall]at hz ⊢;dsimp only[Sr.v];refine QT.intro (G:=λF=>JC F/\Nx F [p,q]) func53 rfl wy rfl rfl hF (λF' hF'=>⟨hGl.le hF',Nx.le (by intro e he;simp only[aA,aJ,or_false]at he;rcases he with rfl | rfl;exact hP;exact hQ) hF'⟩)<|QKO<|wQ rfl<|QKO<|HK tx λm=>wQ rfl<|QG<|wR rfl<|QJD rfl<|Qb rfl (Qz YW) K4 xh rfl rfl λb13=>QA (Qg rfl YW)<|QJD rfl<|QJC<|QV<|JW (ι:=QIQ [p,q]) [(5,_),(13,_),(14,_)] (λi=>[(15,.int .i64 ((i.i:Nat):Int))]) (λi=>[(m,Zz tx (Hk i.ts))]) (λi F=>GA F i.ts) (λi=>2-i.i) (⟨0,[],av _,WJ.nil⟩) wU wS QJZ (λ_ _ _ h=>by cases h) λi=>?_
 simp only[ae,ah];have hi:=i.le;simp only[au,bZ]at hi;refine wA 6 I ?_;refine QO I (λhc=>?_) λhc=>?_
 ·have hlt:i.i<[p,q].length:=by have:=QKc hc;simp only[au,bZ];omega
  have hem:=Q3 hlt;have hpe:=hpw _ hem;have hln:=hpe.2.2;have hln2:=hpe.2.1;refine QKr 6 I<|QA (Q6 (n:=2) i.i (λF h9=>Qw.of (n:=2) (sz:=1) (cs:=[p,q].map λe=>e.1.v) h9.1.2 I) rfl rfl YW K4 (by simpa using hlt))<|QA (JA (n:=2) (i.i*1) (λF h9=>Qw.of (n:=2) (sz:=1) (cs:=[p,q].map λe=>e.1.v) h9.1.2 I) wu rfl K4 (Xa (f:=λe:WR=>e.1.v) (l:=[p,q]) hlt))<|QKq 6 I<|QA (Qg I Vs)<|QKq 4 I<|JW (ι:=I4 (Ey ([p,q].take i.i)) (el [p,q] i.i).2) [(5,_),(13,_),(14,_),(15,_),(19,_),(20,_)] (λi2=>[(21,.int .i64 ((i2.j:Nat):Int))]) (λi2=>[(m,Zz tx (Hk i2.ts))]) (λi2 F=>GA F i2.ts) (λi2=>(el [p,q] i.i).2.length-i2.j) (⟨0,i.ts,av _,by simpa[J3]using i.hI⟩) wX wS QJZ tB λi2=>?_
  simp only[ae,ah];have hj:=i2.le;refine wA 6 I ?_;refine QO I (λhc=>?_) λhc=>?_
  ·have hlt2:i2.j<(el [p,q] i.i).2.length:=wk<|QKc hc
   have htm:=Q3 hlt2;have hz1:=cA (j:=i2.j) hlt;have hz2:JQ (el (el [p,q] i.i).2 i2.j).t.1<=KC (Ey [p,q]):=N2 (List.mem_flatMap.2 ⟨_,hem,aa htm⟩);refine QKr 6 I<|QA (Q6 (n:=(el [p,q] i.i).1.n) (i2.j) (λF h9=>(h9.1.1.1.2 _ hem).1) rfl rfl Vs Xv O)<|QA (JX (n:=(el [p,q] i.i).1.n) (vs:=[.int .i64 (el (el [p,q] i.i).2 (i2.j)).x.n.s,.slice (el (el [p,q] i.i).2 (i2.j)).x.n.q (el (el [p,q] i.i).2 (i2.j)).x.n.n (el (el [p,q] i.i).2 (i2.j)).x.n.cap,.int .i64 (el (el [p,q] i.i).2 (i2.j)).x.d.s,.slice (el (el [p,q] i.i).2 (i2.j)).x.d.q (el (el [p,q] i.i).2 (i2.j)).x.d.n (el (el [p,q] i.i).2 (i2.j)).x.d.cap,.slice (el (el [p,q] i.i).2 (i2.j)).r.q (el (el [p,q] i.i).2 (i2.j)).r.n (el (el [p,q] i.i).2 (i2.j)).r.cap]) ((i2.j)*5) (λF h9=>(h9.1.1.1.2 _ hem).1) O rfl Xv I λj v hv=>Jc (f:=WO) (l:=(el [p,q] i.i).2) Bu O hv)<|Qc GI λb9=>QR (vs:=[_,_,_,_,_]) I I I Xv I .here .h5 wW<|QKq 4 I<|QA (QH I Wx Qa)<|QA (wJ I Qa .here)<|QA (QH I V3 Jz)<|QA (Qf I Jz .here (.skip (.skip (.skip (.skip .h1)))))<|XS I (eO _ _ _) (EH (r:=(el (el [p,q] i.i).2 i2.j).r) (x:=(el (el [p,q] i.i).2 i2.j).x) i2.hI (hpe.1 _ htm) O O λF h9=>⟨h9.1.1.1.1,h9.2,((h9.1.1.1.2 _ hem).2.1 _ htm).1,((h9.1.1.1.2 _ hem).2.1 _ htm).2⟩) λn30=>JN _ (λ_ _ f h=>h.2.2) λh30=>QE<|Qk<|QC<|QB<|QA (Qv I I O) ?_
   refine wB 2 I ?_;exact Ql (⟨i2.j+1,addN i2.ts n30,hlt2,by rw[VH hlt2,<-bS];exact i2.hI.add (hpe.1 _ htm) h30⟩) (by show _-(i2.j+1)<_-i2.j;omega) wY (.cons_cons _ (.cons _ .slnil)) λF h=>⟨h.1.1,h.2.1⟩
  have hge2:i2.j=(el [p,q] i.i).2.length:=wk<|QKd hc
  refine Q2 ?_
  repeat first|refine QY ?_|refine QP wy ?_
  refine QZ<|Qk<|QC<|QB<|QA (Qv I I O)<|wB 2 I ?_
  exact Ql (⟨i.i+1,i2.ts,hlt,by rw[jc hlt];have:=i2.hI;rw[hge2,aD]at this;exact this⟩) (by show 2-(i.i+1)<2-i.i;simp only[au,bZ]at hlt;omega) wV QJZ λF h=>⟨h.1.1,h.2⟩
 have hge:i.i=[p,q].length:=by have:=QKd hc;simp only[au,bZ];omega
 refine Q2 ?_
 repeat first|refine QY ?_|refine QP wy ?_
 refine QZ<|QKs 4 I ?_
 have hI:=i.hI;rw[hge,aD]at hI;refine XS I (aL _) (Bn hI (by have:=hI.ln;rw[hall,ak]at this;simp only[J3,bB]at this;omega) tB) (λc34=>wQ I<|QW ?_);exact QQ (c34) rfl (wN I) (rfl) tB
section
variable{P:Program}{Q:Exit->Act->World->Prop}{N:Nat}{m:Sl}{E0:Env}{ops:Array Oper}{l:List Oper}{w0:World}{F0:Gs}{bs:List (Nat×Obj)}{G:Gs->Prop}
theorem Yi[Dr]{bs':List (Nat×Obj)}(hp:bs.Perm bs')(k:JD P ops Q E0 l N m ⟨w0,F0,bs',G⟩):JD P ops Q E0 l N m ⟨w0,F0,bs,G⟩:=λhE a w ha hw=>k (λw h=>hE w (h.perm hp.symm)) a w ha (hw.perm hp)
end
abbrev Pt:=List (List UInt8×List Int)
def YQ(ts:List MG):Pt:=ts.map λt=>(t.f,t.k)
abbrev AX:=Sr×List MG
def Q7.pos{sz:Nat}{v:Value}{cs:List Value}{ob:List (Nat×Obj)}(h:Q7 T sz v n cs ob)(hn:0<n):∃b cap rest,v = .slice (Option.some ⟨b,0,Option.none⟩) n cap/\ob=[(b,.cells (cs++rest).toArray T (0,0))]/\cs.length=n*sz/\cs.length+rest.length=cap*sz/\n<=cap/\cap<=maxLen:=by
 cases h with
 |nil=>omega
 |some h1 h2 h3 h4=>exact⟨_,_,_,rfl,rfl,h1,h2,h3,h4⟩
structure PmO(p q:List Zb) where
 i:Nat
 ts:List Zb
 le:i<=p.length
 hI:WJ ts (Zr (J3 (p.take i)) (J3 q))
structure PmJ(l0:List Tm)(s:Tm)(q:List Zb) where
 j:Nat
 ts:List Zb
 le:j<=q.length
 hI:WJ ts (l0++K8 s (J3 (q.take j)))
structure PmK(n:Nat)(a b:List Int) where
 k:Nat
 L:List Int
 v:Value
 ob:List (Nat×Obj)
 le:k<=b.length
 hr:Q7 3 1 v n (L.map Jn) ob
 hL:L=Wm (a.take k) (b.take k)++a.drop k
def jh{a b:List Int}(h1:k<a.length)(h2:k<b.length):(Wm (a.take k) (b.take k)++a.drop k).set k (Qm a k+Qm b k)=Wm (a.take (k+1)) (b.take (k+1))++a.drop (k+1):=by
 have hl:(Wm (a.take k) (b.take k)).length=k:=by unfold Wm;rw[fF,aR,aR];omega
 have hs:Wm (a.take (k+1)) (b.take (k+1))=Wm (a.take k) (b.take k)++[Qm a k+Qm b k]:=by
  rw[XV h1,XV h2,Yy h1,Yy h2];unfold Wm;rw[List.zipWith_append (by rw[aR,aR];omega)];rfl
 rw[hs,Hy h1,List.set_append_right _ _ O,hl,iy];simp
def Ip{a b:List Int}(h1:k<a.length)(h2:k<b.length):Qm (Wm (a.take k) (b.take k)++a.drop k) k=Qm a k:=by
 have hl:(Wm (a.take k) (b.take k)).length=k:=by unfold Wm;rw[fF,aR,aR];omega
 have h3:k<(Wm (a.take k) (b.take k)++a.drop k).length:=by rw[ak,hl,List.length_drop];omega
 rw[Yy h3,Yy h1,Ja h3,Ja h1,List.getElem_append_right O];simp[hl]
def RQ{p q:List Zb}(h:i<p.length):Zr (J3 (p.take (i+1))) (J3 q)=Zr (J3 (p.take i)) (J3 q)++K8 (el p i).t (J3 q):=by
 rw[VH h,EO];congr 1;simp[Zr]
def yK{p q:List Zb}(h:i<p.length):KC (Zr (J3 (p.take i)) (J3 q)++K8 (el p i).t (J3 (q.take j)))<=KC (Zr (J3 p) (J3 q)):=by
 have e1:J3 p=J3 (p.take (i+1))++J3 (p.drop (i+1)):=by unfold J3;rw[<-aM,aS]
 have e2:J3 q=J3 (q.take j)++J3 (q.drop j):=by unfold J3;rw[<-aM,aS]
 have h1:KC (Zr (J3 p) (J3 q))=KC (Zr (J3 (p.take (i+1))++J3 (p.drop (i+1))) (J3 q)):=by rw[<-e1]
 rw[EO,RQ h,Zh,Zh]at h1;have h2:KC (K8 (el p i).t (J3 q))=KC (K8 (el p i).t (J3 (q.take j)++J3 (q.drop j))):=by rw[<-e2]
 rw[DQ,Zh]at h2;rw[Zh];omega
def qk(p q:List Tm):(Zr p q).length=p.length*q.length:=by
 induction p with
 |nil=>simp[Zr]
 |cons s p ih=>rw[L3,ak,ih,au,fD];simp[K8];omega
def QBt{a b:Nat}(h:a<=10000)(k:b<=10000):a*b<=100000000:=aY h k
theorem QBd{p q:WR}(hF:Fits F w)(hGl:JC F)(hP:XN F p.1 p.2 (J3 p.2))(hQ:XN F q.1 q.2 (J3 q.2))(hw:(∀t∈p.2,t.t.2.length=N)/\∀t∈q.2,t.t.2.length=N)(hN:N<=1000)(hl:p.2.length<=10000/\q.2.length<=10000)
  (hpw:(∀t∈p.2,PW t.t.2)/\(∀t∈q.2,PW t.t.2)/\∀s∈p.2,∀t∈q.2,PW (Wm s.t.2 t.t.2)) (hz1:KC (J3 p.2)<=20000000/\KC (J3 q.2)<=20000000) (hz:KC (Zr (J3 p.2) (J3 q.2))<=40000000) :
  QT prog 153 [p.1.v,q.1.v] w F (λ(c:WR)=>c.1.v) (λc F=>XN F c.1 c.2 (Xw (Zr (J3 p.2) (J3 q.2)))):=by
 have hpn:=hP.2.2.2.2;have hqn:=hQ.2.2.2.2;dsimp only[Sr.v];refine QT.intro (G:=λF=>JC F/\XN F p.1 p.2 (J3 p.2)/\XN F q.1 q.2 (J3 q.2)) func153 rfl wy rfl rfl hF (λF' hF'=>⟨hGl.le hF',hP.le hF',hQ.le hF'⟩)<|QKO<|wQ rfl<|QKO<|HK tx λm=>wQ rfl<|QG<|wR rfl<|QA (Qg rfl Vs)<|QJD rfl<|QJC<|QV<|JW (ι:=PmO p.2 q.2) [(1,_),(5,_),(14,_),(15,_)] (λi=>[(16,.int .i64 ((i.i:Nat):Int))]) (λi=>[(m,Zz tx (Hk i.ts))]) (λi F=>GA F i.ts) (λi=>p.2.length-i.i) (⟨0,[],av _,WJ.nil⟩) wV wS QJZ (λ_ _ _ h=>by cases h) λi=>?_
 simp only[ae,ah];have hi:=i.le;refine wA 6 I ?_;refine QO I (λhc=>?_) λhc=>?_
 ·have hlt:i.i<p.2.length:=wk<|QKc hc
  have hta:=Q3 hlt;have hna:=hw.1 _ hta;have hra:=(hP.2.1 _ hta).2.2.1;refine QKr 6 I<|QA (Q6 (n:=p.1.n) i.i (λF h9=>(h9.1.2.1).1) rfl rfl Vs Xv O)<|QA (JX (n:=p.1.n) (vs:=[.int .i64 (el p.2 i.i).x.n.s,.slice (el p.2 i.i).x.n.q (el p.2 i.i).x.n.n (el p.2 i.i).x.n.cap,.int .i64 (el p.2 i.i).x.d.s,.slice (el p.2 i.i).x.d.q (el p.2 i.i).x.d.n (el p.2 i.i).x.d.cap,.slice (el p.2 i.i).r.q (el p.2 i.i).r.n (el p.2 i.i).r.cap]) ((i.i)*5) (λF h9=>(h9.1.2.1).1) O rfl Xv I λj v hv=>Jc (f:=WO) (l:=p.2) Bu O hv)<|Qc GI λb7=>QR (vs:=[_,_,_,_,_]) I I I Xv I .here .h5 wW<|QKq 5 I<|QA (Qg I Vs)<|QKq 4 I<|JW (ι:=PmJ (Zr (J3 (p.2.take i.i)) (J3 q.2)) (el p.2 i.i).t q.2) [(1,_),(5,_),(7,_),(14,_),(15,_),(16,_),(20,_),(21,_)] (λi2=>[(22,.int .i64 ((i2.j:Nat):Int))]) (λi2=>[(b7,.cells (WO (el p.2 i.i)).toArray 101 (0,0)),(m,Zz tx (Hk i2.ts))]) (λi2 F=>GA F i2.ts) (λi2=>q.2.length-i2.j) (⟨0,i.ts,av _,by simpa[J3,K8]using i.hI⟩) wZ wS QJZ tB λi2=>?_
  simp only[ae,ah];have hj:=i2.le;refine wA 6 I ?_;refine QO I (λhc=>?_) λhc=>?_
  ·have hlt2:i2.j<q.2.length:=wk<|QKc hc
   have htb:=Q3 hlt2;have hnb:=hw.2 _ htb;have hrb:=(hQ.2.1 _ htb).2.2.1;have hzz:=yK (q:=q.2) (j:=i2.j) hlt;have hza:JQ (el p.2 i.i).t.1<=KC (J3 p.2):=N2 (aa hta);have hzb:JQ (el q.2 i2.j).t.1<=KC (J3 q.2):=N2 (aa htb);refine QKr 6 I<|QA (Q6 (n:=q.1.n) (i2.j) (λF h9=>(h9.1.1.2.2).1) rfl rfl Vs Xv O)<|QA (JX (n:=q.1.n) (vs:=[.int .i64 (el q.2 (i2.j)).x.n.s,.slice (el q.2 (i2.j)).x.n.q (el q.2 (i2.j)).x.n.n (el q.2 (i2.j)).x.n.cap,.int .i64 (el q.2 (i2.j)).x.d.s,.slice (el q.2 (i2.j)).x.d.q (el q.2 (i2.j)).x.d.n (el q.2 (i2.j)).x.d.cap,.slice (el q.2 (i2.j)).r.q (el q.2 (i2.j)).r.n (el q.2 (i2.j)).r.cap]) ((i2.j)*5) (λF h9=>(h9.1.1.2.2).1) O rfl Xv I λj v hv=>Jc (f:=WO) (l:=q.2) Bu O hv)<|Qc GI λb9=>QR (vs:=[_,_,_,_,_]) I I I Xv I .here .h5 wW<|QJC<|QKO<|QA (QH I V3 Jz)<|QA (Qf I Jz .u1 (.skip (.skip (.skip (.skip .h1)))))<|XS I (aL _) (AB (r:=(el p.2 i.i).r) (l:=(el p.2 i.i).t.2) (λF h9=>(h9.1.1.2.1.2.1 _ hta).2) hra O) λc28=>JN _ (λ_ _ f h=>h.2) λh28=>QKq 6 I<|QA (QH I V3 Jz) ?_
   refine QA (Qf I Jz .here (.skip (.skip (.skip (.skip .h1)))))<|QA (Qg I JB)<|QKq 4 I<|JW (ι:=PmK (el p.2 i.i).r.n (el p.2 i.i).t.2 (el q.2 i2.j).t.2) [(1,_),(5,_),(7,_),(9,_),(14,_),(15,_),(16,_),(20,_),(21,_),(22,_),(30,_),(31,_)] (λi3=>[(10,i3.v),(32,.int .i64 ((i3.k:Nat):Int))]) (λi3=>[(b9,.cells (WO (el q.2 i2.j)).toArray 101 (0,0)),(b7,.cells (WO (el p.2 i.i)).toArray 101 (0,0)),(m,Zz tx (Hk i2.ts))]++i3.ob) (λi3 F=>True) (λi3=>(el q.2 i2.j).t.2.length-i3.k) (⟨0,(el p.2 i.i).t.2,c28.1,c28.2,av _,h28,by simp[Wm]⟩) wj wT QJZ w8 λi3=>?_
   simp only[ae,ah];have hk:=i3.le;refine wA 6 I ?_;refine QO I (λhc=>?_) λhc=>?_
   ·obtain⟨k,L,v,ob,hk0,hr,hL⟩:=i3;dsimp only at hk hc ⊢;have hlt3:k<(el q.2 i2.j).t.2.length:=wk<|QKc hc
    have hka:k<(el p.2 i.i).t.2.length:=O;have hLn:L.length=(el p.2 i.i).t.2.length:=by rw[hL];unfold Wm;simp;omega
    have hb1:=(hpw.1 _ hta).el hka;have hb2:=(hpw.2.1 _ htb).el hlt3;obtain⟨b,cap,rest,rfl,rfl,e1,e2,e3,e4⟩:=Q7.pos hr O;have hdL:Qm L k=Qm (el p.2 i.i).t.2 k:=by rw[hL];exact Ip hka hlt3
    refine QKr 7 I<|QA (Q6 (n:=(el q.2 i2.j).r.n) k (λF h9=>(h9.1.1.1.1.2.2.2.1 _ htb).2.1) rfl rfl JB JO O)<|QA (JA (n:=(el q.2 i2.j).r.n) (k*1) (λF h9=>(h9.1.1.1.1.2.2.2.1 _ htb).2.1) O rfl JO (J6 (o:=(el q.2 i2.j).t.2) O))<|QKq 7 I<|QA (JL (i:=k) rfl rfl JB JO O)<|QA (Vz (c:=(L).map Jn++rest) (T':=3) rfl JO .u3 (WQ (by first | omega | (simp only[bc];omega))))<|QJD I<|QA (Qv I I O)<|QA (JL (i:=k) rfl rfl JB JO O)<|QR (vs:=[_]) I I I JO I .u3 (DV (by first | omega | (simp only[bc];omega)) ((Qm (L) (k)+Qm (el q.2 i2.j).t.2 k))) wS<|QE<|Qk<|QC ?_
    refine QB<|QA (Qv I I O)<|wB 2 I ?_
    exact Ql (⟨k+1,_,_,_,hlt3,Q7.some (by simpa using e1) (by simpa using e2) e3 e4,by rw[hL,Ip hka hlt3];exact jh hka hlt3⟩) (by show(el q.2 i2.j).t.2.length-(k+1)<(el q.2 i2.j).t.2.length-k;omega) ⟨rfl,rfl,rfl,rfl,rfl,rfl,rfl,rfl,rfl,rfl,rfl,rfl,rfl,rfl,trivial⟩ QJZ λF h=>⟨h.1,trivial⟩
   have hge3:i3.k=(el q.2 i2.j).t.2.length:=wk<|QKd hc
   have hLe:i3.L=Wm (el p.2 i.i).t.2 (el q.2 i2.j).t.2:=by
    have h1:=i3.hL;rw[hge3,aD]at h1;rw[h1,bV O,ay O,eW]
   have hLn:(Wm (el p.2 i.i).t.2 (el q.2 i2.j).t.2).length=(el p.2 i.i).r.n:=by rw[Io O];exact hra
   refine Q2 ?_
   repeat first|refine QY ?_|refine QP wy ?_
   refine QZ<|QKs 3 I<|QA (QH I Wx Qa)<|QA (wJ I Qa .u1)<|QA (QH I Wx Qa)<|QA (wJ I Qa .here)<|QI I (λ_ _ f k=>Wl f ((k.1.1.1.1.2.1.2.1 _ hta).1) ((k.1.1.1.1.2.2.2.1 _ htb).1) O O) λx50=>QJD I ?_
   obtain⟨r,hv,hrn,hrc,hfix⟩:=Q7.fix (w0:=w) (F0:=F) (bs1:=[(b9,.cells (WO (el q.2 i2.j)).toArray 101 (0,0)),(b7,.cells (WO (el p.2 i.i)).toArray 101 (0,0)),(m,Zz tx (Hk i2.ts))]) (G:=_) i3.hr;refine YB hfix ?_;rw[hv];refine Zi (eP (l₁:=[_,_]) (l₂:=[]))<|XS I (aL _) (EH (r:=r) (x:=x50) i2.hI (hpw.2.2 _ hta _ htb) (wk<|Xp (el p.2 i.i).t.1 (el q.2 i2.j).t.1) O λF h9=>⟨h9.1.1.1.1.1.1.1,h9.1.1.1.1.2,⟨h9.1.2.1,h9.1.2.2⟩,by rw[hrn,<-hLe];exact h9.2,by rw[hrn];exact hLn,by rw[hrn];exact hrc⟩) λn52=>JN _ (λ_ _ f h=>h.2.2) λh52=>Zi (bs':=[_,_,_]) (eP (l₁:=[_,_]) (l₂:=[])).symm<|QE<|Qk<|QC<|QB<|QA (Qv I I O)<|wB 2 I ?_
   exact Ql (⟨i2.j+1,addN i2.ts n52,hlt2,by rw[VH hlt2,DQ,<-bS];exact i2.hI.add (hpw.2.2 _ hta _ htb) h52⟩) (by show q.2.length-(i2.j+1)<q.2.length-i2.j;omega) we (.cons _ QJZ) λF h=>⟨h.1.1.1.1.1.1,h.2.1⟩
  have hge2:i2.j=q.2.length:=wk<|QKd hc
  refine Q2 ?_
  repeat first|refine QY ?_|refine QP wy ?_
  refine QZ<|Qk<|QC<|QB<|QA (Qv I I O)<|wB 2 I ?_
  exact Ql (⟨i.i+1,i2.ts,hlt,by rw[RQ hlt];have:=i2.hI;rw[hge2,aD]at this;exact this⟩) (by show p.2.length-(i.i+1)<p.2.length-i.i;omega) wW (.cons _ QJZ) λF h=>⟨h.1.1,h.2⟩
 have hge:i.i=p.2.length:=wk<|QKd hc
 refine Q2 ?_
 repeat first|refine QY ?_|refine QP wy ?_
 refine QZ<|QKs 4 I ?_
 have hI:=i.hI;rw[hge,aD]at hI;refine XS I (aL _) (Bn hI (by have h1:=hI.ln;rw[qk]at h1;simp only[J3,bB]at h1;have h2:=QBt hl.1 hl.2;omega) tB) (λc56=>wQ I<|QW ?_);exact QQ (c56) rfl (wN I) (rfl) tB
def Yc(ts:List Zb):(J3 ts).length=ts.length:=by simp[J3]
def Ba(v:Int):Int:=if decide (v<0)=true\/decide (v>24)=true then 3 else 0
def B3(v:Int):Ba v=0↔0<=v/\v<=24:=by unfold Ba;simp only[decide_eq_true_eq];split<;>omega
def jT{v:Int}(h:¬v<0):Ba v=if decide (v>24)=true then 3 else 0:=by unfold Ba;simp[h]
def GD(l:List Int):Int:=(l.map λk=>if 13<k then 13 else k).sum
def Y6(f:List UInt8)(l:List Int)(v:Int):Int :=
 if(l.length:Int)≠v+1 then 2 else if l.any (λk=>decide (k<0))=true then 3 else Qp [if decide (GD l>12)=true then 4 else 0,Jd f]
def LG(h:i<l.length):GD (l.take (i+1))=GD (l.take i)+(if 13<Qm l i then 13 else Qm l i):=by
 unfold GD;rw[XV h,aM,eV,Yy h];simp
theorem Ml(l:List Int)(h:∀k∈l,0<=k):0<=GD l/\GD l<=13*l.length:=by
 induction l with
 |nil=>simp[GD]
 |cons x l ih =>
  have h1:=ih λk hk=>h k (by simp[hk]);have h2:=h x wz;have e:GD (x::l)=(if 13<x then 13 else x)+GD l:=by unfold GD;rw[ag,bT]
  rw[e,au];split<;>omega
structure QGg(l:List Int) where
 i:Nat
 le:i<=l.length
 nn:∀k∈l.take i,0<=k
def xS(h:i<l.length)(hn:Qm l i<0):l.any (λk=>decide (k<0))=true:=by
 rw[eQ];exact⟨el l i,Q3 h,by rw[<-Yy h];exact decide_eq_true hn⟩
def uy(h:∀k∈l,0<=k):¬l.any (λk=>decide (k<0))=true:=by
 rw[eQ];rintro⟨k,hk,e⟩;have:=QKc e;have:=h k hk;omega
theorem jS{v:Int}(hF:Fits F w):Qe prog 128 [.int .i64 v] w F (.int .i64 (Ba v)):=by
 refine QT.intro (G:=λF=>True) func128 rfl wy rfl rfl hF w8<|QKO<|wQ rfl<|wR rfl<|QA (QU rfl rfl rfl)<|QJD rfl ?_
 refine Qs (t:=5) rfl (λhb5=>?_) λhb5=>?_
 ·refine wB 3 I<|QI I (λ_ _ f _=>Px f ) λ_=>wQ I<|QW ?_
  exact QKx I I (congrArg (aB .i64) (by unfold Ba;simp_all)) w8
 refine wB 5 I<|QI I (λ_ _ f _=>Px f ) λ_=>wQ I<|QW ?_
 exact QKx I I (congrArg (aB .i64) (jT (QKd hb5))) w8
theorem uc{f:List UInt8}{q:Option Addr}{v:Int}(hF:Fits F w)(hGl:JC F)(hR:XD F ⟨q,n,cap⟩ l)(hf:f.length<=1000000)(hl:l.length<=1000000)(hv : -1000000<=v/\v<=1000000):Qe prog 228 [.agg #[tx f,.slice q n cap],.int .i64 v] w F (.int .i64 (Y6 f l v)):=by
 have hln:l.length=n:=hR.2.1;refine QT.intro (G:=λF=>JC F/\XD F ⟨q,n,cap⟩ l) func228 rfl wy rfl rfl hF (λF' hF'=>⟨hGl.le hF',hR.le hF'⟩)<|QKO<|Qu rfl (vs:=[_,_]) rfl λb2=>wQ rfl<|QG<|QKO<|QA (QH rfl BW Jz)<|QA (Qf rfl Jz .here (.skip .h1))<|QA (Qg rfl JB)<|QJD rfl<|QA (Qv rfl rfl O)<|QA (QU rfl rfl rfl)<|QE<|QC ?_
 refine QO I (λhc=>?_) λhc=>?_
 ·have hne:=bne_iff_ne.1 hc;refine wA 6 I ?_;exact QKx I I (congrArg (aB .i64) (by unfold Y6;rw[if_pos (by rw[hln];exact hne)])) w8
 have heq:=bne_eq_false_iff_eq.1 hc;refine QKr 10 I<|QA (QH I BW Jz)<|QA (Qf I Jz .here (.skip .h1))<|QA (Qg I JB)<|QKq 4 I<|XM (ι:=QGg l) [(2,_),(15,_),(16,_)] (λi=>[(5,.int .i64 (GD (l.take i.i))),(17,.int .i64 ((i.i:Nat):Int))]) (λi=>l.length-i.i) (⟨0,av _,wz⟩) wU wT λi=>?_
 simp only[ae,ah];have hi:=i.le;have hb:=Ml _ i.nn;rw[aR]at hb;refine wA 6 I ?_;refine QO I (λhc=>?_) λhc=>?_
 ·have hlt:i.i<l.length:=wk<|QKc hc
  refine QKr 6 I<|QA (Q6 (n:=n) i.i (λF h9=>(h9.2).1) rfl rfl JB JO O)<|QA (JA (n:=n) ((i.i)*1) (λF h9=>(h9.2).1) O rfl JO (J6 (o:=l) O))<|QKq 10 I ?_
  refine QO I (λhc=>?_) λhc=>?_
  ·have hng:=QKc hc;refine wA 6 I ?_
   repeat first|refine Q4 ?_|refine Qy ?_
   exact QKx I I (congrArg (aB .i64) (by unfold Y6;rw[if_neg (by rw[hln];exact λh=>h heq),if_pos (xS hlt hng)])) w8
  have hng:=QKd hc;refine QKr 5 I<|QA (gk I I)<|QA (Qv I I O)<|wB 2 I<|Qk<|QC<|QB<|QA (Qv I I O)<|wB 2 I ?_
  exact Ql (⟨i.i+1,hlt,by intro k hk;rw[XV hlt]at hk;rcases List.mem_append.1 hk with hk | hk;exact i.nn k hk;rw[List.mem_singleton.1 hk,<-Yy hlt];omega⟩) (by show l.length-(i.i+1)<l.length-i.i;omega) ⟨rfl,rfl,rfl,(congrArg (λz:Int=>some (aB .i64 z)) (LG hlt).symm),rfl,trivial⟩ QJZ w9
 have hge:i.i=l.length:=wk<|QKd hc
 refine Q2 ?_
 repeat first|refine QY ?_|refine QP wy ?_
 refine QZ<|QC<|QG<|JK QJZ mixed wm ?_
 rw[hge,aD];have hnn:=i.nn;rw[hge,aD]at hnn;refine QK (QD I)<|QK (QU I I I)<|QM I (λ_ _ f k=>Px f ) λ_=>QK (QH I U2 JR)<|QK (Qf I JR .here .h1)<|QM I (λ_ _ f k=>B5 f k.1.1 (hf)) λ_=>?_
 refine Qo I (Qz ZL) YT H5 I I (λb34=>?_) (λw h=>h.imp tC λF h=>h.1.1);refine QM I (λ_ _ g k=>Ck g (Qw.of (cs:=fu Jn [if decide (GD l>12)=true then 4 else 0,Jd f]) k.2 I) wu) (λ_=>QK (QF I)<|Q5<|QC<|QW ?_);exact QKx I I (congrArg (aB .i64) (by unfold Y6;rw[if_neg (by rw[hln];exact λh=>h heq),if_neg (uy hnn)])) w8
theorem Ro{a b:Int}(h:Qp [a,b]=0):a=0/\b=0:=by
 unfold Qp at h;by_cases g:a=0
 ·rw[if_pos g]at h;unfold Qp at h;by_cases k:b=0
  ·exact⟨g,k⟩
  rw[if_neg k]at h;exact⟨g,h⟩
 rw[if_neg g]at h;exact absurd h g
def GC(p:Pt)(v:Int)(i:Nat):Int :=
 let e:=Qp [Y6 (el p i).1 (el p i).2 v,if((el p i).1==[48])=true then 6 else 0]
 if e=0/\0<i/\0<=Gg (el p (i-1)).2 (el p i).2 then 11 else e
def Zp(p:Pt)(v:Int):Int:=if decide ((p.length:Int)>64)=true then 5 else Qp ((aj p.length).map (GC p v))
def ZG(h:i<n):el (aj n) i=i:=by rw[Ja (by simpa using h)];simp
def Il{ts:List MG}(h:i<ts.length):el (YQ ts) i=((el ts i).f,(el ts i).k):=by rw[Ja (by simpa[YQ]using h),Ja h];simp[YQ]
theorem Oe(h:∀k∈l,0<=k)(hc:GD l<=12):∀k∈l,k<=12:=by
 induction l with
 |nil=>intro k hk;cases hk
 |cons x l ih =>
  have hl:∀k∈l,0<=k:=λk hk=>h k (by simp[hk]);have h1:=(Ml l hl).1;have h2:=h x wz;have e:GD (x::l)=(if 13<x then 13 else x)+GD l:=by unfold GD;rw[ag,bT]
  rw[e]at hc;intro k hk;rcases List.mem_cons.1 hk with rfl | hk
  ·split at hc<;>omega
  refine ih hl ?_ k hk;split at hc<;>omega
theorem BG{f:List UInt8}{v:Int}(h:Y6 f l v=0):(l.length:Int)=v+1/\(∀k∈l,0<=k/\k<=12)/\GD l<=12/\Jd f=0:=by
 unfold Y6 at h;split at h
 ·omega
 rename_i h1;split at h
 ·omega
 rename_i h2;have hn:∀k∈l,0<=k:=λk hk=>by
  rcases fm k 0 with g | g
  ·exact absurd (List.any_eq_true.2 ⟨k,hk,decide_eq_true g⟩) h2
  exact g
 obtain⟨g1,g2⟩:=Ro h;have hc:GD l<=12:=by
  rcases fm 12 (GD l)with g | g
  ·rw[if_pos (decide_eq_true g)]at g1;omega
  exact g
 exact⟨O,λk hk=>⟨hn k hk,Oe hn hc k hk⟩,hc,g2⟩
theorem Gv{f:List UInt8}{v:Int}(h:Y6 f l v=0)(hv:v<=24):PW l:=by
 obtain⟨h1,h2,_⟩:=BG h;exact⟨λk hk=>wk<|h2 k hk,O⟩
theorem Pl{p:Pt}{v:Int}(h:GC p v i=0):Y6 (el p i).1 (el p i).2 v=0/\(el p i).1≠[48]/\(0<i->Gg (el p (i-1)).2 (el p i).2<0):=by
 unfold GC at h;dsimp only at h;by_cases g:Qp [Y6 (el p i).1 (el p i).2 v,if((el p i).1==[48])=true then 6 else 0]=0/\0<i/\0<=Gg (el p (i-1)).2 (el p i).2
 ·rw[if_pos g]at h;omega
 rw[if_neg g]at h;obtain⟨h1,h2'⟩:=Ro h;have h2:(el p i).1≠[48]:=by
  intro q;rw[if_pos (by rw[q];rfl)]at h2';omega
 refine⟨h1,h2,λhi=>?_⟩;rcases fm (Gg (el p (i-1)).2 (el p i).2) 0 with q | q
 ·exact q
 exact absurd ⟨h,hi,q⟩ g
structure xA(p:Pt)(v:Int)(n:Nat) where
 i:Nat
 le:i<=n
 z:∀j,j<i->GC p v j=0
def xA.scan{p:Pt}{v:Int}{n:Nat}(s:xA p v n):ZK (aj n) (GC p v):=⟨s.i,by rw[eK];exact s.le,by
 have key:∀i,i<=n->(∀j,j<i->GC p v j=0)->Qp ((aj n).map (GC p v))=Qp (((aj n).map (GC p v)).drop i):=by
  intro i
  induction i with
  |zero=>intro _ _;rfl
  |succ i ih =>
   intro hi hz;rw[ih O (λj hj=>hz j O),Ww w6 (by simp;exact hz i O)]
 exact key s.i s.le s.z⟩
def De{p:Pt}{v x:Int}{n:Nat}(hn:p.length=n)(hp:¬(n:Int)>64)(s:xA p v n)(h:s.i<n)(hs:GC p v s.i=x)(hx:x≠0):Zp p v=x:=by
 unfold Zp;rw[hn,if_neg (by rw[decide_eq_true_eq];exact hp),s.scan.hit (by rw[eK];exact h) (by rw[show s.scan.i=s.i from rfl,ZG h,hs];exact hx),show s.scan.i=s.i from rfl,ZG h,hs]
def O7{p:Pt}{v:Int}{n:Nat}(hn:p.length=n)(hp:¬(n:Int)>64)(s:xA p v n)(h:n<=s.i):Zp p v=0:=by
 unfold Zp;rw[hn,if_neg (by rw[decide_eq_true_eq];exact hp),s.scan.stop (by rw[eK];exact h)]
def step_eq{v E:Int}(h:i<ps.length)(hE:Qp [Y6 (el ps i).f (el ps i).k v,if((el ps i).f==[48])=true then 6 else 0]=E):GC (YQ ps) v i=if E=0/\0<i/\0<=Gg (el ps (i-1)).k (el ps i).k then 11 else E:=by
 unfold GC;rw[Il h,Il (show i-1<ps.length by omega)];dsimp only;rw[hE]
theorem kZ{q:Option Addr}{v:Int}(hF:Fits F w)(hGl:JC F)(hR:Qw F q n 2 (ps.flatMap Di))(hP:WK F ps)(hln:ps.length=n)(hf:∀t∈ps,t.f.length<=1000000/\t.k.length<=1000000)(hl:ps.length<=1000000)(hv:0<=v/\v<=24):Qe prog 131 [.slice q n cap,.int .i64 v] w F (.int .i64 (Zp (YQ ps) v)):=by
 have hal:(YQ ps).length=n:=by unfold YQ;rw[bB];exact hln
 refine QT.intro (G:=λF=>JC F/\Qw F q n 2 (ps.flatMap Di)/\WK F ps) func131 rfl wy rfl rfl hF (λF' hF'=>⟨hGl.le hF',hR.le hF',hP.le hF'⟩)<|QKO<|wQ rfl<|QG<|wR rfl<|QA (Qg rfl VR)<|QA (QU rfl rfl rfl)<|QE<|QC ?_
 refine QO I (λhc=>?_) λhc=>?_
 ·have hbig:=hc;refine wA 6 I ?_;exact QKx I I (congrArg (aB .i64) (by unfold Zp;rw[hal,if_pos hbig])) w8
 have hbig:=QKd hc;refine QKr 6 I<|QA (Qg I VR)<|QKq 4 I<|XM (ι:=xA (YQ ps) v n) [(0,_),(1,_),(11,_),(12,_)] (λi=>[(13,.int .i64 ((i.i:Nat):Int))]) (λi=>n-i.i) (⟨0,av _,λj hj=>absurd hj (ia _)⟩) wV wS λi=>?_
 simp only[ae,ah];have hi:=i.le;refine wA 6 I ?_;refine QO I (λhc=>?_) λhc=>?_
 ·have hlt:i.i<n:=wk<|QKc hc
  have htm:el ps i.i∈ps:=Q3 O;refine QKr 7 I<|QA (Q6 (n:=n) i.i (λF h9=>h9.2.1) rfl rfl VR Kv O)<|QA (JX (n:=n) (vs:=[tx (el ps i.i).f,.slice (el ps i.i).r.q (el ps i.i).r.n (el ps i.i).r.cap]) ((i.i)*2) (λF h9=>h9.2.1) O rfl Kv I λj v hv=>Jc (f:=Di) (l:=ps) B7 O hv)<|Qc Gi λb6=>QJE I<|QR (vs:=[_,_]) I I I Kv I .here .h2 wT<|QJC<|QG<|JK QJZ mixed wm<|QK (wH I Kv .here)<|QK (QD I)<|QM I (λ_ _ g h=>uc g (h.1) (f:=(el ps i.i).f) (l:=(el ps i.i).k) (h.2.2 _ htm) ((hf _ htm).1) ((hf _ htm).2) O) λ_=>QK (QH I U2 JR)<|QK (Qf I JR .here .h1)<|QK (VD I I)<|QM I (λ_ _ f k=>Px f ) λ_=>?_
  refine Qo I (Qz ZL) YT H5 I I (λb25=>?_) (λw h=>h.imp tC λF h=>h.1.1);refine QM I (λ_ _ g h=>Ck g (Qw.of (cs:=fu Jn [Y6 (el ps i.i).f (el ps i.i).k v,if((el ps i.i).f==[48])=true then 6 else 0]) h.2 I) wu) (λ_=>QK (QF I)<|Q5<|QKs 3 I<|JK QJZ mixed wm ?_);generalize hE:Qp [Y6 (el ps i.i).f (el ps i.i).k v,if((el ps i.i).f==[48])=true then 6 else 0]=E;have hst:=step_eq (v:=v) (show i.i<ps.length by omega) hE;refine QK (QD I)<|QK (QU I I I)<|QK (QD I) ?_
  refine E7 (t:=29) rfl (λhb29=>?_) λhb29=>?_
  ·refine X9 I I<|QK (QD I)<|X9 I I<|QK (QU I I I)<|QK (Qj I I I)<|QK (QD I) ?_
   refine E7 (t:=33) rfl (λhb33=>?_) λhb33=>?_
   ·refine X9 I I<|QK (QD I)<|X9 I I<|QK (QD I)<|X9 I I<|QK (X6 I I O)<|X9 I I ?_
    have hi0:0<i.i:=wk<|QKc hb33
    refine QK (Q6 (n:=n) ((i.i-1)) (λF h9=>h9.1.1.1.1.2.1) rfl wM VR Kv O)<|X9 I I<|QK (QH I BW Jz)<|X9 I I<|QK (JA (n:=n) (((i.i-1))*2+1) (λF h9=>h9.1.1.1.1.2.1) O rfl Jz (Jc (f:=Di) (l:=ps) B7 O rfl))<|X9 I I<|QK (QH I BW Jz)<|X9 I I<|QK (Qf I Jz .here (.skip .h1))<|X9 I I ?_
    have hz0:=(Pl (i.z (i.i-1) O)).1;rw[Il (show i.i-1<ps.length by omega)]at hz0;have hE0:E=0:=eq_of_beq hb29;obtain⟨hz1,_⟩:=Ro (hE.trans hE0);have htm0:el ps (i.i-1)∈ps:=Q3 O;refine QM I (λ_ _ f k=>RT f (ra:=(el ps (i.i-1)).r) (rb:=(el ps i.i).r) (k.1.1.1.1.2.2 _ htm0) (k.1.1.1.1.2.2 _ htm) (Gv hz0 hv.2) (Gv hz1 hv.2)) (λ_=>X9 I I<|QK (QU I I I)<|QK (Qj I I I)<|Q5<|QC ?_);refine QO I (λhc=>?_) λhc=>?_
    ·have h44:=QKc hc;refine QKr 10 I ?_;refine QO I (λhc=>?_) λhc=>?_
     ·refine wA 7 I ?_
      repeat first|refine Q4 ?_|refine Qy ?_
      exact QKx I I (congrArg (aB .i64) (De hal hbig i hlt (by first | (rw[hst];exact if_pos ⟨eq_of_beq hb29,wk<|QKc hb33,h44⟩) | (rw[hst];exact if_neg λh=>h44 h.2.2) | (rw[hst];exact if_neg λh=>wk<|QKd hb33) | (rw[hst];exact if_neg λh=>by rw[h.1]at hb29;cases hb29)) (bne_iff_ne.1 hc))) w8
     refine QN<|Qk<|QC<|QB<|QA (Qv I I O)<|wB 2 I ?_
     exact Ql (⟨i.i+1,hlt,λj hj=>by
      rcases bI j i.i with g | g
      ·exact i.z j g
      rw[show j=i.i from by omega];first | exact absurd hc wu | (rw[hst,if_neg (λh=>h44 h.2.2)];exact bne_eq_false_iff_eq.1 hc) | (rw[hst,if_neg (λh=>wk<|QKd hb33)];exact bne_eq_false_iff_eq.1 hc) | (rw[hst,if_neg (λh=>by rw[h.1]at hb29;cases hb29)];exact bne_eq_false_iff_eq.1 hc)⟩) (by show n-(i.i+1)<n-i.i;omega) wW (.cons _ .slnil) λF h=>h.1.1.1.1.1
    have h44:=QKd hc;refine QKr 8 I ?_;refine QO I (λhc=>?_) λhc=>?_
    ·refine wA 7 I ?_
     repeat first|refine Q4 ?_|refine Qy ?_
     exact QKx I I (congrArg (aB .i64) (De hal hbig i hlt (by first | (rw[hst];exact if_pos ⟨eq_of_beq hb29,wk<|QKc hb33,h44⟩) | (rw[hst];exact if_neg λh=>h44 h.2.2) | (rw[hst];exact if_neg λh=>wk<|QKd hb33) | (rw[hst];exact if_neg λh=>by rw[h.1]at hb29;cases hb29)) (bne_iff_ne.1 hc))) w8
    refine QN<|Qk<|QC<|QB<|QA (Qv I I O)<|wB 2 I ?_
    exact Ql (⟨i.i+1,hlt,λj hj=>by
     rcases bI j i.i with g | g
     ·exact i.z j g
     rw[show j=i.i from by omega];first | exact absurd hc wu | (rw[hst,if_neg (λh=>h44 h.2.2)];exact bne_eq_false_iff_eq.1 hc) | (rw[hst,if_neg (λh=>wk<|QKd hb33)];exact bne_eq_false_iff_eq.1 hc) | (rw[hst,if_neg (λh=>by rw[h.1]at hb29;cases hb29)];exact bne_eq_false_iff_eq.1 hc)⟩) (by show n-(i.i+1)<n-i.i;omega) wW (.cons _ .slnil) λF h=>h.1.1.1.1.1
   refine XP I I I<|XP I I I<|XP I I I<|XP I I I<|XP I I I<|XP I I I<|XP I I I<|XP I I I<|XP I I I<|XP I I I<|QK (Qd I I I)<|Q5<|QC<|YV I<|QKr 8 I ?_
   refine QO I (λhc=>?_) λhc=>?_
   ·refine wA 7 I ?_
    repeat first|refine Q4 ?_|refine Qy ?_
    exact QKx I I (congrArg (aB .i64) (De hal hbig i hlt (by first | (rw[hst];exact if_pos ⟨eq_of_beq hb29,wk<|QKc hb33,h44⟩) | (rw[hst];exact if_neg λh=>h44 h.2.2) | (rw[hst];exact if_neg λh=>wk<|QKd hb33) | (rw[hst];exact if_neg λh=>by rw[h.1]at hb29;cases hb29)) (bne_iff_ne.1 hc))) w8
   refine QN<|Qk<|QC<|QB<|QA (Qv I I O)<|wB 2 I ?_
   exact Ql (⟨i.i+1,hlt,λj hj=>by
     rcases bI j i.i with g | g
     ·exact i.z j g
     rw[show j=i.i from by omega];first | exact absurd hc wu | (rw[hst,if_neg (λh=>h44 h.2.2)];exact bne_eq_false_iff_eq.1 hc) | (rw[hst,if_neg (λh=>wk<|QKd hb33)];exact bne_eq_false_iff_eq.1 hc) | (rw[hst,if_neg (λh=>by rw[h.1]at hb29;cases hb29)];exact bne_eq_false_iff_eq.1 hc)⟩) (by show n-(i.i+1)<n-i.i;omega) wW (.cons _ .slnil) λF h=>h.1.1.1.1
  refine XP I I I<|XP I I I<|QK (Qd I I I)<|QK (QD I)<|XP I I I<|XP I I I<|XP I I I<|XP I I I<|XP I I I<|XP I I I<|XP I I I<|XP I I I<|XP I I I<|XP I I I<|QK (Qd I I I)<|Q5<|QC<|YV I<|QKr 7 I ?_
  refine QC ?_;refine QO I (λhc=>?_) λhc=>?_
  ·refine wA 7 I ?_
   repeat first|refine Q4 ?_|refine Qy ?_
   exact QKx I I (congrArg (aB .i64) (De hal hbig i hlt (by first | (rw[hst];exact if_pos ⟨eq_of_beq hb29,wk<|QKc hb33,h44⟩) | (rw[hst];exact if_neg λh=>h44 h.2.2) | (rw[hst];exact if_neg λh=>wk<|QKd hb33) | (rw[hst];exact if_neg λh=>by rw[h.1]at hb29;cases hb29)) (bne_iff_ne.1 hc))) w8
  refine QN<|Qk<|QC<|QB<|QA (Qv I I O)<|wB 2 I ?_
  exact Ql (⟨i.i+1,hlt,λj hj=>by
     rcases bI j i.i with g | g
     ·exact i.z j g
     rw[show j=i.i from by omega];first | exact absurd hc wu | (rw[hst,if_neg (λh=>h44 h.2.2)];exact bne_eq_false_iff_eq.1 hc) | (rw[hst,if_neg (λh=>wk<|QKd hb33)];exact bne_eq_false_iff_eq.1 hc) | (rw[hst,if_neg (λh=>by rw[h.1]at hb29;cases hb29)];exact bne_eq_false_iff_eq.1 hc)⟩) (by show n-(i.i+1)<n-i.i;omega) wW (.cons _ .slnil) λF h=>h.1.1.1.1
 have hge:n<=i.i:=wk<|QKd hc
 refine Q2 ?_
 repeat first|refine QY ?_|refine QP wy ?_
 refine QZ<|QKs 7 I ?_
 exact QKx I I (congrArg (aB .i64) (O7 hal hbig i hge)) w8
def Hf(p:Pt)(v:Int):Int:=if Ba v=0 then Zp p v else Ba v
theorem G5{q:Option Addr}{v:Int}(hF:Fits F w)(hGl:JC F)(hR:Qw F q n 2 (ps.flatMap Di))(hP:WK F ps)(hln:ps.length=n)(hf:∀t∈ps,t.f.length<=1000000/\t.k.length<=1000000)(hl:ps.length<=1000000):Qe prog 71 [.slice q n cap,.int .i64 v] w F (.int .i64 (Hf (YQ ps) v)):=by
 refine QT.intro (G:=λF=>JC F/\Qw F q n 2 (ps.flatMap Di)/\WK F ps) func71 rfl wy rfl rfl hF (λF' hF'=>⟨hGl.le hF',hR.le hF',hP.le hF'⟩)<|QKO<|wQ rfl<|QG<|wR rfl<|QI rfl (λ_ _ f k=>jS f ) λ_=>wQ rfl<|wR rfl<|QA (QU rfl rfl rfl)<|QE<|QC ?_
 refine QO I (λhc=>?_) λhc=>?_
 ·have hc0:=bne_iff_ne.1 hc;refine wA 7 I ?_;exact QKx I I (congrArg (aB .i64) (by unfold Hf;rw[if_neg hc0])) w8
 have hc0:=bne_eq_false_iff_eq.1 hc;have hv:=(B3 v).1 hc0;refine QKr 6 I<|QI I (λ_ _ f k=>kZ f (k.1.1) (k.1.2.1) (k.1.2.2) (hln) (hf) (hl) (hv)) λ_=>wQ I<|QW ?_
 exact QKx I I (congrArg (aB .i64) (by unfold Hf;rw[if_pos hc0])) w8
instance :Inhabited AX:=⟨(⟨none,0,0⟩,[])⟩
section
variable[Dr][df:Df]{P:Program}{N:Nat}{m:Sl}{S:World->Prop}{ty:TypeId}
theorem VC{cap:Array Operand}{vs:List Value}(hv:MD m cap.toList=some vs):Qt P N m S (.makeFunc (.func g) #[] cap) ty (.func (.func g) #[] vs.toArray):=λa w _ _ _ _ ha _=>by
 have:=ha.MD hv;have e:cap.map a.eval=vs.toArray:=by rw[<-this];apply fH;simp
 simp[execOp,Instr.makeFunc,e]
end
def I3(F:Gs)(ls:List AX):Prop:=∀e∈ls,Qw F e.1.q e.1.n 2 (e.2.flatMap Di)/\WK F e.2
def I3.le{ls:List AX}(h:I3 F ls)(k:Gs.le F F'):I3 F' ls:=λe he=>⟨(h e he).1.le k,(h e he).2.le k⟩
def AL(e:AX):Prop:=e.2.length=e.1.n/\(∀t∈e.2,t.f.length<=1000000/\t.k.length<=1000000)/\e.2.length<=1000000
def X3(p:Pt):List Tm:=p.map λx=>(Qh x.1,x.2)
def Ap(ts:List MG):ts.map gO=X3 (YQ ts):=by simp[X3,YQ,gO]
theorem QBO{l:List Tm}(h:∀t∈l,JQ t.1<=k):KC l<=l.length*(k+1):=by
 induction l with
 |nil=>simp[KC]
 |cons x l ih =>
  have e:KC (x::l)=JQ x.1+1+KC l:=by unfold KC;rw[ag,bT]
  have h1:=ih λt ht=>h t (by simp[ht]);have h2:=h x wz;rw[e,au,fD];omega
def Sq{a b:List Int}(h:Gg a b<0):before a b=true:=by rw[B4];exact decide_eq_true h
theorem GM[Inhabited α]{R:α->α->Prop}(ht:∀a b c,R a b->R b c->R a c):∀(l:List α),(∀i,0<i->i<l.length->R (el l (i-1)) (el l i))->l.Pairwise R
 |[],_=>ee
 |x::l,h=>by
  have ih:=GM ht l λi h0 hi=>by
   have:=h (i+1) O w6;have e1:el (x::l) (i+1)=el l i:=rfl;have e2:el (x::l) (i+1-1)=el l (i-1):=by
    obtain⟨j,rfl⟩:∃j,i=j+1:=⟨i-1,O⟩;rfl
   rw[e1,e2]at this;exact this
  refine List.pairwise_cons.2 ⟨?_,ih⟩;cases l with
  |nil=>intro y hy;cases hy
  |cons z l =>
   have hz:R x z:=h 1 O wz;intro y hy;rcases List.mem_cons.1 hy with rfl | hy
   ·exact hz
   exact ht _ _ _ hz ((List.pairwise_cons.1 ih).1 y hy)
structure D3(p:Pt)(v:Int):Prop where
 len:p.length<=64
 term:∀x∈p,Y6 x.1 x.2 v=0
 can:Canon (X3 p)
theorem EE{p:Pt}{v:Int}(h:Zp p v=0):D3 p v:=by
 unfold Zp at h;split at h
 ·omega
 rename_i hl;have hl':p.length<=64:=by rw[decide_eq_true_eq]at hl;omega
 have hz:∀i,i<p.length->GC p v i=0:=by
  have key:∀(l:List Int),Qp l=0->∀x∈l,x=0:=by
   intro l
   induction l with
   |nil=>intro _ x hx;cases hx
   |cons a l ih =>
    intro h x hx;unfold Qp at h;by_cases g:a=0
    ·rw[if_pos g]at h;rcases List.mem_cons.1 hx with rfl | hx
     ·exact g
     exact ih h x hx
    rw[if_neg g]at h;exact absurd h g
  intro i hi;exact key _ h _ (List.mem_map.2 ⟨i,by simpa using hi,rfl⟩)
 have hs:=λi hi=>Pl (hz i hi);have hel:∀x∈p,∃i,i<p.length/\el p i=x:=λx hx=>by
  obtain⟨i,hi,e⟩:=fG hx;exact⟨i,hi,by rw[Ja hi];exact e⟩
 refine⟨hl',λx hx=>?_,⟨?_,λt ht=>?_⟩⟩
 ·obtain⟨i,hi,rfl⟩:=hel x hx;exact(hs i hi).1
 ·unfold X3;rw[eH];refine GM (R:=λa b:List UInt8×List Int=>before a.2 b.2=true) (λa b c h k=>before_trans h k) p λi h0 hi=>?_;exact Sq ((hs i hi).2.2 h0)
 unfold X3 at ht;obtain⟨x,hx,rfl⟩:=List.mem_map.1 ht;obtain⟨i,hi,rfl⟩:=hel x hx;have h1:=(BG (hs i hi).1).2.2.2;have h2:=(hs i hi).2.1;intro e;have h3:=(XI h1).1;have e':Qh (el p i).1=0:=e;rw[e']at h3;exact h2 (h3.trans FO)
theorem D3.sz{p:Pt}{v:Int}(h:D3 p v):∀t∈X3 p,JQ t.1<=2400:=λt ht=>by
 unfold X3 at ht;obtain⟨x,hx,rfl⟩:=List.mem_map.1 ht;exact YM (BG (h.term x hx)).2.2.2
def D3.KC{p:Pt}{v:Int}(h:D3 p v):YtpmehagnedbkhaaGreatDoor.KC (X3 p)<=160000:=by
 have h1:=QBO h.sz;have h2:(X3 p).length<=64:=by unfold X3;rw[bB];exact h.len
 have:=fC 2401 h2;omega
theorem N5{a:AX}{v:Int}(hF:Fits F w)(hGl:JC F)(hR:Qw F a.1.q a.1.n 2 (a.2.flatMap Di))(hP:WK F a.2)(ht:AL a)(ho:D3 (YQ a.2) v)(hv:0<=v/\v<=24):
  QT prog 45 [a.1.v] w F (λ(c:WR)=>c.1.v) (λc F=>XN F c.1 c.2 (X3 (YQ a.2))):=by
 have hs:=ho.KC;have h:=pE hF hGl (r:=a.1) (ps:=a.2) hR hP ht.1 (by have:=ho.len;simp[YQ]at this;omega) (λt htm=>?_) (by rw[Ap];omega)
 ·rw[Ap,RW ho.can]at h;exact h
 have h1:=ho.term (t.f,t.k) (List.mem_map.2 ⟨t,htm,rfl⟩);exact⟨(BG h1).2.2.2,(ht.2.1 t htm).1,Gv h1 hv.2⟩
def XN.len{s:Sr}{p:List Tm}(h:XN F s ts p):ts.length=p.length:=by rw[<-h.2.2.1];simp[J3]
def O1{p:List Tm}{Q:Tm->Prop}(h:J3 ts=p)(hq:∀t∈p,Q t):∀t∈ts,Q t.t:=λt ht=>hq _ (h ▸ aa ht)
def jO(v:Nat)(t:Tm):List Tm:=if 0<Qm t.2 v then[(t.1*((Qm t.2 v:Int):Rat),t.2.set v (Qm t.2 v-1))]else[]
def Yz(v:Nat)(l:List Tm):List Tm:=l.flatMap (jO v)
structure QIN(v:Nat)(ps:List Zb) where
 i:Nat
 ts:List Zb
 le:i<=ps.length
 hI:WJ ts (Yz v (J3 (ps.take i)))
def Tn{v:Nat}{ps:List Zb}(h:i<ps.length):Yz v (J3 (ps.take (i+1)))=Yz v (J3 (ps.take i))++jO v (el ps i).t:=by
 rw[VH h];unfold Yz;rw[aX];simp
def ui(v:Nat)(ps:List Zb)(i:Nat):KC (Yz v (J3 (ps.take i)))<=KC (Yz v (J3 ps)):=by
 have e:J3 ps=J3 (ps.take i)++J3 (ps.drop i):=by unfold J3;rw[<-aM,aS]
 have h:KC (Yz v (J3 ps))=KC (Yz v (J3 (ps.take i)++J3 (ps.drop i))):=by rw[<-e]
 unfold Yz at h ⊢;rw[aX,Zh]at h;omega
theorem PW.set(h:PW l){v:Nat}(hk:0<Qm l v):PW (l.set v (Qm l v-1)):=by
 refine⟨λx hx=>?_,by rw[bc];exact h.2⟩;rcases List.mem_or_eq_of_mem_set hx with hx | rfl
 ·exact h.1 x hx
 by_cases hv:v<l.length
 ·have:=h.el hv;omega
 have:Qm l v=0:=by simp[Qm,List.getD];intro h;exact absurd h hv
 omega
theorem O4{x:Int}(h:0<=x/\x<=1000000):sz x<=64:=aU (KZ (b:=1000000) O) wu
theorem ko(v:Nat)(l:List Tm):(Yz v l).length<=l.length:=by
 unfold Yz
 induction l with
 |nil=>simp
 |cons t l ih =>
  rw[bG,ak,au];have:(jO v t).length<=1:=by unfold jO;split<;>simp
  omega
theorem L6{p:WR}{v:Nat}(hF:Fits F w)(hGl:JC F)(hP:XN F p.1 p.2 (J3 p.2))(hp:∀t∈p.2,PW t.t.2/\v<t.t.2.length)(hl:p.2.length<=100000)(hzt:∀t∈p.2,JQ t.t.1<=20000000)(hz:KC (Yz v (J3 p.2))<=40000000):
  QT prog 152 [p.1.v,.int .i64 (v:Nat)] w F (λ(c:WR)=>c.1.v) (λc F=>XN F c.1 c.2 (Xw (Yz v (J3 p.2)))):=by
 have hpn:=hP.2.2.2.2;dsimp only[Sr.v];refine QT.intro (G:=λF=>JC F/\XN F p.1 p.2 (J3 p.2)) func152 rfl wy rfl rfl hF (λF' hF'=>⟨hGl.le hF',hP.le hF'⟩)<|QKO<|wQ rfl<|QG<|QB ?_
 refine HK tx (λm=>?_);refine QKq 7 I<|QA (Qg I Vs)<|QKq 4 I ?_
 refine JW (ι:=QIN v p.2) [(1,_),(5,_),(11,_),(12,_)] (λi=>[(13,.int .i64 ((i.i:Nat):Int))]) (λi=>[(m,Zz tx (Hk i.ts))]) (λi F=>GA F i.ts) (λi=>p.2.length-i.i) (⟨0,[],av _,WJ.nil⟩) wV wS QJZ (λ_ _ _ h=>by cases h) (λi=>?_);simp only[ae,ah];have hi:=i.le;refine wA 6 I ?_;refine QO I (λhc=>?_) λhc=>?_
 ·have hlt:i.i<p.2.length:=wk<|QKc hc
  have htm:=Q3 hlt;have hp1:=hp _ htm;have hra:=(hP.2.1 _ htm).2.2.1;have hdl:=ui v p.2 i.i;have hzz:=hzt _ htm;have hb1:=hp1.1.el hp1.2;have hl2:=hp1.1.2;refine QKr 6 I<|QA (Q6 (n:=p.1.n) i.i (λF h9=>(h9.1.2).1) rfl rfl Vs Xv O)<|QA (JX (n:=p.1.n) (vs:=[.int .i64 (el p.2 i.i).x.n.s,.slice (el p.2 i.i).x.n.q (el p.2 i.i).x.n.n (el p.2 i.i).x.n.cap,.int .i64 (el p.2 i.i).x.d.s,.slice (el p.2 i.i).x.d.q (el p.2 i.i).x.d.n (el p.2 i.i).x.d.cap,.slice (el p.2 i.i).r.q (el p.2 i.i).r.n (el p.2 i.i).r.cap]) ((i.i)*5) (λF h9=>(h9.1.2).1) O rfl Xv I λj v hv=>Jc (f:=WO) (l:=p.2) Bu O hv) ?_
  refine Qc GI (λb7=>?_);refine QR (vs:=[_,_,_,_,_]) I I I Xv I .here .h5 wW<|QJC<|QKO<|QA (QH I V3 Jz)<|QA (Qf I Jz .here (.skip (.skip (.skip (.skip .h1)))))<|QJD I<|QA (Q6 (n:=(el p.2 i.i).r.n) (v) (λF h9=>((h9.1.2.2.1 _ htm).2).1) rfl rfl JB JO O)<|QA (JA (n:=(el p.2 i.i).r.n) ((v)*1) (λF h9=>((h9.1.2.2.1 _ htm).2).1) O rfl JO (J6 (o:=(el p.2 i.i).t.2) O))<|QKq 9 I ?_
  refine QO I (λhc=>?_) λhc=>?_
  ·have hkp:=QKc hc;refine QKO<|QA (QH I V3 Jz)<|QA (Qf I Jz .here (.skip (.skip (.skip (.skip .h1))))) ?_
   refine XS I (aL _) (AB (r:=(el p.2 i.i).r) (l:=(el p.2 i.i).t.2) (λF h9=>(h9.1.2.2.1 _ htm).2) hra O) (λc26=>?_);refine JN _ (λ_ _ f h=>h.2) (λh26=>?_);obtain⟨v26,ob26⟩:=c26;dsimp only at h26 ⊢;obtain⟨bb,cap,rest,rfl,rfl,e1,e2,e3,e4⟩:=Q7.pos h26 O;refine QKq 7 I<|QA (JL (i:=v) rfl rfl JB JO O)<|QA (Vz (c:=((el p.2 i.i).t.2).map Jn++rest) (T':=3) rfl JO .u2 (WQ (by first | omega | (simp only[bc];omega))))<|QA (X6 I I O)<|QA (JL (i:=v) rfl rfl JB JO O)<|QR (vs:=[_]) I I I JO I .u2 (DV (by first | omega | (simp only[bc];omega)) ((Qm ((el p.2 i.i).t.2) (v)-1))) wS<|QE<|QC ?_
   obtain⟨r,hv,hrn,hrc,hfix⟩:=Q7.fix (w0:=w) (F0:=F) (bs1:=[(b7,.cells (WO (el p.2 i.i)).toArray 101 (0,0)),(m,Zz tx (Hk i.ts))]) (G:=_) (Q7.some (T:=3) (sz:=1) (b:=bb) (n:=(el p.2 i.i).r.n) (cap:=cap) (l:=((el p.2 i.i).t.2.set v (Qm (el p.2 i.i).t.2 v-1)).map Jn) (rest:=rest) (by simpa using e1) (by simpa using e2) e3 e4);refine jy hfix ?_;rw[hv];refine JK (.cons_cons _ (.cons _ .slnil)) mixed wm<|QK (QD I)<|QK (QH I Wx Qa)<|QK (wJ I Qa .here)<|QK (QD I) ?_
   refine QM I (λ_ _ f k=>Sk f O O) (λx37=>?_);refine QM I (λw F hF ⟨⟨⟨⟨⟨hGl,hP⟩,hT⟩,_⟩,hrow⟩,⟨h37,h37_⟩⟩=>Wl hF ((hP.2.1 _ htm).1) ⟨by assumption,by assumption⟩ O (by have h2:=GF (Qm (el p.2 i.i).t.2 v);have h3:sz (Qm (el p.2 i.i).t.2 v)<=64:=O4 hb1;omega)) (λx38=>?_);refine QK (QD I) ?_;refine I0 I (eO _ _ _) (EH (r:=r) (x:=x38) i.hI (hp1.1.set hkp) (by have h1:=Xp (el p.2 i.i).t.1 ((Qm (el p.2 i.i).t.2 v:Int):Rat);have h2:=GF (Qm (el p.2 i.i).t.2 v);have h3:sz (Qm (el p.2 i.i).t.2 v)<=64:=O4 hb1;omega) O λF h9=>⟨h9.1.1.1.1.1.1,h9.1.1.1.1.2,⟨h9.2.1,h9.2.2⟩,by rw[hrn];exact h9.1.1.2,by rw[hrn,bc];exact hra,by rw[hrn];exact hrc⟩) (λn w h=>St.imp h (.cons _ QJZ) λF h=>h.1.1.1) (λn40=>?_);refine Yh _ (λ_ _ f h=>h.2.2) (λh40=>?_);have hI2:WJ (addN i.ts n40) (Yz v (J3 (p.2.take (i.i+1)))):=by
    rw[Tn hlt,show jO v (el p.2 i.i).t=[((el p.2 i.i).t.1*((Qm (el p.2 i.i).t.2 v:Int):Rat),(el p.2 i.i).t.2.set v (Qm (el p.2 i.i).t.2 v-1))]from if_pos hkp];exact i.hI.add (hp1.1.set hkp) h40
   refine Q5<|Qk<|QC<|QB<|QA (Qv I I O)<|wB 2 I ?_
   exact Ql (⟨i.i+1,addN i.ts n40,hlt,hI2⟩) (by show p.2.length-(i.i+1)<p.2.length-i.i;omega) wW (.cons_cons _ (.cons _ .slnil)) λF h=>⟨h.1.1.1.1.1.1,h.2.1⟩
  have hkp:=QKd hc;refine QN<|Qk<|QC<|QB<|QA (Qv I I O)<|wB 2 I ?_
  exact Ql (⟨i.i+1,i.ts,hlt,by rw[Tn hlt,show jO v (el p.2 i.i).t=[]from if_neg hkp,eW];exact i.hI⟩) (by show p.2.length-(i.i+1)<p.2.length-i.i;omega) wW (.cons _ QJZ) λF h=>⟨h.1,h.2⟩
 have hge:i.i=p.2.length:=wk<|QKd hc
 refine Q2 ?_
 repeat first|refine QY ?_|refine QP wy ?_
 refine QZ<|QKs 4 I ?_
 have hI:=i.hI;rw[hge,aD]at hI;refine XS I (aL _) (Bn hI (by have h1:=hI.ln;have h2:=ko v (J3 p.2);rw[Yc]at h2;omega) tB) (λc43=>?_);refine wQ I<|QW ?_
 exact QQ (c43) rfl (wN I) (rfl) tB
def N6{a z v r:List Value}(h:z.length=v.length):VF (a++(z++r)) a.length v (a++(v++r)):=by
 have:=VF.mk' a.length (a++(z++r)) v (by simp only[ak];omega);rw[List.take_left,fR,ay O,ah,Nat.add_sub_cancel_left,fR,ay O,ah,<-h,iy,List.drop_zero,bS]at this;exact this
def Ny(F:Gs)(xs:List (Fr×Rat)):Prop:=∀p∈xs,JP F p.1 p.2
def Ny.le{xs:List (Fr×Rat)}(h:Ny F xs)(k:Gs.le F F'):Ny F' xs:=λp hp=>(h p hp).le k
def IJ(xs:List (Fr×Rat)):List Value:=xs.flatMap λp=>KV p.1
instance :Inhabited Fr:=⟨⟨⟨0,none,0,0⟩,⟨1,none,0,0⟩⟩⟩
instance :Inhabited (Fr×Rat):=⟨(default,0)⟩
theorem S1{B:Nat}:∀(l:List Rat) (s:Rat×Rat),JQ s.1<=B->JQ s.2<=B->(∀x∈l,JQ x<=B)->JQ (l.foldl ZN s).1<=B/\JQ (l.foldl ZN s).2<=B
 |[],s,h1,h2,_=>⟨h1,h2⟩
 |x::l,s,h1,h2,h=>by
  have hx:=h x wz;exact S1 l (ZN s x) (by unfold ZN;dsimp only;split<;>assumption) (by unfold ZN;dsimp only;split<;>assumption) λy hy=>h y (by simp[hy])
def kT(x y:Fr):∀v∈KV x++KV y,v.oneCell'=true:=by
 intro v hv;simp only[KV,ae,ah,aA,aJ,or_false]at hv;rcases hv with rfl | rfl | rfl | rfl | rfl | rfl | rfl | rfl<;>rfl
def K7(c:Rat×Rat)(bs:List (Rat×Rat))(ks:List Int)(i:Nat):Rat×Rat:=(aj i).foldl (λa j=>if Qm ks j>0 then JE a (Kf (el bs j) (Qm ks j))else a) c
def Wo(c:Rat×Rat)(bs:List (Rat×Rat))(ks:List Int)(i:Nat):K7 c bs ks (i+1)=if Qm ks i>0 then JE (K7 c bs ks i) (Kf (el bs i) (Qm ks i))else K7 c bs ks i:=by
 unfold K7;rw[List.range_succ,fM];rfl
def Z0(a b:Rat×Rat):Rat×Rat:=(a.1+b.1,a.2+b.2)
def J5(bs:List (Rat×Rat))(l:List Tm):Rat×Rat:=l.foldl (λa t=>Z0 a (K7 (t.1,t.1) bs t.2 t.2.length)) (0,0)
def Xb(a:Rat×Rat)(k:Nat):Prop:=JQ a.1<=k/\JQ a.2<=k
def Xb.mono{l:Nat}(h:Xb a k)(g:k<=l):Xb a l:=⟨aU h.1 g,aU h.2 g⟩
def NR{r:Rat}{l:List Rat}(h:JQ r<=k)(hl:∀x∈l,JQ x<=k):Xb (Yf r l) k:=S1 l (r,r) h h hl
theorem K9(ha:Xb a m)(hb:Xb b n):Xb (JE a b) (m+n):=by
 have h:∀x y:Rat,JQ x<=m->JQ y<=n->JQ (x*y)<=m+n:=λx y h1 h2=>wk<|Xp x y
 unfold JE;refine NR (h _ _ ha.1 hb.1) λx hx=>?_;simp only[aA,aJ,or_false]at hx;rcases hx with rfl | rfl | rfl
 ·exact h _ _ ha.1 hb.2
 ·exact h _ _ ha.2 hb.1
 exact h _ _ ha.2 hb.2
def JG(s:List UInt8×List UInt8):Rat×Rat:=(Qh s.1,Qh s.2)
def Xq(x:Sp):List Value:=KV x.lo++KV x.hi
def Ul(m x:Rat):Rat:=if Z7 x m<0 then x else m
def PD(m x:Rat):Rat:=if Z7 x m>0 then x else m
theorem ZO(r:Rat)(l:List Rat):Yf r l=(l.foldl Ul r,l.foldl PD r):=by
 have:∀(l:List Rat) (a b:Rat),l.foldl ZN (a,b)=(l.foldl Ul a,l.foldl PD b):=by
  intro l
  induction l with
  |nil=>intro a b;rfl
  |cons x l ih=>intro a b;rw[bN,bN,bN];exact ih _ _
 exact this l r r
theorem Mf(hf:∀m x,f m x=m\/f m x=x){P:Rat->Prop}:∀(l:List Rat) (r:Rat),P r->(∀x∈l,P x)->P (l.foldl f r)
 |[],_,h,_=>h
 |x::l,r,h,hl=>Mf hf l (f r x) (by rcases hf r x with e | e<;>rw[e];exact h;exact hl x wz) λy hy=>hl y (by simp[hy])
def QBy(m x:Rat):Ul m x=m\/Ul m x=x:=by unfold Ul;split<;>simp
def QCO(m x:Rat):PD m x=m\/PD m x=x:=by unfold PD;split<;>simp
structure LgI(f:Rat->Rat->Rat)(r:Rat)(l:List Rat) where
 i:Nat
 x:Fr
 s:Rat
 le:i<=l.length
 h:s=(l.take i).foldl f r
def LgI.step{r:Rat}{l:List Rat}(s:LgI f r l)(h:s.i<l.length):f s.s (el l s.i)=(l.take (s.i+1)).foldl f r:=by
 rw[XV h,fM,<-s.h];rfl
def LgI.end_{r:Rat}{l:List Rat}(s:LgI f r l)(h:s.i=l.length):s.s=l.foldl f r:=by
 rw[s.h,h,aD]
theorem V1{x:Fr}{r:Rat}{q:Option Addr}{ps:List (Fr×Rat)}(hF:Fits F w)(h:JP F x r)(hR:Qw F q n 4 (ps.flatMap λe=>KV e.1))(hP:∀p∈ps,JP F p.1 p.2)(hn:ps.length=n)(hb:n<=1000000)(hz:JQ r<=100000000/\∀p∈ps,JQ p.2<=100000000):
  X1 prog 316 [x.v,.slice q n c] w F ((ps.map (·.2)).foldl Ul r):=by
 have hml:(ps.map (·.2)).length=n:=by simpa using hn
 dsimp only[Fr.v];refine QT.intro (G:=λF=>JP F x r/\Qw F q n 4 (ps.flatMap λe=>KV e.1)/\(∀p∈ps,JP F p.1 p.2)) func316 rfl wy rfl rfl hF (λF' hF'=>⟨h.le hF',hR.le hF',λp hp=>(hP p hp).le hF'⟩)<|QKO<|Qu rfl (vs:=[_,_,_,_]) rfl λb2=>Qc XZ λb4=>QJC<|QG<|wR rfl<|QA (Qg rfl XT)<|QJD rfl<|QJC<|QV<|JW (ι:=LgI Ul r (ps.map (·.2))) [(2,_),(4,_),(7,_),(8,_)] (λi=>[(9,.int .i64 ((i.i:Nat):Int))]) (λi=>[(b4,.cells [.int .i64 0,.slice none 0 0,.int .i64 0,.slice none 0 0].toArray 95 (0,0)),(b2,.cells [.int .i64 i.x.n.s,.slice i.x.n.q i.x.n.n i.x.n.cap,.int .i64 i.x.d.s,.slice i.x.d.q i.x.d.n i.x.d.cap].toArray 95 (0,0))]) (λi F=>JP F i.x i.s) (λi=>n-i.i) (⟨0,x,r,av _,rfl⟩) wV wS QJZ tA λi=>?_
 simp only[ae,ah];have hi:=i.le;have hsz:JQ i.s<=100000000:=by rw[i.h];exact Mf (P:=λy=>JQ y<=100000000) QBy _ _ hz.1 λy hy=>by obtain⟨p,hp,rfl⟩:=List.mem_map.1 (ep hy);exact hz.2 p hp
 refine wA 6 I ?_;refine QO I (λhc=>?_) λhc=>?_
 ·have hlt:i.i<ps.length:=wk<|QKc hc
  have hem:=Q3 hlt;have hze:=hz.2 _ hem;have hel:el (ps.map (·.2)) i.i=(el ps i.i).2:=by rw[Ja (by simpa using hlt),Ja hlt];simp
  refine QKr 6 I<|QA (Q6 (n:=n) i.i (λF h9=>h9.1.2.1) rfl rfl XT Qa O)<|QA (JX (n:=n) (vs:=[.int .i64 (el ps i.i).1.n.s,.slice (el ps i.i).1.n.q (el ps i.i).1.n.n (el ps i.i).1.n.cap,.int .i64 (el ps i.i).1.d.s,.slice (el ps i.i).1.d.q (el ps i.i).1.d.n (el ps i.i).1.d.cap]) ((i.i)*4) (λF h9=>h9.1.2.1) O rfl Qa I λj v hv=>Jc (f:=(λe=>KV e.1)) (l:=ps) (λ_=>rfl) O hv)<|Qc XZ λb6=>QR (vs:=[_,_,_,_]) I I I Qa I .here .h4 wV<|QJC<|QKO<|QA (wJ I Qa .here)<|QA (wJ I Qa .u2)<|QI I (λ_ _ f k=>GU (x:=(el ps i.i).1) (y:=i.x) (r:=(el ps i.i).2) (s:=i.s) f (k.1.2.2 _ hem) k.2 hze hsz) λ_=>QKq 3 I ?_
  refine QO I (λhc=>?_) λhc=>?_
  ·have hc16:=QKc hc;refine QB<|QA (wJ I Qa .here)<|QR (vs:=[_,_,_,_]) I I I Qa I .u2 .h4 wV<|QE<|Qk<|QC<|QB<|QA (Qv I I O)<|wB 2 I ?_
   exact Ql (⟨i.i+1,(el ps i.i).1,(el ps i.i).2,O,by rw[<-i.step O,hel];unfold Ul;rw[if_pos hc16]⟩) (by show n-(i.i+1)<n-i.i;omega) wW (.cons _ QJZ) λF ⟨⟨⟨hX,hR,hP⟩,hS⟩,_⟩=>⟨⟨hX,hR,hP⟩,hP _ hem⟩
  have hc16:=QKd hc;refine QN<|Qk<|QC<|QB<|QA (Qv I I O)<|wB 2 I ?_
  exact Ql (⟨i.i+1,i.x,i.s,O,by rw[<-i.step O,hel];unfold Ul;rw[if_neg hc16]⟩) (by show n-(i.i+1)<n-i.i;omega) wW (.cons _ QJZ) λF ⟨⟨⟨hX,hR,hP⟩,hS⟩,_⟩=>⟨⟨hX,hR,hP⟩,hS⟩
 have hge:i.i=(ps.map (·.2)).length:=wk<|QKd hc
 refine Q2 ?_
 repeat first|refine QY ?_|refine QP wy ?_
 refine QZ<|QC<|QKO<|QA (wJ I Qa .u1)<|QR (vs:=[_,_,_,_]) I I I Qa I .here .h4 wV<|QJC<|QW ?_
 exact QQ (i.x) rfl (.JZ (c:=[_,_,_,_]) I Qa .here .nil) (rfl) λF h=>by rw[<-i.end_ hge];exact h.2
theorem Xm{x:Fr}{r:Rat}{q:Option Addr}{ps:List (Fr×Rat)}(hF:Fits F w)(h:JP F x r)(hR:Qw F q n 4 (ps.flatMap λe=>KV e.1))(hP:∀p∈ps,JP F p.1 p.2)(hn:ps.length=n)(hb:n<=1000000)(hz:JQ r<=100000000/\∀p∈ps,JQ p.2<=100000000):
  X1 prog 192 [x.v,.slice q n c] w F ((ps.map (·.2)).foldl PD r):=by
 have hml:(ps.map (·.2)).length=n:=by simpa using hn
 dsimp only[Fr.v];refine QT.intro (G:=λF=>JP F x r/\Qw F q n 4 (ps.flatMap λe=>KV e.1)/\(∀p∈ps,JP F p.1 p.2)) func192 rfl wy rfl rfl hF (λF' hF'=>⟨h.le hF',hR.le hF',λp hp=>(hP p hp).le hF'⟩)<|QKO<|Qu rfl (vs:=[_,_,_,_]) rfl λb2=>Qc XZ λb4=>QJC<|QG<|wR rfl<|QA (Qg rfl XT)<|QJD rfl<|QJC<|QV<|JW (ι:=LgI PD r (ps.map (·.2))) [(2,_),(4,_),(7,_),(8,_)] (λi=>[(9,.int .i64 ((i.i:Nat):Int))]) (λi=>[(b4,.cells [.int .i64 0,.slice none 0 0,.int .i64 0,.slice none 0 0].toArray 95 (0,0)),(b2,.cells [.int .i64 i.x.n.s,.slice i.x.n.q i.x.n.n i.x.n.cap,.int .i64 i.x.d.s,.slice i.x.d.q i.x.d.n i.x.d.cap].toArray 95 (0,0))]) (λi F=>JP F i.x i.s) (λi=>n-i.i) (⟨0,x,r,av _,rfl⟩) wV wS QJZ tA λi=>?_
 simp only[ae,ah];have hi:=i.le;have hsz:JQ i.s<=100000000:=by rw[i.h];exact Mf (P:=λy=>JQ y<=100000000) QCO _ _ hz.1 λy hy=>by obtain⟨p,hp,rfl⟩:=List.mem_map.1 (ep hy);exact hz.2 p hp
 refine wA 6 I ?_;refine QO I (λhc=>?_) λhc=>?_
 ·have hlt:i.i<ps.length:=wk<|QKc hc
  have hem:=Q3 hlt;have hze:=hz.2 _ hem;have hel:el (ps.map (·.2)) i.i=(el ps i.i).2:=by rw[Ja (by simpa using hlt),Ja hlt];simp
  refine QKr 6 I<|QA (Q6 (n:=n) i.i (λF h9=>h9.1.2.1) rfl rfl XT Qa O)<|QA (JX (n:=n) (vs:=[.int .i64 (el ps i.i).1.n.s,.slice (el ps i.i).1.n.q (el ps i.i).1.n.n (el ps i.i).1.n.cap,.int .i64 (el ps i.i).1.d.s,.slice (el ps i.i).1.d.q (el ps i.i).1.d.n (el ps i.i).1.d.cap]) ((i.i)*4) (λF h9=>h9.1.2.1) O rfl Qa I λj v hv=>Jc (f:=(λe=>KV e.1)) (l:=ps) (λ_=>rfl) O hv)<|Qc XZ λb6=>QR (vs:=[_,_,_,_]) I I I Qa I .here .h4 wV<|QJC<|QKO<|QA (wJ I Qa .here)<|QA (wJ I Qa .u2)<|QI I (λ_ _ f k=>GU (x:=(el ps i.i).1) (y:=i.x) (r:=(el ps i.i).2) (s:=i.s) f (k.1.2.2 _ hem) k.2 hze hsz) λ_=>QKq 3 I ?_
  refine QO I (λhc=>?_) λhc=>?_
  ·have hc16:=QKc hc;refine QB<|QA (wJ I Qa .here)<|QR (vs:=[_,_,_,_]) I I I Qa I .u2 .h4 wV<|QE<|Qk<|QC<|QB<|QA (Qv I I O)<|wB 2 I ?_
   exact Ql (⟨i.i+1,(el ps i.i).1,(el ps i.i).2,O,by rw[<-i.step O,hel];unfold PD;rw[if_pos hc16]⟩) (by show n-(i.i+1)<n-i.i;omega) wW (.cons _ QJZ) λF ⟨⟨⟨hX,hR,hP⟩,hS⟩,_⟩=>⟨⟨hX,hR,hP⟩,hP _ hem⟩
  have hc16:=QKd hc;refine QN<|Qk<|QC<|QB<|QA (Qv I I O)<|wB 2 I ?_
  exact Ql (⟨i.i+1,i.x,i.s,O,by rw[<-i.step O,hel];unfold PD;rw[if_neg hc16]⟩) (by show n-(i.i+1)<n-i.i;omega) wW (.cons _ QJZ) λF ⟨⟨⟨hX,hR,hP⟩,hS⟩,_⟩=>⟨⟨hX,hR,hP⟩,hS⟩
 have hge:i.i=(ps.map (·.2)).length:=wk<|QKd hc
 refine Q2 ?_
 repeat first|refine QY ?_|refine QP wy ?_
 refine QZ<|QC<|QKO<|QA (wJ I Qa .u1)<|QR (vs:=[_,_,_,_]) I I I Qa I .here .h4 wV<|QJC<|QW ?_
 exact QQ (i.x) rfl (.JZ (c:=[_,_,_,_]) I Qa .here .nil) (rfl) λF h=>by rw[<-i.end_ hge];exact h.2
structure SF{α:Type}(l:List α)(p:α->Bool) where
 i:Nat
 le:i<=l.length
 z:∀x∈l.take i,p x=false
section
variable{α:Type}[Inhabited α]{l:List α}{p:α->Bool}
def SF.start(l:List α)(p:α->Bool):SF l p:=⟨0,av _,wz⟩
def SF.next(s:SF l p)(h:s.i<l.length)(e:p (el l s.i)=false):SF l p:=⟨s.i+1,h,λx hx=>by
 rw[XV h]at hx;rcases List.mem_append.1 hx with hx | hx
 ·exact s.z x hx
 rw[List.mem_singleton.1 hx];exact e⟩
theorem SF.stop(s:SF l p)(h:l.length<=s.i):¬l.any p=true:=by
 rw[eQ];rintro⟨x,hx,e⟩;have:=s.z x (by rw[bV h];exact hx);rw[this]at e;cases e
end
structure vm(p q:List Tm)(N:Nat):Prop where
 wp:∀t∈p,t.2.length=N
 wq:∀t∈q,t.2.length=N
 lp:p.length<=10000
 lq:q.length<=10000
 pp:∀t∈p,PW t.2
 pq:∀t∈q,PW t.2
 pm:∀s∈p,∀t∈q,PW (Wm s.2 t.2)
 zp:KC p<=20000000
 zq:KC q<=20000000
 zm:KC (Zr p q)<=40000000
theorem yP{p q:WR}(hF:Fits F w)(hGl:JC F)(hP:XN F p.1 p.2 (J3 p.2))(hQ:XN F q.1 q.2 (J3 q.2))(hN:N<=1000)(h:vm (J3 p.2) (J3 q.2) N):
  QT prog 153 [p.1.v,q.1.v] w F (λ(c:WR)=>c.1.v) (λc F=>XN F c.1 c.2 (Xw (Zr (J3 p.2) (J3 q.2)))) :=
 QBd hF hGl hP hQ ⟨λt ht=>h.wp _ (aa ht),λt ht=>h.wq _ (aa ht)⟩ hN ⟨by have:=h.lp;rwa [Yc]at this,by have:=h.lq;rwa [Yc]at this⟩
  ⟨λt ht=>h.pp _ (aa ht),λt ht=>h.pq _ (aa ht),λs hs t ht=>h.pm _ (aa hs) _ (aa ht)⟩ ⟨h.zp,h.zq⟩ h.zm
structure gA(p q:List Tm):Prop where
 pp:∀t∈p,PW t.2
 pq:∀t∈q,PW t.2
 lp:p.length<=400000000
 lq:q.length<=400000000
 zs:KC (p++q)<=40000000
theorem yX{p q:WR}(hF:Fits F w)(hGl:JC F)(hP:XN F p.1 p.2 (J3 p.2))(hQ:XN F q.1 q.2 (J3 q.2))(h:gA (J3 p.2) (J3 q.2)):
  QT prog 53 [p.1.v,q.1.v] w F (λ(c:WR)=>c.1.v) (λc F=>XN F c.1 c.2 (Xw (J3 p.2++J3 q.2))) :=
 QBi hF hGl hP hQ ⟨λt ht=>h.pp _ (aa ht),λt ht=>h.pq _ (aa ht)⟩ ⟨by have:=h.lp;rwa [Yc]at this,by have:=h.lq;rwa [Yc]at this⟩ h.zs
def jz(ws:List WR):List (List Tm):=ws.map λe=>J3 e.2
theorem uh(h:∀x∈l,0<=x)(v:Nat):0<=Qm l v:=by
 by_cases g:v<l.length
 ·rw[YR g];exact h _ (List.getElem_mem g)
 rw[Mk O];exact Int.le_refl _
def xz(h:i<ts.length):(el ts i).t=el (J3 ts) i:=by rw[Ja h,Ja (by simpa[J3]using h)];simp[J3]
structure Open(F:Fence):Prop where
 fn:∀f,F.fn f
 depth:F.depth=none
 calls:∀ {n:Nat} {P:Program} {f:FuncId} {args:Array Value} {w:World} {R:Ending->World->Prop},Calls P f args w R->CallsIn F n P f args w R
 rows:∀ {n:Nat} {P:Program} {row:String} {args:Array Value} {w:World} {R:Value->World->Prop},Rows P row args w R->RowsIn F n P row args w R
theorem TP:Open bP where
 fn:=λ_=>trivial
 depth:=rfl
 calls:=λh=>callsIn_wide.2 h
 rows:=λh c cs _=>by
  obtain⟨v,w',h1,h2⟩:=h c cs;exact⟨v,w',h1,stepsIn_wide.2 h2⟩
def RU(l:Nat):Open (Fence.wide.inRound l) where
 fn:=λ_=>trivial
 depth:=rfl
 calls:=λh=>(callsIn_wide.2 h:CallsIn bP _ _ _ _ _ _)
 rows:=λh=>TP.rows h
section
variable{F:Fence}{P:Program}
theorem Open.op(hF:Open F){o:Oper}(hnd:∀c,o.op≠.defer c){a:Act}{w:World}{K K':Act->World->Prop}{Q1 Q:Exit->Act->World->Prop}(hp:∀c a w,Q1 (.panic c) a w->Q (.panic c) a w)(hl:∀a w,Q1 .outgrown a w->Q .outgrown a w)(hK:∀a w,K a w->K' a w)(h:o.wp P a w K Q1):o.wpIn F 0 P a w K' Q:=by
 unfold Oper.wp at h;unfold Oper.wpIn;refine⟨λf _=>hF.fn f,?_⟩;rw[fU F a.eval o hnd];generalize (execOp a.eval o).run P w=r at *
 have hd:F.depth.isSome=true->1<=0:=λe=>by rw[hF.depth]at e;cases e
 cases r with
 |ok x w' =>
  cases x<;>simp only[Oper.upon,iB]at h ⊢ <;>
   first
    |exact hK _ _ h
    |exact⟨hd,hF.calls (h.mono λe w'' he=>by
      cases e with
      |returned u=>exact hK _ _ he
      |panicked c=>exact hp _ _ _ he
      |outgrown=>obtain⟨a,w,h⟩:=he;exact⟨a,w,hl _ _ h⟩)⟩
    |exact⟨hd,hF.rows (h.mono λ_ _ he=>hK _ _ he)⟩
 |halt x w'=>cases x<;>simp only[Oper.upon,iB]at h ⊢<;>exact hp _ _ _ h
def N9(l:List Oper):Bool:=l.all λo=>match o.op with | .defer _=>false | _=>true
def L9{o:Oper}(h:(match o.op with | .defer _=>false | _=>true)=true):∀c,o.op≠.defer c:=λc e=>by rw[e]at h;cases h
theorem Open.list(hF:Open F){ops:Array Oper}{Q:Exit->Act->World->Prop}(hQ:¬LetsOut Q):∀(l:List Oper) (a:Act) (w:World),N9 l=true->wpList P ops Q l a w->wpListIn F 0 P ops Q l a w
 |[],_,_,_,h=>h
 |o::rest,a,w,hd,h=>by
  simp only[N9,fa,af]at hd;unfold wpList at h;unfold wpListIn;split
  ·rename_i hw;rw[if_pos hw]at h;rcases h with h | ⟨_,h⟩
   ·exact hF.op (L9 hd.1) (λ_ _ _ h=>h) (λ_ _ h=>h) (λa w h=>hF.list hQ rest a w hd.2 h) h
   exact absurd h hQ
  rename_i hw;rw[if_neg hw]at h;exact⟨λf _=>hF.fn f,hF.list hQ rest _ _ hd.2 h⟩
end
section
variable[Dr][df:Df]{F:Fence}{P:Program}{Q:Exit->Act->World->Prop}{N:Nat}{m:Sl}{E:Env}
def JI(F:Fence)(P:Program)(c:Code)(Q:Exit->Act->World->Prop)(N:Nat)(m:Sl)(E:Env):Prop:=∀a w,JH N m a->St E w->c.wpIn F 0 P Q a w
theorem vt{id:Nat}{c:Code}(h:JI F P c (Exit.inBlock id Q) N m E):JI F P (.block id c) Q N m E:=λa w ha hw=>wpIn_block (h a w ha hw)
theorem Tx(hF:Open F){id:Nat}{l:List Oper}(hQ:¬LetsOut Q)(hd:N9 l=true)(h:JS P l.toArray Q l N m E):JI F P (.region id l.toArray false) Q N m E :=
 λa w ha hw=>wpIn_region_lit (hF.list hQ l a w hd (h a w ha hw))
section
variable{w0:World}{F0:Gs}{bs:List (Nat×Obj)}{G:Gs->Prop}{l:Nat}{r:Loop}{f:Obj->List (Nat×Obj)}
theorem St.put(h:St ⟨w0,F0,bs,G⟩ w){b:Nat}{o:Obj}(o':Obj)(ho:Own bs b o f)(hn:∀c fr,o'≠.cells c 289 fr):St ⟨w0,F0,f o',G⟩ (w.putObj b o'):=by
 obtain⟨pre,post,e1,e2⟩:=ho.split;subst e1;rw[e2];exact h.write pre ⟨rfl,rfl,rfl,rfl,rfl⟩ hn
theorem cL{body:Code}{Qr:Exit->Act->World->Prop}(ho:Own bs l (.loop r) f)(hr:r.state = .ready)(k:JI F P body Qr N m ⟨w0,F0,f (.loop { r with state:=.busy }),G⟩):
  Fin (Exit.then (λa₁ w₁=>∃w₂,(fO l).run P w₁ = .ok () w₂/\body.wpIn F 0 P Qr a₁ w₂) λ_ _ _=>False) .normal N m ⟨w0,F0,bs,G⟩ :=
 λa w ha hw=>⟨_,run_beginRound (hw.own ho) hr,k a _ ha (hw.put _ ho λc fr e=>by cases e)⟩
theorem cJ{R:Ending->World->Prop}(ho:Own bs l (.loop r) f)(k:∀w,St ⟨w0,F0,f (.loop { r with state:=.ready,pending:=none }),G⟩ w->R (.returned (.bool true)) w):Fin (roundPost P l R) .normal N m ⟨w0,F0,bs,G⟩ :=
 λa w ha hw=>⟨_,_,run_endRound none (hw.own ho),k _ (hw.put _ ho λc fr e=>by cases e)⟩
end
end
section
variable[Dr]{P:Program}{w0:World}{F0:Gs}{bs:List (Nat×Obj)}{G:Gs->Prop}{l:Nat}{r:Loop}{f:Obj->List (Nat×Obj)}
def UO(r:Loop)(vs:Array Value):Act:={ tmps:=(r.params.zip vs).foldl (λtmps (t,a)=>tmps.setIfInBounds t a) r.tmps,defers:=[] }
theorem La{W:World}{vs:Array Value}{R:Ending->World->Prop}{m:Sl}(hst:St ⟨w0,F0,bs,G⟩ W)(ho:Own bs l (.loop r) f)(hsz:vs.size=r.params.size)(hsl:JH N m (UO r vs))
  (h:JI (Fence.wide.inRound l) P r.assign (Exit.then (λa₁ w₁=>∃w₂,(fO l).run P w₁ = .ok () w₂/\r.body.wpIn (Fence.wide.inRound l) 0 P (roundPost P l R) a₁ w₂) λ_ _ _=>False) N m ⟨w0,F0,bs,G⟩) :
  YieldAt bP 0 P l vs W R :=
 ⟨_,_,_,_,run_yield (hst.own ho) hsz,roundIn_of_wpIn trivial (h _ W hsl hst)⟩
end
section
variable[Dr][df:Df]{P:Program}{Q:Exit->Act->World->Prop}{N:Nat}{m:Sl}{E E0:Env}{ops:Array Oper}{l:List Oper}{w0:World}{F0:Gs}{bs:List (Nat×Obj)}{G:Gs->Prop}
def JSI(P:Program)(ops:Array Oper)(Q:Exit->Act->World->Prop)(l:List Oper)(N:Nat)(m:Sl)(E:Env):Prop:=∀a w,JH N m a->St E w->wpListIn bP 0 P ops Q l a w
theorem QCl(hQ:¬LetsOut Q)(hd:N9 l=true)(h:JS P ops Q l N m E):JSI P ops Q l N m E:=λa w ha hw=>TP.list hQ l a w hd (h a w ha hw)
theorem jo{d r:Nat}{args:Array Operand}{tys:Array TypeId}{vs:List Value}{ty:TypeId}{pos:String}{aft:Array Edge}{ι:Type}{E':ι->Env}(hx:ev m x=some (.func (.yield r) #[] #[]))(hv:MD m args.toList=some vs)
  (hy:∀w,St E w->YieldAt bP 0 P r vs.toArray w λe w'=>e = .returned (.bool true)/\∃s,St (E' s) w')
  (k:∀s,JSI P ops Q l N ((d,.bool true)::m) (E' s)) (hd:J2 N (some d)=true:=by rfl):JSI P ops Q (⟨some d,.call ⟨.value x,args,tys⟩,ty,pos,aft,none⟩::l) N m E:=by
 intro a w ha hw;refine wpListIn_plain rfl λK hK=>?_;obtain⟨fn,tmps,assign,body,hr,hR⟩:=hy w hw;refine⟨λf _=>trivial,?_⟩;have e2:args.map a.eval=vs.toArray:=by rw[<-ha.MD hv];apply fH;simp
 have hrun:(execOp a.eval ⟨some d,.call ⟨.value x,args,tys⟩,ty,pos,aft,none⟩).run P w = .ok (.round r fn tmps assign body) w:=by
  simp only[execOp,resolve,ha.ev hx,Deferred.ofValue,ef,fp,bR,invoke,e2];simpa using hr
 rw[fU bP a.eval _ (λc e=>by cases e),hrun];refine⟨λe=>(by cases e),hR.mono ?_⟩;rintro e w' ⟨rfl,s,hs⟩;exact hK _ _ (k s _ w' (ha.put hd (.bool true)) hs)
end
section
variable[Dr]{P:Program}{Q:Exit->Act->World->Prop}{N:Nat}{m:Sl}{w0:World}{F0:Gs}{bs:List (Nat×Obj)}{G:Gs->Prop}
structure vi(N:Nat)(m:Sl)(ps:Array Tmp)(assign body:Code)(r:Loop):Prop where
 state:r.state = .ready
 QJn:r.pending=none
 params:r.params=ps
 assign:r.assign=assign
 body:r.body=body
 QER:JH (df:=DX) N m { tmps:=r.tmps,defers:=[] }
theorem QT.QCJ{f:FuncId}{fn:Func}{c:Code}{args:List Value}{γ:Type}{val:γ->Value}{fact:γ->Gs->Prop}{G:Gs->Prop}(hf:P.funcs[f]?=some fn)(hb:fn.body=some c)(hn:(fn.name == "runtime.NumGoroutine")=false)(hN:fn.ntmps=N)(hl:Nat.ble args.length N=true)
  (hw:Fits F w) (hg:∀F',Gs.le F F'->G F') (h:J (df:=DX) P c (bodyPostM bP 0 P fn (SX w F val fact)) N (SA 0 args) ⟨w,F,[],G⟩):QT P f args w F val fact:=by
 refine⟨enters_of hf hn (by rw[hb];rfl),callsIn_wide.1 (callsIn_of_wp_marks hf hb trivial (wpIn_wide.2 (h _ w ⟨?_,rfl,λt v ht=>?_⟩ (St.start hw hg))))⟩
 ·have:=Nat.le_of_ble_eq_true hl;simp[hN];omega
 obtain⟨_,h2⟩:=Gy args 0 t v ht;have hlt:t<args.length:=by rcases bI t args.length with g | g;exact g;rw[eN,bj g]at h2;cases h2
 simp only[eN]at h2;rw[bJ,if_pos (by simpa using hlt)];simpa using h2
end
section
variable{P:Program}{e:TypeId}
theorem equal_txs{t:TypeId}{f1 f2:Field}(ht:P.underlying t=some (.struct (P.fieldsOf t)))(hp:P.stoodInHeld t=false)(hf:(P.fieldsOf t).toList=[f1,f2])(h1:f1.name ≠ "_" /\ f1.offset=0/\P.underlying f1.type=some .string)(h2:f2.name ≠ "_" /\ f2.offset=1/\P.underlying f2.type=some .string)(w:World)(a b c d:List UInt8):
  (Op.equal t (.agg #[tx a,tx b]) (.agg #[tx c,tx d])).run P w = .ok (decide (a=c)&&decide (b=d)) w:=by
 have hs:∀(f:TypeId),P.underlying f=some .string->∀x y:List UInt8,(Op.equalIn 9999 f (tx x) (tx y)).run P w = .ok (decide (x=y)) w:=λf hf x y=>by
  rw[show(9999:Nat)=9998+1 from rfl,show tx x = .string ⟨x.toArray⟩from rfl,show tx y = .string ⟨y.toArray⟩from rfl,run_equalIn_string w 9998 f _ _ hf];congr 1;rw[fb,fb,bh];simp
 show(Op.equalIn (9999+1) t _ _).run P w=_;rw[run_equalIn_struct w 9999 t _ _ ht hp,hf];have p1:∀x y:List UInt8,(part f1.type #[tx x,tx y] 0).run P w = .ok (tx x) w:=λx y=>by simp[part,isAgg,run_underlying h1.2.2]
 have p2:∀x y:List UInt8,(part f2.type #[tx x,tx y] 1).run P w = .ok (tx y) w:=λx y=>by simp[part,isAgg,run_underlying h2.2.2]
 simp only[Op.eqFields,h1.1,h2.1,h1.2.1,h2.2.1,ne_eq,not_false_eq_true,if_true,ef,p1,p2,hs f1.type h1.2.2,hs f2.type h2.2.2,bR];by_cases e1:a=c<;>by_cases e2:b=d<;>simp[e1,e2,p2,hs f2.type h2.2.2]
end
section
variable[Dr][df:Df]{P:Program}{Q:Exit->Act->World->Prop}{N:Nat}{m:Sl}{ops:Array Oper}{l:List Oper}{E E':Env}
theorem Iy{w0:World}{F0:Gs}{bs bs':List (Nat×Obj)}{G:Gs->Prop}{E0:Env}(hp:bs.Perm bs')(k:JD P ops Q E0 l N m ⟨w0,F0,bs',G⟩):JD P ops Q E0 l N m ⟨w0,F0,bs,G⟩:=λhE a w ha hw=>k (λw h=>hE w (h.perm hp.symm)) a w ha (hw.perm hp)
end
def Lv{m:Sl}{ps:Array Tmp}{assign body:Code}{r:Loop}(h:vi N m ps assign body r):{ ({ r with state:=.busy }:Loop)with state:=.ready,pending:=none }=r:=by
 obtain⟨h1,h2,_,_,_,_⟩:=h;cases r;simp only at h1 h2;subst h1;subst h2;rfl
theorem qS:((prog.fieldsOf 56).toList.map λf=>(f.name,f.offset,f.type))=[("Low",0,41),("High",1,41)]:=wm
theorem Lm:prog.underlying 56=some (.struct (prog.fieldsOf 56)):=wm
theorem qR:prog.stoodInHeld 56=false:=wm
theorem Ln:prog.eqGuardType prog.depth 56=false:=wm
theorem CJ:prog.underlying 41=some .string:=wm
def Le{β:Type}{f:α->β}{l:List α}{x y:β}(h:l.map f=[x,y]):∃a b,l=[a,b]/\f a=x/\f b=y:=by
 match l,h with
 |[a,b],h=>simp only[ag,fg,fz,and_true]at h;exact⟨a,b,rfl,h.1,h.2⟩
theorem equal_span(w:World)(a b c d:List UInt8):(Op.equal 56 (.agg #[tx a,tx b]) (.agg #[tx c,tx d])).run prog w = .ok (decide (a=c)&&decide (b=d)) w:=by
 obtain⟨f1,f2,hf,h1,h2⟩:=Le qS;simp only[eY]at h1 h2;exact equal_txs Lm qR hf ⟨by rw[h1.1];decide,h1.2.1,by rw[h1.2.2];exact CJ⟩ ⟨by rw[h2.1];decide,h2.2.1,by rw[h2.2.2];exact CJ⟩ w a b c d
section
variable[Dr][df:Df]{N:Nat}{m:Sl}{S:World->Prop}{ty:TypeId}
theorem yB{yT:TypeId}{y:Operand}{a b c d:List UInt8}(hx:ev m x=some (.agg #[tx a,tx b]))(hy:ev m y=some (.agg #[tx c,tx d])):Qt prog N m S (.binOp .neq 56 x y yT) ty (.bool (!(decide (a=c)&&decide (b=d)))):=λac w _ _ _ _ ha _=>by
 have h1:=equal_span w a b c d;simp only[execOp,ha.ev hx,ha.ev hy,ef];have h2:(eqGuard .neq 56 x y (.agg #[tx a,tx b]) (.agg #[tx c,tx d])).run prog w = .ok () w:=by
  simp[eqGuard,Ln]
 rw[h2];simp[binOp,h1]
end
def LN(f:List UInt8)(b:Nat)(k:List Int):MG:=⟨f,⟨some ⟨b,0,none⟩,k.length,k.length⟩,k⟩
def j5(b:Nat)(ts:List MG):AX:=(⟨some ⟨b,0,none⟩,ts.length,ts.length⟩,ts)
def Kc{b:Nat}{k:List Int}(h:F b=some ((k.map Jn).toArray,T)):XD F ⟨some ⟨b,0,none⟩,k.length,k.length⟩ k:=⟨Qw.of h wz,rfl,aZ _⟩
def yv{b:Nat}{ts:List MG}(h:∀t∈ts,t.f.length<=1000000/\t.k.length<=1000000)(hl:ts.length<=1000000):AL (j5 b ts):=⟨rfl,h,hl⟩
section
theorem CY{b:Nat}{ts:List MG}(h:F b=some ((ts.flatMap Di).toArray,T)):Qw F (j5 b ts).1.q (j5 b ts).1.n 2 ((j5 b ts).2.flatMap Di) :=
 Qw.of h (D6 (f:=Di) B7 ts)
theorem cX{b:Nat}{ts:List MG}(P:Pt)(hP:YQ ts=P)(hp:∀e∈P,e.1.length<=1000000/\e.2.length<=1000000)(hl:P.length<=1000000):AL (j5 b ts):=by
 refine yv (λt ht=>?_) ?_
 ·have:(t.f,t.k)∈YQ ts:=List.mem_map.2 ⟨t,ht,rfl⟩;rw[hP]at this;exact hp _ this
 have:=congrArg List.length hP;simp only[YQ,bB]at this;omega
def QEq(a:List UInt8):C2 .neq (tx a) (tx a)=some (.bool false):=by simp[C2,tx]
def QFZ{t:MG}(h:XD F t.r t.k):WK F [t]:=λx hx=>by rw[List.mem_singleton.1 hx];exact h
theorem QFY{t:MG}{ts:List MG}(h:XD F t.r t.k)(hs:WK F ts):WK F (t::ts):=λx hx=>by
 rcases List.mem_cons.1 hx with rfl | hx
 ·exact h
 exact hs x hx
variable{w:World}{F:Gs}
end
def Rj(i:Nat):ZV i*((2^i:Int):Rat)=1:=by
 unfold ZV
 induction i with
 |zero=>decide +kernel
 |succ i ih =>
  have e:((2^(i+1):Int):Rat)=((2^i:Int):Rat)*2:=by rw[iA,fZ];rfl
  rw[aO,e];have h2:aV 1 2*2=1:=wv;rw[show aV 1 2^i*aV 1 2*(((2^i:Int):Rat)*2)=(aV 1 2^i*((2^i:Int):Rat))*(aV 1 2*2)from by
   rw[bM,bM];congr 1;rw[<-bM,Rat.mul_comm (aV 1 2),bM],ih,h2,fB]
def PE(i:Nat):ZV i≠0:=λe=>jG i (by rw[e];rfl)
def R4(x:Rat)(i:Nat):x/ZV i=x*((2^i:Int):Rat):=by
 have h:=Rj i;rw[iF];congr 1;have h1:=Rat.inv_mul_cancel (ZV i) (PE i)
 calc (ZV i)⁻¹=(ZV i)⁻¹*(ZV i*((2^i:Int):Rat)):=by rw[h,fB]
  _=((ZV i)⁻¹*ZV i)*((2^i:Int):Rat):=by rw[bM]
  _=_:=by rw[h1,iD]
def F7(n:Int)(i:Nat):aV n (2^i)=(n:Rat)*ZV i:=by
 have h:=R4 (((n:Int):Rat)*ZV i) i;have hne:=PE i;rw[eM];have h2:((2^i:Int):Rat)≠0:=λe=>by have:=Rj i;rw[e,ix]at this;exact absurd this wu
 have h3:(ZV i)=(((2^i:Int):Rat))⁻¹:=by
  have h1:=Rat.mul_inv_cancel (((2^i:Int):Rat)) h2
  calc ZV i=ZV i*(((2^i:Int):Rat)*(((2^i:Int):Rat))⁻¹):=by rw[h1,fB]
   _=(ZV i*((2^i:Int):Rat))*(((2^i:Int):Rat))⁻¹:=by rw[bM]
   _=_:=by rw[Rj,iD]
 rw[h3,iF]
def Nk(r:Rat×Rat)(b:Int):Xe r b=(YK r.1 b.toNat,-YK (-r.2) b.toNat):=by
 unfold Xe two YK;rw[F7,F7,R4,R4,Rat.intCast_neg,iE,iE]
theorem Dh(x y:Rat):Z7 x y<=0↔x<=y:=by
 unfold Z7;by_cases h:x<y
 ·rw[if_pos h];exact⟨λ_=>fj h,λ_=>wu⟩
 rw[if_neg h];by_cases e:x=y
 ·rw[if_pos e,e];exact⟨λ_=>aE,λ_=>wu⟩
 rw[if_neg e];refine⟨λk=>absurd k wu,λk=>absurd (Rat.lt_of_le_of_ne k e) h⟩
theorem xN(x y:Rat):Z7 x y>=0↔y<=x:=by
 unfold Z7;by_cases h:x<y
 ·rw[if_pos h];exact⟨λk=>absurd k wu,λk=>absurd k (Rat.not_le.2 h)⟩
 rw[if_neg h];refine⟨λ_=>Rat.not_lt.1 h,λ_=>?_⟩;split<;>decide
def V6(x y:Rat):Z7 x y<0↔x<y:=by
 rw[<-fI,<-xN];omega
def V7(x y:Rat):Z7 x y>0↔y<x:=by
 rw[<-fI,<-Dh];omega
def ZW(x:Rat)(a:Rat×Rat):Prop:=a.1<=x/\x<=a.2
theorem xj(s:Rat×Rat)(x:Rat):(ZN s x).1<=s.1/\s.2<=(ZN s x).2/\ZW x (ZN s x)\/¬s.1<=s.2:=by
 by_cases h:s.1<=s.2
 ·left;unfold ZN ZW;dsimp only;by_cases h1:x<s.1
  ·rw[if_pos ((V6 x s.1).2 h1),if_neg (λk=>by have:=(V7 x s.2).1 k;grind)]
   grind
  rw[if_neg (λk=>h1 ((V6 x s.1).1 k))];by_cases h2:s.2<x
  ·rw[if_pos ((V7 x s.2).2 h2)];grind
  rw[if_neg (λk=>h2 ((V7 x s.2).1 k))];grind
 exact .inr h
theorem NQ:∀(l:List Rat) (s:Rat×Rat),s.1<=s.2->((l.foldl ZN s).1<=s.1/\s.2<=(l.foldl ZN s).2)/\∀y∈l,ZW y (l.foldl ZN s)
 |[],s,_=>⟨⟨aE,aE⟩,λy hy=>by cases hy⟩
 |x::l,s,h=>by
  rcases xj s x with ⟨h1,h2,h3⟩ | h1
  ·obtain⟨⟨g1,g2⟩,g3⟩:=NQ l (ZN s x) (by unfold ZW at h3;grind);unfold ZW at h3;refine⟨⟨aq g1 h1,aq h2 g2⟩,λy hy=>?_⟩;rcases List.mem_cons.1 hy with rfl | hy
   ·exact⟨aq g1 h3.1,aq h3.2 g2⟩
   exact g3 y hy
  exact absurd h h1
def YL{r:Rat}{l:List Rat}(h:y∈r::l):ZW y (Yf r l):=by
 obtain⟨h1,h2⟩:=NQ l (r,r) aE;rcases List.mem_cons.1 h with rfl | h
 ·exact h1
 exact h2 y h
theorem Oi(l:List Rat):∀(s:Rat×Rat),((l.foldl ZN s).1=s.1\/(l.foldl ZN s).1∈l)/\((l.foldl ZN s).2=s.2\/(l.foldl ZN s).2∈l):=by
 induction l with
 |nil=>intro s;exact⟨.inl rfl,.inl rfl⟩
 |cons x l ih =>
  intro s;obtain⟨h1,h2⟩:=ih (ZN s x);rw[bN];have w1:(ZN s x).1=s.1\/(ZN s x).1=x:=by unfold ZN;dsimp only;split;exact .inr rfl;exact .inl rfl
  have w2:(ZN s x).2=s.2\/(ZN s x).2=x:=by unfold ZN;dsimp only;split;exact .inr rfl;exact .inl rfl
  constructor
  ·rcases h1 with h1 | h1
   ·rw[h1];rcases w1 with w | w
    ·exact .inl w
    exact .inr (by rw[w];exact aC)
   exact .inr (ar _ h1)
  rcases h2 with h2 | h2
  ·rw[h2];rcases w2 with w | w
   ·exact .inl w
   exact .inr (by rw[w];exact aC)
  exact .inr (ar _ h2)
def Gh(r:Rat)(l:List Rat):(Yf r l).1∈r::l/\(Yf r l).2∈r::l:=by
 obtain⟨h1,h2⟩:=Oi l (r,r);unfold Yf;refine⟨?_,?_⟩
 ·rcases h1 with h | h
  ·rw[h];exact aC
  exact ar _ h
 rcases h2 with h | h
 ·rw[h];exact aC
 exact ar _ h
def Zc(a b:Rat×Rat):Prop:=b.1<=a.1/\a.1<=a.2/\a.2<=b.2
def zP(h1:ZW a.1 b)(h2:ZW a.2 b)(h:a.1<=a.2):Zc a b:=⟨h1.1,h,h2.2⟩
theorem MM(a b:Rat×Rat):(JE a b).1<=(JE a b).2:=by
 have:=YL (r:=a.1*b.1) (l:=[a.1*b.2,a.2*b.1,a.2*b.2]) aC;exact aq this.1 this.2
theorem Z2{x:Rat}(hx:ZW x a)(hy:ZW y b):ZW (x*y) (JE a b):=by
 have c11:ZW (a.1*b.1) (JE a b):=YL wz;have c12:ZW (a.1*b.2) (JE a b):=YL wz;have c21:ZW (a.2*b.1) (JE a b):=YL wz;have c22:ZW (a.2*b.2) (JE a b):=YL wz;generalize JE a b=t at *
 obtain⟨x1,x2⟩:=hx;obtain⟨y1,y2⟩:=hy;unfold ZW at *
 have e1:ZW (a.1*y) t:=by
  rcases bH (a:=0) (b:=a.1)with h | h
  ·have:=ai y1 h;have:=ai y2 h;unfold ZW;grind
  have h':0<=-a.1:=by grind
  have:=ai y1 h';have:=ai y2 h';unfold ZW;grind
 have e2:ZW (a.2*y) t:=by
  rcases bH (a:=0) (b:=a.2)with h | h
  ·have:=ai y1 h;have:=ai y2 h;unfold ZW;grind
  have h':0<=-a.2:=by grind
  have:=ai y1 h';have:=ai y2 h';unfold ZW;grind
 unfold ZW at e1 e2;rcases bH (a:=0) (b:=y)with h | h
 ·have:=aN x1 h;have:=aN x2 h
  grind
 have h':0<=-y:=by grind
 have:=aN x1 h';have:=aN x2 h'
 grind
def ZW.sub{x:Rat}(h:ZW x a)(k:Zc a b):ZW x b:=⟨aq k.1 h.1,aq h.2 k.2.2⟩
def Zc.ends(k:Zc a b):ZW a.1 b/\ZW a.2 b:=⟨⟨k.1,aq k.2.1 k.2.2⟩,⟨aq k.1 k.2.1,k.2.2⟩⟩
def ML{c d:Rat×Rat}(h:Zc a c)(k:Zc b d):Zc (JE a b) (JE c d):=by
 obtain⟨a1,a2⟩:=h.ends;obtain⟨b1,b2⟩:=k.ends;have all:∀z∈[a.1*b.1,a.1*b.2,a.2*b.1,a.2*b.2],ZW z (JE c d):=λz hz=>by
  simp only[aA,aJ,or_false]at hz;rcases hz with rfl | rfl | rfl | rfl
  ·exact Z2 a1 b1
  ·exact Z2 a1 b2
  ·exact Z2 a2 b1
  exact Z2 a2 b2
 obtain⟨h1,h2⟩:=Gh (a.1*b.1) [a.1*b.2,a.2*b.1,a.2*b.2];exact zP (all _ h1) (all _ h2) (MM a b)
def X0{x:Rat}(h0:0<=x)(h:x<=y):∀n:Nat,x^n<=y^n
 |0=>by rw[bw,bw];exact aE
 |n+1=>by
  have ih:=X0 h0 h n;have hx:0<=x^n:=bQ h0;rw[aO,aO];have h1:=ai h hx;have h2:=aN ih (aq h0 h);exact aq h1 h2
theorem neg_pow(x:Rat):∀n:Nat,(-x)^(2*n)=x^(2*n)/\(-x)^(2*n+1) = -(x^(2*n+1))
 |0=>by
  refine⟨by rw[fl,bw,bw],?_⟩;rw[aO,aO,fl,bw,bw];grind
 |n+1=>by
  obtain⟨h1,h2⟩:=neg_pow x n;have e:(-x)^(2*(n+1))=x^(2*(n+1)):=by
   rw[show 2*(n+1)=2*n+1+1 by omega,aO,h2,aO x];grind
  exact⟨e,by rw[aO,e,aO x];grind⟩
theorem zZ(x:Rat):D8 x.num<0↔x<0:=by
 rw[I9];by_cases h:x<0
 ·rw[if_pos h];exact⟨λ_=>h,λ_=>wu⟩
 rw[if_neg h];refine⟨λk=>?_,λk=>absurd k h⟩;split at k<;>omega
theorem I8(x:Rat):D8 x.num>0↔0<x:=by
 rw[I9];by_cases h:x<0
 ·rw[if_pos h];refine⟨λk=>O,λk=>?_⟩;grind
 rw[if_neg h];by_cases e:x=0
 ·rw[if_pos e];refine⟨λk=>O,λk=>?_⟩;grind
 rw[if_neg e];refine⟨λ_=>?_,λ_=>wu⟩;grind
theorem NC{x:Rat}(hx:ZW x a){n:Int}(hn:0<=n):ZW (x^n.toNat) (Kf a n):=by
 have c1:ZW (a.1^n.toNat) (Yf (a.1^n.toNat) [a.2^n.toNat]):=YL wz;have c2:ZW (a.2^n.toNat) (Yf (a.1^n.toNat) [a.2^n.toNat]):=YL wz;unfold Kf;generalize Yf (a.1^n.toNat) [a.2^n.toNat]=t at *
 obtain⟨m,hm⟩:∃m,n.toNat=2*m\/n.toNat=2*m+1:=⟨n.toNat/2,O⟩;obtain⟨x1,x2⟩:=hx;unfold ZW at c1 c2;by_cases hc:(decide (n>0)&&(decide (n%2=0)&&(decide (D8 a.1.num<0)&&decide (D8 a.2.num>0))))=true
 ·rw[if_pos hc];simp only[af,decide_eq_true_eq]at hc;obtain⟨_,h2,h3,h4⟩:=hc;rcases hm with hm | hm
  ·rw[hm]at c1 c2 ⊢;refine⟨?_,?_⟩
   ·rcases bH (a:=0) (b:=x)with h | h
    ·exact bQ h
    rw[<-(neg_pow x m).1];exact bQ (by grind)
   rcases bH (a:=0) (b:=x)with h | h
   ·exact aq (X0 h x2 _) c2.2
   have:=X0 (x:=-x) (y:=-a.1) (by grind) (by grind) (2*m);rw[(neg_pow x m).1,(neg_pow a.1 m).1]at this;exact aq this c1.2
  omega
 rw[if_neg hc];rcases hm with hm | hm
 ·rw[hm]at c1 c2 ⊢;have hside:0<=a.1\/a.2<=0\/m=0:=by
   by_cases h3:a.1<0
   ·by_cases h4:0<a.2
    ·right;right;rcases eF m with g | g
     ·exact g
     exfalso;apply hc;simp only[af,decide_eq_true_eq];exact⟨O,O,(zZ _).2 h3,(I8 _).2 h4⟩
    right;left;grind
   left;grind
  rcases hside with h | h | h
  ·exact⟨aq c1.1 (X0 h x1 _),aq (X0 (aq h x1) x2 _) c2.2⟩
  ·have p1:=X0 (x:=-a.2) (y:=-x) (by grind) (by grind) (2*m);have p2:=X0 (x:=-x) (y:=-a.1) (by grind) (by grind) (2*m);rw[(neg_pow x m).1,(neg_pow a.2 m).1]at p1;rw[(neg_pow x m).1,(neg_pow a.1 m).1]at p2;exact⟨aq c2.1 p1,aq p2 c1.2⟩
  subst h;rw[fl,bw]at c1 ⊢;exact c1
 have odd:∀ {u v:Rat},u<=v->u^(2*m+1)<=v^(2*m+1):=λ{u v} huv=>by
  rcases bH (a:=0) (b:=u)with h | h
  ·exact X0 h huv _
  rcases bH (a:=0) (b:=v)with g | g
  ·have h1:0<=(-u)^(2*m+1):=bQ (by grind);have h2:0<=v^(2*m+1):=bQ g;rw[(neg_pow u m).2]at h1
   grind
  have:=X0 (x:=-v) (y:=-u) (by grind) (by grind) (2*m+1);rw[(neg_pow u m).2,(neg_pow v m).2]at this
  grind
 rw[hm]at c1 c2 ⊢;exact⟨aq c1.1 (odd x1),aq (odd x2) c2.2⟩
theorem yM(a:Rat×Rat)(h:a.1<=a.2){n:Int}(hn:0<=n):(∃x,ZW x a/\(Kf a n).1=x^n.toNat)/\(∃x,ZW x a/\(Kf a n).2=x^n.toNat):=by
 obtain⟨h1,h2⟩:=Gh (a.1^n.toNat) [a.2^n.toNat];have key:∀z∈[a.1^n.toNat,a.2^n.toNat],∃x,ZW x a/\z=x^n.toNat:=λz hz=>by
  simp only[aA,aJ,or_false]at hz;rcases hz with rfl | rfl
  ·exact⟨a.1,⟨aE,h⟩,rfl⟩
  exact⟨a.2,⟨h,aE⟩,rfl⟩
 unfold Kf;refine⟨?_,key _ h2⟩;dsimp only;split
 ·rename_i hc;simp only[af,decide_eq_true_eq]at hc;have h3:=(zZ _).1 hc.2.2.1;have h4:=(I8 _).1 hc.2.2.2;refine⟨0,⟨fj h3,fj h4⟩,?_⟩;obtain⟨m,hm⟩:∃m,n.toNat=m+1:=⟨n.toNat-1,O⟩;rw[hm,aO,ix]
 exact key _ h1
theorem pH(a:Rat×Rat)(h:a.1<=a.2){n:Int}(hn:0<=n):(Kf a n).1<=(Kf a n).2:=by
 have:=NC (x:=a.1) (a:=a) ⟨aE,h⟩ hn;exact aq this.1 this.2
theorem pF(h:Zc a b){n:Int}(hn:0<=n):Zc (Kf a n) (Kf b n):=by
 obtain⟨⟨x,hx,e1⟩,⟨y,hy,e2⟩⟩:=yM a h.2.1 hn;exact zP (by rw[e1];exact NC (hx.sub h) hn) (by rw[e2];exact NC (hy.sub h) hn) (pH a h.2.1 hn)
section
variable{xs:List Rat}{rs bs:List (Rat×Rat)}{ks:List Int}
theorem Af{r q:Rat×Rat}(hr:Zc r q)(hk:∀k∈ks,0<=k)(hx:∀i,i<rs.length->Zc (el rs i) (el bs i)):∀m,m<=rs.length->Zc (K7 r rs ks m) (K7 q bs ks m)
 |0,_=>hr
 |m+1,hm=>by
  have ih:=Af hr hk hx m O;have h0:=uh hk m;rw[Wo,Wo];by_cases g:Qm ks m>0
  ·rw[if_pos g,if_pos g];exact ML ih (pF (hx m O) h0)
  rw[if_neg g,if_neg g];exact ih
theorem Tg{l:List Tm}(hl:∀t∈l,t.2.length<=rs.length/\∀k∈t.2,0<=k)(hx:∀i,i<rs.length->Zc (el rs i) (el bs i)):Zc (J5 rs l) (J5 bs l):=by
 have key:∀(l:List Tm) (r q:Rat×Rat),(∀t∈l,t.2.length<=rs.length/\∀k∈t.2,0<=k)->Zc r q->Zc (l.foldl (λa t=>Z0 a (K7 (t.1,t.1) rs t.2 t.2.length)) r) (l.foldl (λa t=>Z0 a (K7 (t.1,t.1) bs t.2 t.2.length)) q):=by
  intro l
  induction l with
  |nil=>intro r q _ h;exact h
  |cons t l ih =>
   intro r q hl h;obtain⟨h1,h2⟩:=hl t aC;have hv:=Af (r:=(t.1,t.1)) (q:=(t.1,t.1)) ⟨aE,aE,aE⟩ h2 hx t.2.length h1;refine ih _ _ (λu hu=>hl u (ar _ hu)) ?_;unfold Zc Z0 at *
   dsimp only at *
   grind
 exact key l (0,0) (0,0) hl ⟨aE,aE,aE⟩
end
abbrev Jr:=Rat×Rat
def BM(a b:List Jr):List Jr:=(aj a.length).map λk=>Z0 (el a k) (el b k)
def Hl(a b:List Jr)(k i:Nat):Jr:=(aj i).foldl (λs j=>Z0 s (JE (el a j) (el b (k-j)))) (0,0)
def VP(a b:List Jr):List Jr:=(aj a.length).map λk=>Hl a b k (k+1)
def VK(a:Rat)(n:Nat):List Jr:=(a,a)::ib n (0,0)
def ZX(t:Jr):Nat->List Jr
 |0=>[t]
 |n+1=>t::(1,1)::ib n (0,0)
def Ni(y b:List Jr)(n:Nat):List Jr:=(aj n).foldl (λy _=>VP y b) y
def W8(c:Rat)(ks:List Int)(all:List (List Jr))(n i:Nat):List Jr:=(aj i).foldl (λy v=>Ni y (el all v) (Qm ks v).toNat) (VK c n)
def KS(p:List Tm)(all:List (List Jr))(n:Nat):List Jr:=p.foldl (λs t=>BM s (W8 t.1 t.2 all n all.length)) (VK 0 n)
def Jt(rs:List (List Tm))(t:Jr)(box:List Jr):Nat->List (List Jr)
 |0=>box.map λx=>[x]
 |k+1=>(aj box.length).map λi=>el (Jt rs t box k) i++[JE (el (KS (el rs i) (ZX t k::Jt rs t box k) k) k) ((((k+1:Nat):Int):Rat)⁻¹,(((k+1:Nat):Int):Rat)⁻¹)]
def MT(a b:List Jr):(BM a b).length=a.length:=by simp[BM]
def P7(a b:List Jr):(VP a b).length=a.length:=by simp[VP]
def Y0(a:Rat)(n:Nat):(VK a n).length=n+1:=by simp[VK]
def Ew(t:Jr)(n:Nat):(ZX t n).length=n+1:=by cases n<;>simp[ZX]
def G2{β:Type}{f:β->α->β}{P:β->Prop}(hf:∀b a,P b->P (f b a)):∀(l:List α) {b:β},P b->P (l.foldl f b)
 |[],_,h=>h
 |a::l,b,h=>G2 hf l (hf b a h)
theorem BL(y b:List Jr)(n:Nat):(Ni y b n).length=y.length :=
 G2 (P:=λz:List Jr=>z.length=y.length) (λz _ h=>(P7 z b).trans h) (aj n) rfl
theorem Kl(c:Rat)(ks:List Int)(all:List (List Jr))(n i:Nat):(W8 c ks all n i).length=n+1 :=
 G2 (P:=λz:List Jr=>z.length=n+1) (λz v h=>(BL z _ _).trans h) (aj i) (Y0 c n)
theorem KH(p:List Tm)(all:List (List Jr))(n:Nat):(KS p all n).length=n+1 :=
 G2 (P:=λz:List Jr=>z.length=n+1) (λz t h=>(MT z _).trans h) p (Y0 0 n)
def VQ(rs:List (List Tm))(t:Jr)(box:List Jr)(k:Nat):(Jt rs t box k).length=box.length:=by
 cases k<;>simp[Jt]
def YP[Inhabited α]{n i:Nat}(f:Nat->α)(h:i<n):el ((aj n).map f) i=f i:=by
 rw[Ja (by simpa using h)];simp
theorem KY(rs:List (List Tm))(t:Jr)(box:List Jr):∀(k:Nat) {i:Nat},i<box.length->(el (Jt rs t box k) i).length=k+1
 |0,i,h=>by
  show(el (box.map λx=>[x]) i).length=1;rw[Ja (by simpa using h)];simp
 |k+1,i,h=>by
  rw[Jt,YP _ h,ak,KY rs t box k h];rfl
theorem xU{a b c d:Jr}(h:Zc a c)(k:Zc b d):Zc (Z0 a b) (Z0 c d):=by
 obtain⟨h1,h2,h3⟩:=h;obtain⟨k1,k2,k3⟩:=k;refine⟨?_,?_,?_⟩<;>(unfold Z0;grind)
def Zc.self{a:Jr}(h:a.1<=a.2):Zc a a:=⟨aE,h,aE⟩
def Nf(a b:List Jr):Prop:=a.length=b.length/\∀i,i<a.length->Zc (el a i) (el b i)
def Nf.of{f g:Nat->Jr}(h:∀i,i<n->Zc (f i) (g i)):Nf ((aj n).map f) ((aj n).map g) :=
 ⟨wz,λi hi=>by
  have hi':i<n:=by simpa using hi
  rw[YP _ hi',YP _ hi'];exact h i hi'⟩
def Cl(Q d b:Nat)(x:Rat):Prop:=∃z:Int,x=aV z ((Q^d:Nat):Int)/\z.natAbs<=2^b*Q^d
theorem Cl.add{Q d b:Nat}{x:Rat}(h0:0<Q)(hx:Cl Q d b x)(hy:Cl Q d b y):Cl Q d (b+1) (x+y):=by
 obtain⟨z,rfl,h1⟩:=hx;obtain⟨u,rfl,h2⟩:=hy;have hq:((Q^d:Nat):Int)≠0:=wk (eU (n:=d) h0);refine⟨z+u,?_,?_⟩
 ·rw[Rat.divInt_add_divInt _ _ hq hq,<-Int.add_mul,er hq]
 have:(z+u).natAbs<=z.natAbs+u.natAbs:=Int.natAbs_add_le z u;rw[Nat.pow_succ];have e:2^b*2*Q^d=2^b*Q^d+2^b*Q^d:=by rw[fe,iz 2,<-fe,Nat.mul_two]
 omega
theorem Cl.mul{Q d b e:Nat}{x:Rat}(h0:0<Q)(hx:Cl Q d b x)(hy:Cl Q e c y):Cl Q (d+e) (b+c) (x*y):=by
 obtain⟨z,rfl,h1⟩:=hx;obtain⟨u,rfl,h2⟩:=hy;refine⟨z*u,?_,?_⟩
 ·rw[Rat.divInt_mul_divInt,eu];congr 1
 rw[ew,eu,eu]
 calc z.natAbs*u.natAbs<=(2^b*Q^d)*(2^c*Q^e):=aY h1 h2
  _=2^b*2^c*(Q^d*Q^e):=by ac_rfl
theorem Cl.mono{Q d b e:Nat}{x:Rat}(h0:0<Q)(h:Cl Q d b x)(hd:d<=e)(hb:b<=c):Cl Q e c x:=by
 obtain⟨z,rfl,h1⟩:=h;obtain⟨k,rfl⟩:=Nat.le.dest hd;have hq:((Q^d:Nat):Int)≠0:=wk (eU (n:=d) h0);have hk:((Q^k:Nat):Int)≠0:=wk (eU (n:=k) h0);refine⟨z*((Q^k:Nat):Int),?_,?_⟩
 ·rw[eu,ic,er hk]
 rw[ew,eu,bD,<-fe];exact aY (aU h1 (fC _ (Nat.pow_le_pow_right wu hb))) (aZ _)
def Cl.neg{Q d b:Nat}{x:Rat}(h:Cl Q d b x):Cl Q d b (-x):=by
 obtain⟨z,rfl,h1⟩:=h;exact⟨-z,by rw[Rat.neg_divInt],by rw[Int.natAbs_neg];exact h1⟩
theorem Cl.JQ{Q d b:Nat}{x:Rat}(h0:0<Q)(h:Cl Q d b x):JQ x<=b+d*sz (Q:Int)+2:=by
 obtain⟨z,rfl,h1⟩:=h;have hq:((Q^d:Nat):Int)≠0:=wk (eU (n:=d) h0);refine aU (VA hq) ?_;have e:((Q^d:Nat):Int)=(Q:Int)^d:=Int.natCast_pow Q d;have h2:sz ((Q^d:Nat):Int)<=d*sz (Q:Int)+1:=by rw[e];exact Dl _ _
 have h3:sz z<=b+1+sz ((Q^d:Nat):Int):=by
  refine aU (KZ (b:=((2^b:Nat):Int)*((Q^d:Nat):Int)) (by rw[ew,bD,bD];exact h1)) ?_;refine aU (Vx _ _) (Nat.add_le_add_right ?_ _);rw[XE,bD];exact Nat.pow_lt_pow_right wu O
 omega
theorem Cl.of{Q:Nat}(x:Rat)(h0:0<Q)(h:x.den ∣ Q){b:Nat}(hb:sz x.num<=b):Cl Q 1 b x:=by
 obtain⟨k,rfl⟩:=h;have hk:0<k:=Nat.pos_of_mul_pos_left h0 |> λ_=>fJ (by rintro rfl;simp at h0)
 have hk':(k:Int)≠0:=O;refine⟨x.num*k,?_,?_⟩
 ·rw[iG,ic,er hk',Rat.num_divInt_den]
 rw[iG,ew,bD];have h1:=(XE x.num b).1 hb;have h2:k<=x.den*k:=Nat.le_mul_of_pos_left k x.den_pos;exact aY O h2
def Jq(a b:Jr):Jr:=(TX a.1 b.1,TY a.2 b.2)
def DZ(f:Jr->Jr->Jr)(a b:List Jr):List Jr:=(aj a.length).map λi=>f (el a i) (el b i)
def OL(a b:Jr):Bool:=decide (Z7 b.1 a.1<=0)&&decide (Z7 a.2 b.2<=0)
def T8(a b:List Jr):Bool:=(aj a.length).all λi=>OL (el a i) (el b i)
def Jv(l:List Jr):Bool:=l.any λs=>Jo s.1||Jo s.2
def Zt(rs:List (List Tm))(fr t2:Rat)(x on:List Jr):List Jr:=(aj x.length).map λi=>Z0 (el x i) (JE (0,t2-fr) (J5 ((fr,t2)::on) (el rs i)))
def Vb(b:Int)(v n:Jr):Jr :=
 Xe ((Jq v n).1-(((Jq v n).2-(Jq v n).1)*aV 1 4+(((two b:Int):Rat))⁻¹),(Jq v n).2+(((Jq v n).2-(Jq v n).1)*aV 1 4+(((two b:Int):Rat))⁻¹)) b
def DE(rs:List (List Tm))(fr t2:Rat)(x:List Jr)(b:Int):Nat->List Jr->Option (List Jr)
 |0,_=>none
 |k+1,v=>if Jv v=true then none else
  if T8 (Zt rs fr t2 x v) v=true then some ((Zt rs fr t2 x v).map (Xe · b))else DE rs fr t2 x b k (DZ (Vb b) v (Zt rs fr t2 x v))
def YX(rs:List (List Tm))(fr t2:Rat)(x:List Jr)(b:Int):Option (List Jr) :=
 DE rs fr t2 x b 12 (DZ (λu v=>Xe (Jq u v) b) x (Zt rs fr t2 x x))
def Ho(l:List Jr)(h:Rat)(i:Nat):Jr:=(aj i).foldl (λs k=>Z0 s (JE (el l k) (h^k,h^k))) (0,0)
def Zw(rs:List (List Tm))(fr t2:Rat)(x on:List Jr)(n:Nat):List Jr :=
 (aj x.length).map λi=>Z0 (Ho (el (Jt rs (fr,fr) x n) i) (t2-fr) (n+1)) (JE (el (el (Jt rs (fr,t2) on (n+1)) i) (n+1)) ((t2-fr)^(n+1),(t2-fr)^(n+1)))
def Y4(rs:List (List Tm))(fr t2:Rat)(x:List Jr)(n:Nat)(b:Int):Option (List Jr×List Jr) :=
 (YX rs fr t2 x b).map λw=>(w,(Zw rs fr t2 x w n).map (Xe · b))
def Wk(rs:List (List Tm))(n:Nat)(b:Int):Rat->List Jr->List Rat->Option (List (Rat×List Jr×List Jr))
 |_,_,[]=>some []
 |fr,x,e::es=>match Y4 rs fr e x n b with
  |none=>none
  |some (w,l)=>(Wk rs n b e l es).map λr=>(e,w,l)::r
theorem XA:Z1 prog 26=some (true,3):=wm
theorem LZ:J8 prog 26=some [.slice none 0 0,.slice none 0 0,.slice none 0 0]:=wm
theorem gm:Zy prog 26=some [(0,1),(1,1),(2,1)]:=wm
theorem BX:Yo prog 26 0=some (0,22):=wm
theorem Rr:Yo prog 26 1=some (1,23):=wm
theorem Yx:Yo prog 26 2=some (2,24):=wm
theorem TB:Hc prog 72=some 24:=wm
theorem DB:Hc prog 61=some 145:=wm
theorem Xz:Z1 prog 145=some (true,3):=wm
theorem Wh:J8 prog 145=some [.string .empty,.slice none 0 0,.slice none 0 0]:=wm
theorem QCZ:ZM prog 145=some 64:=wm
theorem RR:Zy prog 145=some [(0,1),(1,1),(2,1)]:=wm
theorem Dg:Yo prog 145 0=some (0,41):=wm
theorem SR:Yo prog 145 1=some (1,24):=wm
theorem Mz:Yo prog 145 2=some (2,24):=wm
theorem QA8:Z1 prog 189=some (false,1):=wm
theorem W7:Hc prog 189=some 196:=wm
theorem Qi:Z1 prog 192=some (true,8):=wm
theorem Ji:J8 prog 192=some [.int .i64 0,.slice none 0 0,.int .i64 0,.slice none 0 0,.int .i64 0,.slice none 0 0,.int .i64 0,.slice none 0 0]:=wm
theorem Wd:ZM prog 192=some 128:=wm
theorem Z4:Zy prog 192=some [(0,4),(4,4)]:=wm
theorem Xs:Yo prog 192 0=some (0,95):=wm
theorem Xr:Yo prog 192 1=some (4,95):=wm
theorem JF:Z1 prog 169=some (false,1):=wm
theorem QEC:J8 prog 169=some [.slice none 0 0]:=wm
theorem JM:Hc prog 169=some 192:=wm
theorem XF:Z1 prog 196=some (true,1):=wm
theorem WS:J8 prog 196=some [.slice none 0 0]:=wm
theorem QCX:ZM prog 196=some 24:=wm
theorem yR:Zy prog 196=some [(0,1)]:=wm
theorem Xg:Yo prog 196 0=some (0,169):=wm
theorem BA:Z1 prog 173=some (true,9):=wm
theorem Ox:J8 prog 173=some [.int .i64 0,.slice none 0 0,.int .i64 0,.slice none 0 0,.int .i64 0,.slice none 0 0,.int .i64 0,.slice none 0 0,.slice none 0 0]:=wm
theorem yU:Zy prog 173=some [(0,4),(4,4),(8,1)]:=wm
theorem Bz:Yo prog 173 0=some (0,95):=wm
theorem By:Yo prog 173 1=some (4,95):=wm
theorem Bw:Yo prog 173 2=some (8,169):=wm
theorem QEB:J8 prog 171=some [.slice none 0 0,.slice none 0 0]:=wm
theorem QBf:Zy prog 171=some [(0,1),(1,1)]:=wm
theorem B0:Yo prog 171 0=some (0,107):=wm
theorem uZ:Yo prog 171 1=some (1,169):=wm
theorem UI:Hc prog 174=some 176:=wm
theorem KW:Z1 prog 176=some (true,2):=wm
theorem M4:J8 prog 176=some [.slice none 0 0,.slice none 0 0]:=wm
theorem QCY:ZM prog 176=some 48:=wm
theorem yS:Zy prog 176=some [(0,1),(1,1)]:=wm
theorem uY:Yo prog 176 0=some (0,169):=wm
theorem Co:Yo prog 176 1=some (1,169):=wm
theorem Gj:Z1 prog 109=some (true,5):=wm
theorem Sy:J8 prog 109=some [.slice none 0 0,.slice none 0 0,.slice none 0 0,.int .i64 0,.slice none 0 0]:=wm
theorem QBg:Zy prog 109=some [(0,3),(3,1),(4,1)]:=wm
theorem ua:Yo prog 109 1=some (3,3):=wm
theorem U5:Yo prog 109 2=some (4,107):=wm
theorem RF:Hc prog 359=some 169:=wm
section
open Go Go.RowKit Ig
section
variable[Dr][df:Df]{P:Program}{Q:Exit->Act->World->Prop}{N:Nat}{m:Sl}{l:List Oper}{w0:World}{F0:Gs}{bs bs0:List (Nat×Obj)}{G G0:Gs->Prop}
def Wg:List Nat->List (List Nat)
 |[]=>[[]]
 |i::A=>(Wg A).map (i::·)++Wg A
def K5(l:List Oper)(r u:List Nat):List Nat:=(aj l.length).filter λi=>r.contains i||u.contains i
def cB(l:List Oper)(i:Nat):Option (Nat×TypeId):=match l[i]? with
 |some ⟨some d,.alloc T,_,_,_,none⟩=>some (d,T)
 |_=>none
def dI(l:List Oper)(i:Nat):Nat:=((cB l i).getD (0,0)).1
def tI(l:List Oper)(i:Nat):TypeId:=((cB l i).getD (0,0)).2
def zI(P:Program)(l:List Oper)(i:Nat):Obj:=.cells ((J8 P (tI l i)).getD []).toArray (tI l i) (0,0)
def je(P:Program)(N:Nat)(l:List Oper)(i:Nat):Bool:=(cB l i).isSome&&(J8 P (tI l i)).isSome&&Gc (tI l i)&&J2 N (some (dI l i))
def DW(b:Nat):Value:=.pointer (some ⟨b,0,none⟩)
def okB(l:List Oper)(A r:List Nat)(k:Nat):Bool:=(Wg A).all λu=>(Hg l (K5 l r u)).isNone&&((K5 l r u).filter (Vy l (K5 l r u))).all (λi=>u.contains i||aF i k)&&u.all (λi=>(K5 l r u).contains i&&((K5 l r u).erase i==K5 l r (u.erase i))&&(Wg A).contains (u.erase i))&&((K5 l r u).erase k==K5 l (r.erase k) u)&&!(K5 l r u).isEmpty
def QE3(l:List Oper)(A r:List Nat)(i:Nat):Bool:=(Wg A).all λu=>!(u.contains i)||((Hg l (K5 l r u)).isNone&&((K5 l r u).filter (Vy l (K5 l r u))).all (λj=>u.contains j)&&u.all (λj=>(K5 l r u).contains j&&((K5 l r u).erase j==K5 l r (u.erase j))&&(Wg A).contains (u.erase j))&&!(K5 l r u).isEmpty)
def mxI(l:List Oper)(A u:List Nat)(β:Nat->Nat):Sl:=(A.filter λi=>!(u.contains i)).map λi=>(dI l i,DW (β i))
def xP(P:Program)(l:List Oper)(A u:List Nat)(β:Nat->Nat):List (Nat×Obj):=(A.filter λi=>!(u.contains i)).map λi=>(β i,zI P l i)
def KT(P:Program)(l:List Oper)(Q:Exit->Act->World->Prop)(S0:World->Prop)(A r:List Nat)(N:Nat)(m:Sl)(w0:World)(F0:Gs)(bs:List (Nat×Obj))(G:Gs->Prop):Prop :=
 ∀(u:List Nat) (β:Nat->Nat) (a:Act) (w:World),u∈Wg A->JH N m a->(∀i∈A,i∉u->JH N [(dI l i,DW (β i))] a)->St ⟨w0,F0,xP P l A u β++bs,G⟩ w->Gd P l Q S0 (K5 l r u).length (K5 l r u) a w
theorem JH.TI{a:Act}(h:JH N m a){d:Nat}(hd:J2 N (some d)=true)(v:Value)(hm:look m d=none):JH N m (a.put (some d) v):=by
 have h1:=h.put hd v;refine⟨h1.size,h1.df,λt x ht=>h1.get t x ?_⟩;show(bif aF d t then some v else look m t)=some x;have:aF d t=false:=by
  cases e:aF d t with
  |false=>rfl
  |true=>have:=aG e;subst this;rw[hm]at ht;cases ht
 rw[this];exact ht
theorem Vt{d t:Nat}{v:Value}:look [(d,v)] t=(bif aF d t then some v else none):=rfl
theorem DR:∀ {A u:List Nat},u∈Wg A->∀i∈u,i∈A
 |[],u,h,i,hi=>by simp only[Wg,eC]at h;subst h;cases hi
 |a::A,u,h,i,hi=>by
  simp only[Wg,bY,eI]at h;rcases h with ⟨v,hv,rfl⟩ | h
  ·rcases List.mem_cons.1 hi with rfl | hi
   ·simp
   exact ar _ (DR hv i hi)
  exact ar _ (DR h i hi)
theorem Vg:∀ {A u:List Nat},A.Nodup->u∈Wg A->u.Nodup
 |[],u,_,h=>by simp only[Wg,eC]at h;subst h;exact ek
 |a::A,u,hA,h=>by
  rw[fW]at hA;simp only[Wg,bY,eI]at h;rcases h with ⟨v,hv,rfl⟩ | h
  ·rw[fW];exact⟨λhm=>hA.1 (DR hv a hm),Vg hA.2 hv⟩
  exact Vg hA.2 h
theorem S9:∀A:List Nat,A∈Wg A
 |[]=>by simp[Wg]
 |a::A=>by simp only[Wg,bY,eI];exact .inl ⟨A,S9 A,rfl⟩
theorem Hx{i:Nat}(hA:A.Nodup)(hu:u.Nodup)(hiA:i∈A)(hi:i∈u):(A.filter λj=>!((u.erase i).contains j)).Perm (i::A.filter λj=>!(u.contains j)):=by
 refine(eZ (hA.filter _) (List.nodup_cons.2 ⟨λh=>?_,hA.filter _⟩)).2 λj=>?_
 ·have:=(List.mem_filter.1 h).2;simp[hi]at this
 rw[aA,fX,fX];simp only[aP,aK,decide_eq_false_iff_not];rw[hu.mem_erase_iff];by_cases e:j=i
 ·subst e;simp[hiA]
 simp[e]
theorem Im{a:Act}(hA:A.Nodup)(hinj:∀j∈A,∀k∈A,dI l j=dI l k->j=k)(hB:∀j∈A,je P N l j=true/\look m (dI l j)=none)
  (h0:bs0.Sublist bs) (hg0:∀F,G F->G0 F) (hu:u∈Wg A) (hi:i∈u) (ha:JH N m a) (hx:∀i∈A,i∉u->JH N [(dI l i,DW (β i))] a) (hw:St ⟨w0,F0,xP P l A u β++bs,G⟩ w) {R:Act->World->Prop}
  (k:∀β' a' w',JH N m a'->(∀j∈A,j∉u.erase i->JH N [(dI l j,DW (β' j))] a')->St ⟨w0,F0,xP P l A (u.erase i) β'++bs,G⟩ w'->R a' w') :
  wpOp P l.toArray (λ_ _ _=>False) i (λa' w'=>St ⟨w0,F0,bs0,G0⟩ w'/\R a' w') a w:=by
 have hiA:=DR hu i hi;have hun:=Vg hA hu;obtain⟨hb,hm⟩:=hB i hiA;simp only[je,af]at hb;obtain⟨⟨⟨h1,h2⟩,h3⟩,h4⟩:=hb;obtain⟨⟨d,T⟩,e⟩:=Option.isSome_iff_exists.1 h1;have ed:dI l i=d:=by unfold dI;rw[e];rfl
 have et:tI l i=T:=by unfold tI;rw[e];rfl
 obtain⟨z,ez⟩:=Option.isSome_iff_exists.1 h2;rw[et]at ez h3;rw[ed]at h4 hm;unfold cB at e;split at e
 ·rename_i d' T' ty pos aft he;simp only[Option.some.injEq,eY]at e;obtain⟨rfl,rfl⟩:=e;have ho':l.toArray[i]?=some ⟨some d',.alloc T',ty,pos,aft,none⟩:=by simpa using he
  have hS:=hw.alloc (.cells z.toArray T' (0,0)) (X4 h3);unfold wpOp;simp only[ho'];rw[if_pos (by simp[Region.wanted])];refine .inl (upon_value (D5 ez) ⟨hS.imp ((h0.trans (bz _ _)).trans (List.sublist_cons_self _ _)) hg0,?_⟩);refine k (λj=>if j=i then w.heap.size else β j) _ _ (ha.TI h4 _ hm) (λj hj hju=>?_) ?_
  ·by_cases ej:j=i
   ·subst ej;rw[if_pos rfl,ed];have:=(ha.put h4 (DW w.heap.size));refine⟨this.size,this.df,λt x ht=>this.get t x ?_⟩;rw[Vt]at ht;show(bif aF d' t then some _ else look m t)=some x;cases e2:aF d' t with
    |true=>rw[e2]at ht;exact ht
    |false=>rw[e2]at ht;cases ht
   rw[if_neg ej];refine(hx j hj λh=>hju ((hun.mem_erase_iff).2 ⟨ej,h⟩)).TI h4 _ ?_;rw[Vt];have:aF (dI l j) d'=false:=by
    cases e2:aF (dI l j) d' with
    |false=>rfl
    |true=>exact absurd (hinj j hj i hiA ((aG e2).trans ed.symm)) ej
   rw[this];rfl
  refine hS.perm ?_;have hp:=(Hx hA hun hiA hi).map λj=>((if j=i then w.heap.size else β j),zI P l j);have e3:(fu (λj=>((if j=i then w.heap.size else β j),zI P l j)) (i::A.filter λj=>!(u.contains j)))=(w.heap.size,Obj.cells z.toArray T' (0,0))::xP P l A u β:=by
   rw[ag,if_pos rfl];have eA:zI P l i=Obj.cells z.toArray T' (0,0):=by unfold zI;rw[et,ez];rfl
   rw[eA];refine congrArg (_::·) ?_;unfold xP;refine List.map_congr_left λj hj=>?_;have:j≠i:=λe=>by subst e;have:=(List.mem_filter.1 hj).2;simp[hi]at this
   rw[if_neg this]
  rw[e3]at hp;exact(hp.symm.append_right bs)
 cases e
theorem Wv:∀(x y:Sl) (t:Nat),look (x++y) t=(look x t).or (look y t)
 |[],_,_=>rfl
 |(s,v)::x,y,t=>by
  show(bif aF s t then some v else look (x++y) t)=(bif aF s t then some v else look x t).or (look y t);cases aF s t with
  |true=>rfl
  |false=>exact Wv x y t
theorem yj{a:Act}(ha:JH N m a)(hx:∀i∈A,i∉u->JH N [(dI l i,DW (β i))] a):JH N (m++mxI l A u β) a:=by
 refine⟨ha.size,ha.df,λt v ht=>?_⟩;rw[Wv]at ht;cases e:look m t with
 |some v'=>rw[e]at ht;exact ha.get t v (by rw[e];exact ht)
 |none =>
  rw[e,eT]at ht;unfold mxI at ht;have:∀B:List Nat,(∀i∈B,i∈A/\i∉u)->look (B.map λi=>(dI l i,DW (β i))) t=some v->a.tmps[t]?=some v:=by
   intro B
   induction B with
   |nil=>intro _ h;cases h
   |cons j B ihB =>
    intro hBj h;rw[ag]at h;have h':(bif aF (dI l j) t then some (DW (β j))else look (B.map λi=>(dI l i,DW (β i))) t)=some v:=h;cases e2:aF (dI l j) t with
    |true =>
     rw[e2]at h';exact(hx j (hBj j wz).1 (hBj j wz).2).get t v (by rw[Vt,e2];exact h')
    |false=>rw[e2]at h';exact ihB (λi hi=>hBj i (by simp[hi])) h'
  exact this _ (λi hi=>⟨(List.mem_filter.1 hi).1,by have:=(List.mem_filter.1 hi).2;simpa using this⟩) ht
theorem CX{a:Act}{nw:Sl}(hinj:∀j∈A,∀k∈A,dI l j=dI l k->j=k)(hB:∀j∈A,look m (dI l j)=none)(hnew:∀j∈A,look nw (dI l j)=none)(g1:JH N (nw++(m++mxI l A u β)) a):JH N (nw++m) a/\∀i∈A,i∉u->JH N [(dI l i,DW (β i))] a:=by
 refine⟨⟨g1.size,g1.df,λt v ht=>g1.get t v ?_⟩,λj hj hju=>⟨g1.size,g1.df,λt v ht=>g1.get t v ?_⟩⟩
 ·rw[<-bS,Wv,ht];rfl
 rw[Vt]at ht;cases e2:aF (dI l j) t with
 |false=>rw[e2]at ht;cases ht
 |true =>
  rw[e2]at ht;have e3:=aG e2;subst e3;rw[Wv,hnew j hj,eT,Wv,hB j hj,eT];unfold mxI;have:∀B:List Nat,j∈B->(∀i∈B,i∈A)->look (B.map λi=>(dI l i,DW (β i))) (dI l j)=some (DW (β j)):=by
   intro B
   induction B with
   |nil=>intro h;cases h
   |cons i B ihB =>
    intro h hBA;show(bif aF (dI l i) (dI l j)then some (DW (β i))else look (B.map λi=>(dI l i,DW (β i))) (dI l j))=_;cases e4:aF (dI l i) (dI l j)with
    |true=>rw[hinj i (hBA i wz) j hj (aG e4)];rfl
    |false =>
     rcases List.mem_cons.1 h with rfl | h
     ·simp at e4
     exact ihB h λi hi=>hBA i (by simp[hi])
  rw[this _ (List.mem_filter.2 ⟨hj,by simpa using hju⟩) (λi hi=>(List.mem_filter.1 hi).1)];exact ht
theorem C6{r:List Nat}(k:Nat){o:Oper}{γ:Type}{new:γ->Sl}{bs1:γ->List (Nat×Obj)}{G1:γ->Gs->Prop}(hok:okB l A r k=true)(hA:A.Nodup)(hinj:∀j∈A,∀k∈A,dI l j=dI l k->j=k)(hB:∀j∈A,je P N l j=true/\look m (dI l j)=none)
  (h0:bs0.Sublist bs) (hg0:∀F,G F->G0 F) (ho:l[k]?=some o) (hq:Jy o.op=false) (hkA:k∉A) (hnew:∀c,∀j∈A,look (new c) (dI l j)=none)
  (hstep:∀(mX:Sl) (X:List (Nat×Obj)) (K:Act->World->Prop),(∀c a w,JH N (new c++(m++mX)) a->St ⟨w0,F0,X++bs1 c,G1 c⟩ w->K a w)->JD P l.toArray (ZD K) ⟨w0,F0,bs0,G0⟩ [o] N (m++mX) ⟨w0,F0,X++bs,G⟩)
  (hk:∀c,KT P l Q (St ⟨w0,F0,bs0,G0⟩) A (r.erase k) N (new c++m) w0 F0 (bs1 c) (G1 c)):KT P l Q (St ⟨w0,F0,bs0,G0⟩) A r N m w0 F0 bs G:=by
 intro u;generalize hn:u.length=n
 induction n using hJ generalizing u with
 |ind n ih =>
  intro β a w hu ha hx hw;have hoku:=List.all_eq_true.1 hok u hu;simp only[af,aP]at hoku;obtain⟨⟨⟨⟨c1,c2⟩,c3⟩,c4⟩,c5⟩:=hoku;have hun:=Vg hA hu;obtain⟨x,s,es⟩:=bm (show K5 l r u≠[]from λe=>by rw[e]at c5;cases c5);rw[show(K5 l r u).length=s.length+1 by rw[es];rfl];unfold Gd;rw[Option.isNone_iff_eq_none.1 c1];intro i hi hrd;have h2:=List.all_eq_true.1 c2 i (List.mem_filter.2 ⟨hi,hrd⟩);simp only[bC,aK,decide_eq_true_eq]at h2;have hlen:s.length=((K5 l r u).erase i).length:=by rw[aH hi,es];rfl
  rw[hlen];by_cases hiu:i∈u
  ·have h3:=List.all_eq_true.1 c3 i hiu;simp only[af,aK,decide_eq_true_eq,beq_iff_eq]at h3;rw[h3.1.2];refine Im hA hinj hB h0 hg0 hu hiu ha hx hw λβ' a' w' g1 g2 g3=>?_;exact ih _ (by rw[<-hn,aH hiu];have:=bW hiu;omega) (u.erase i) rfl β' a' w' h3.2 g1 g2 g3
  have eik:i=k:=aG (h2.resolve_left hiu);subst eik;rw[beq_iff_eq]at c4;rw[c4];refine Dj (r':=K5 l (r.erase i) u) (Q:=Q) (E0:=⟨w0,F0,bs0,G0⟩) ho hq (hstep (mxI l A u β) (xP P l A u β) _ λc a' w' g1 g2=>?_) (λw h=>h.imp (h0.trans (bz _ _)) hg0) (yj ha hx) hw;obtain⟨g3,g4⟩:=CX hinj (λj hj=>(hB j hj).2) (hnew c) g1;exact hk c u β a' w' hu g3 g4 g2
def qtB(l:List Oper)(A r:List Nat)(j:Nat):Bool:=(Wg A).all λu=>(Hg l (K5 l r u)==some j)&&((K5 l r u).erase j==K5 l (r.erase j) u)&&!(K5 l r u).isEmpty&&(K5 l r u).contains j
theorem vo{r:List Nat}(j:Nat){o:Oper}{d:Nat}{v:Value}(hok:qtB l A r j=true)(hinj:∀j∈A,∀k∈A,dI l j=dI l k->j=k)(hB:∀j∈A,look m (dI l j)=none)(h0:bs0.Sublist bs)(hg0:∀F,G F->G0 F)(ho:l[j]?=some o)(hq:Jy o.op=true)(hnew:∀j∈A,look [(d,v)] (dI l j)=none)
  (hstep:∀(mX:Sl) (X:List (Nat×Obj)) (K:Act->World->Prop),(∀a w,JH N ((d,v)::(m++mX)) a->St ⟨w0,F0,X++bs,G⟩ w->K a w)->JD P l.toArray (ZD K) ⟨w0,F0,bs0,G0⟩ [o] N (m++mX) ⟨w0,F0,X++bs,G⟩)
  (hk:KT P l Q (St ⟨w0,F0,bs0,G0⟩) A (r.erase j) N ((d,v)::m) w0 F0 bs G):KT P l Q (St ⟨w0,F0,bs0,G0⟩) A r N m w0 F0 bs G:=by
 intro u β a w hu ha hx hw;have hoku:=List.all_eq_true.1 hok u hu;simp only[af,aP,beq_iff_eq,aK,decide_eq_true_eq]at hoku;obtain⟨⟨⟨c1,c2⟩,c3⟩,c4⟩:=hoku;obtain⟨x,s,es⟩:=bm (show K5 l r u≠[]from λe=>by rw[e]at c3;cases c3);have hlen:s.length=((K5 l r u).erase j).length:=by rw[aH c4,es];rfl
 rw[show(K5 l r u).length=s.length+1 by rw[es];rfl];unfold Gd;rw[c1];have h:=hstep (mxI l A u β) (xP P l A u β) (λa w=>Gd P l Q (St ⟨w0,F0,bs0,G0⟩) s.length ((K5 l r u).erase j) a w) (λa' w' g1 g2=>by
  obtain⟨g3,g4⟩:=CX (nw:=[(d,v)]) hinj hB hnew g1;rw[hlen,c2];exact hk u β a' w' hu g3 g4 g2) (λw h=>h.imp (h0.trans (bz _ _)) hg0) a w (yj ha hx) hw
 rcases h with ⟨_,v',h1,h2⟩ | ⟨h1,_⟩
 ·exact⟨o,v',ho,h1,h2⟩
 rw[hq]at h1;cases h1
theorem vp{r:List Nat}(i:Nat)(hf:QE3 l (i::A) r i=true)(hA:(i::A).Nodup)(hinj:∀j∈i::A,∀k∈i::A,dI l j=dI l k->j=k)(hB:∀j∈i::A,je P N l j=true/\look m (dI l j)=none)
  (h0:bs0.Sublist bs) (hg0:∀F,G F->G0 F) {d:Nat} {z:Obj} (hd:dI l i=d) (hz:zI P l i=z) (hk:∀b,KT P l Q (St ⟨w0,F0,bs0,G0⟩) A r N ((d,.pointer (some ⟨b,0,none⟩))::m) w0 F0 ((b,z)::bs) G):KT P l Q (St ⟨w0,F0,bs0,G0⟩) (i::A) r N m w0 F0 bs G:=by
 subst hd hz;have hiA:=(List.nodup_cons.1 hA).1;intro u;generalize hn:u.length=n
 induction n using hJ generalizing u with
 |ind n ih =>
  intro β a w hu ha hx hw;have hun:=Vg hA hu;by_cases hiu:i∈u
  ·have hoku:=List.all_eq_true.1 hf u hu;simp only[bC,aP,aK,decide_eq_false_iff_not,hiu,not_true_eq_false,false_or,af]at hoku;obtain⟨⟨⟨c1,c2⟩,c3⟩,c5⟩:=hoku;obtain⟨x,s,es⟩:=bm (show K5 l r u≠[]from λe=>by rw[e]at c5;cases c5);rw[show(K5 l r u).length=s.length+1 by rw[es];rfl];unfold Gd;rw[Option.isNone_iff_eq_none.1 c1];intro j hj hrd;have hju:=List.all_eq_true.1 c2 j (List.mem_filter.2 ⟨hj,hrd⟩);simp only[decide_eq_true_eq]at hju;have h3:=List.all_eq_true.1 c3 j hju;simp only[af,aK,decide_eq_true_eq,beq_iff_eq]at h3;have hlen:s.length=((K5 l r u).erase j).length:=by rw[aH hj,es];rfl
   rw[hlen,h3.1.2];refine Im hA hinj hB h0 hg0 hu hju ha hx hw λβ' a' w' g1 g2 g3=>?_;exact ih _ (by rw[<-hn,aH hju];have:=bW hju;omega) (u.erase j) rfl β' a' w' h3.2 g1 g2 g3
  have huA:u∈Wg A:=by
   simp only[Wg,bY,eI]at hu;rcases hu with ⟨v,_,rfl⟩ | hu
   ·exact absurd wz hiu
   exact hu
  have hs:=hx i wz hiu;refine hk (β i) u β a w huA ⟨ha.size,ha.df,λt v ht=>?_⟩ (λj hj hju=>hx j (by simp[hj]) hju) ?_
  ·have h':(bif aF (dI l i) t then some (DW (β i))else look m t)=some v:=ht;cases e:aF (dI l i) t with
   |true=>rw[e]at h';exact hs.get t v (by rw[Vt,e];exact h')
   |false=>rw[e]at h';exact ha.get t v h'
  refine hw.perm ?_;unfold xP;rw[fQ,if_pos (by simpa using hiu),ag,ae];exact List.perm_middle.symm
theorem Kr{r R:List Nat}(hm:K5 l r A=R)(h:KT P l Q (St ⟨w0,F0,bs0,G0⟩) A r N m w0 F0 bs G):JT P l Q ⟨w0,F0,bs0,G0⟩ R N m ⟨w0,F0,bs,G⟩:=by
 subst hm;intro _ a w ha hw;refine h A (λ_=>0) a w (S9 A) ha (λi hi hn=>absurd hi hn) ?_;have:xP P l A A (λ_=>0)=[]:=by
  unfold xP;rw[List.filter_eq_nil_iff.2 (λi hi=>by simpa using hi)];rfl
 rw[this];exact hw
theorem Vd(h:Fin Q .normal N m ⟨w0,F0,bs,G⟩)(hm:K5 l [] []=[]){S0:World->Prop}:KT P l (ZD (Q .normal)) S0 [] [] N m w0 F0 bs G:=by
 intro u β a w hu ha hx hw;simp only[Wg,eC]at hu;subst hu;rw[hm];exact h a w ha hw
def B8(P:Program)(N:Nat)(l:List Oper)(A:List Nat):Bool:=A.all (λj=>je P N l j)&&A.all (λj=>A.all λk=>!(aF (dI l j) (dI l k))||aF j k)&&decide A.Nodup
def kF(l:List Oper)(m:Sl)(A:List Nat):Bool:=A.all λj=>!((m.map (·.1)).contains (dI l j))
theorem MZ:∀ {m:Sl} {t:Nat},(m.map (·.1)).contains t=false->look m t=none
 |[],_,_=>rfl
 |(k,v)::m,t,h=>by
  rw[ag,List.contains_cons,Bool.or_eq_false_iff]at h;show(bif aF k t then some v else look m t)=none;have:aF k t=false:=by
   cases e:aF k t with
   |false=>rfl
   |true=>have:=aG e;subst this;simp at h
  rw[this];exact MZ h.2
theorem WA(h:B8 P N l A=true)(hk:kF l m A=true):A.Nodup/\(∀j∈A,∀k∈A,dI l j=dI l k->j=k)/\∀j∈A,je P N l j=true/\look m (dI l j)=none:=by
 simp only[B8,af,decide_eq_true_eq]at h;obtain⟨⟨h1,h2⟩,h3⟩:=h;refine⟨h3,λj hj k hk e=>?_,λj hj=>⟨List.all_eq_true.1 h1 j hj,MZ ?_⟩⟩
 ·have h4:=List.all_eq_true.1 (List.all_eq_true.1 h2 j hj) k hk;rw[e]at h4;simpa using h4
 have h4:=List.all_eq_true.1 hk j hj;simpa using h4
section
variable{A r:List Nat}{ty:TypeId}{pos:String}{aft:Array Edge}
theorem XH(k:Nat){d:Nat}{f:FuncId}{args:Array Operand}{tys:Array TypeId}{vs:List Value}{γ:Type}{val:γ->Value}{fact:γ->Gs->Prop}(hok:okB l A r k=true)(hall:B8 P N l A=true)(hkey:kF l m A=true)(h0:bs0.Sublist bs)(hg0:∀F,G F->G0 F)
  (ho:l[k]?=some ⟨some d,.call ⟨.value (.func f),args,tys⟩,ty,pos,aft,none⟩) (hkA:A.contains k=false) (hdA:A.all (λj=>!(aF d (dI l j)))=true) (hv:∀mX,MD (m++mX) args.toList=some vs) (hc:∀w F,Fits F w->G F->QT P f vs w F val fact)
  (hk:∀c,KT P l Q (St ⟨w0,F0,bs0,G0⟩) A (r.erase k) N ((d,val c)::m) w0 F0 bs λF=>G F/\fact c F) (hd:J2 N (some d)=true:=by rfl):KT P l Q (St ⟨w0,F0,bs0,G0⟩) A r N m w0 F0 bs G:=by
 obtain⟨g1,g2,g3⟩:=WA hall hkey;refine C6 (γ:=γ) (new:=λc=>[(d,val c)]) (bs1:=λ_=>bs) (G1:=λc F=>G F/\fact c F) k hok g1 g2 g3 h0 hg0 ho rfl (by simpa using hkA) (λc j hj=>?_) (λmX X K hK=>QM (hv mX) hc (λc=>Hw (hK c)) hd) hk;have:=List.all_eq_true.1 hdA j hj;rw[Vt];simp only[aP]at this;rw[this];rfl
theorem C7(j:Nat){d:Nat}{o:Op}{v:Value}(hok:qtB l A r j=true)(hall:B8 P N l A=true)(hkey:kF l m A=true)(h0:bs0.Sublist bs)(hg0:∀F,G F->G0 F)(ho:l[j]?=some ⟨some d,o,ty,pos,aft,none⟩)(hdA:A.all (λj=>!(aF d (dI l j)))=true)
  (hqt:∀mX,Qt P N (m++mX) (St ⟨w0,F0,bs0,G0⟩) o ty v) (hk:KT P l Q (St ⟨w0,F0,bs0,G0⟩) A (r.erase j) N ((d,v)::m) w0 F0 bs G) (hq:Jy o=true:=by rfl) (hd:J2 N (some d)=true:=by rfl):KT P l Q (St ⟨w0,F0,bs0,G0⟩) A r N m w0 F0 bs G:=by
 obtain⟨g1,g2,g3⟩:=WA hall hkey;refine vo j hok g2 (λj hj=>(g3 j hj).2) h0 hg0 ho hq (λj hj=>?_) (λmX X K hK=>QK (hqt mX) (Hw hK) hq hd) hk;have:=List.all_eq_true.1 hdA j hj;rw[Vt];simp only[aP]at this;rw[this];rfl
theorem Hv.skip{l r:List (Nat×Obj)}{b:Nat}{o:Obj}{f:Obj->List (Nat×Obj)}(h:Hv l b o f r):∀p:List (Nat×Obj),Hv (p++l) b o (λo'=>p++f o') (p++r)
 |[]=>h
 |_::p=>.there (h.skip p)
theorem Zl(k:Nat){T T':TypeId}{x y:Operand}{v:Value}{b off n:Nat}{c vs l':List Value}{g:Bool}{f:Obj->List (Nat×Obj)}{bs':List (Nat×Obj)}(hok:okB l A r k=true)(hall:B8 P N l A=true)(hkey:kF l m A=true)(h0:bs0.Sublist bs)(hg0:∀F,G F->G0 F)
  (ho:l[k]?=some ⟨none,.store T x y,ty,pos,aft,none⟩) (hkA:A.contains k=false) (hx:∀mX,ev (m++mX) x=some (.pointer (some ⟨b,off,none⟩))) (hy:∀mX,ev (m++mX) y=some v) (hv:v.cells=vs.toArray) (ht:Z1 P T=some (g,n)) (hn:vs.length=n)
  (hw:Hv bs b (.cells c.toArray T' (0,0)) f bs') (hs:bs0.Sublist bs') (hp:VF c off vs l') (h1:RV vs) (hk:KT P l Q (St ⟨w0,F0,bs0,G0⟩) A (r.erase k) N m w0 F0 (f (.cells l'.toArray T' (0,0))) G) (hu:Gc T'=true:=by rfl):KT P l Q (St ⟨w0,F0,bs0,G0⟩) A r N m w0 F0 bs G:=by
 obtain⟨g1,g2,g3⟩:=WA hall hkey;exact C6 (γ:=Unit) (new:=λ_=>[]) (bs1:=λ_=>f (.cells l'.toArray T' (0,0))) (G1:=λ_=>G) k hok g1 g2 g3 h0 hg0 ho rfl (by simpa using hkA) (λ_ j hj=>rfl)
  (λmX X K hK=>JU (hx mX) (hy mX) hv ht hn (hw.skip X) (hs.trans (bz _ _)) hg0 hp h1 (Hw (hK ())) hu) λ_=>hk
theorem K1(i:Nat)(hf:QE3 l (i::A) r i=true)(hall:B8 P N l (i::A)=true)(hkey:kF l m (i::A)=true)(h0:bs0.Sublist bs)(hg0:∀F,G F->G0 F){d:Nat}{z:List Value}{T:TypeId}(hd:dI l i=d)(ht:tI l i=T)(hz:J8 P T=some z)
  (hk:∀b,KT P l Q (St ⟨w0,F0,bs0,G0⟩) A r N ((d,.pointer (some ⟨b,0,none⟩))::m) w0 F0 ((b,.cells z.toArray T (0,0))::bs) G):KT P l Q (St ⟨w0,F0,bs0,G0⟩) (i::A) r N m w0 F0 bs G:=by
 obtain⟨g1,g2,g3⟩:=WA hall hkey;exact vp i hf g1 g2 g3 h0 hg0 hd (by unfold zI;rw[ht,hz];rfl) hk
end
end
end
theorem Bl(b:Int):(((2:Int):Rat))^b.toNat=((two b:Int):Rat):=by
 unfold two;generalize b.toNat=n
 induction n with
 |zero=>rfl
 |succ n ih=>rw[aO,ih,iA,fZ]
def yg(r:Rat×Rat)(b:Int):Xe r b=(((r.1*(((2:Int):Rat))^b.toNat).floor:Rat)/(((2:Int):Rat))^b.toNat,((-(-(r.2*(((2:Int):Rat))^b.toNat)).floor:Int):Rat)/(((2:Int):Rat))^b.toNat):=by
 unfold Xe;rw[Bl,eM,eM]
def Uk(x y:Rat):Ul x y=TX x y:=by
 unfold Ul TX;by_cases h:y<x
 ·rw[if_pos ((V6 y x).2 h),if_neg (by rw[Dh];exact Rat.not_le.2 h)]
 rw[if_neg (by rw[V6];exact h),if_pos ((Dh x y).2 (Rat.not_lt.1 h))]
def Ut(x y:Rat):PD x y=TY x y:=by
 unfold PD TY;by_cases h:x<y
 ·rw[if_pos ((V7 y x).2 h),if_neg (wk<|(V6 x y).2 h)]
 rw[if_neg (by rw[V7];exact h),if_pos (by have h2:=mt (V6 x y).1 h;omega)]
def q9(a:Rat×Rat):Rat:=[-a.1,a.1,-a.2].foldl PD a.2
def dU(x:Rat):JQ ((x.floor:Int):Rat)<=JQ x+1:=by
 have:=GF x.floor;have:=RB x;omega
def dV(x:Rat):JQ ((-(-x).floor:Int):Rat)<=JQ x+1:=by
 have h1:=GF (-(-x).floor);rw[Vf]at h1;have:=RB (-x);rw[Vw]at this;omega
def KP{P:α->Prop}{a:α}(h:P a):∀p∈[a],P p:=λp hp=>by rw[List.mem_singleton.1 hp];exact h
def Ez{P:α->Prop}{a b c:α}(h:P a)(k:P b)(l:P c):∀p∈[a,b,c],P p:=λp hp=>by
 simp only[aA,aJ,or_false]at hp;rcases hp with rfl | rfl | rfl
 ·exact h
 ·exact k
 exact l
theorem Kg{x:Fr}{r:Rat}(hF:Fits F w)(h:JP F x r):Xn prog 196 [x.v] w F (r,r):=by
 refine QT.intro (G:=λF=>JP F x r) func196 rfl wy rfl rfl hF (λF' hF'=>h.le hF')<|QKO<|Qu rfl (vs:=[_,_,_,_]) rfl λb1=>Qc Ji λb2=>QJC<|QKO<|QA (wJ I Qa .u1)<|QA (wJ I Qa .u1)<|QA (Qx rfl Z4 Ji (.cons (vs:=[_,_,_,_]) rfl rfl rfl .h4 (.cons (vs:=[_,_,_,_]) rfl rfl rfl (.skip (.skip (.skip (.skip .h4)))) .nil)))<|QR (vs:=[_,_,_,_,_,_,_,_]) rfl rfl rfl Qi rfl .here .h8 wZ<|QJC<|QW ?_
 exact QQ (⟨x,x⟩) I (.JZ (c:=[_,_,_,_,_,_,_,_]) I Qi .here .nil) (rfl) λF h=>⟨h,h⟩
theorem Cr{lo hi:List UInt8}(hF:Fits F w)(hGl:JC F)(h1:Jd lo=0)(h2:Jd hi=0)(hl:lo.length<=1000000/\hi.length<=1000000):Xn prog 123 [.agg #[tx lo,tx hi]] w F (Qh lo,Qh hi):=by
 refine QT.intro (G:=λF=>JC F) func123 rfl wy rfl rfl hF (λF' hF'=>hGl.le hF')<|QKO<|Qu rfl (vs:=[_,_]) rfl λb1=>Qc Ji λb2=>QJC<|QG<|JK (.cons _ tC) mixed wm<|QK (QH rfl Sn JR)<|QK (Qf rfl JR .here .h1)<|QM rfl (λ_ _ f k=>Yw (s:=lo) (r:=Qh lo) f k (XI h1).1 O) λc5=>QK (QH rfl Sm JR)<|QK (Qf rfl JR .here (.skip .h1))<|QM rfl (λ_ _ f k=>Yw (s:=hi) (r:=Qh hi) f k.1 (XI h2).1 O) λc8=>QK (Qx rfl Z4 Ji (.cons (vs:=[_,_,_,_]) rfl rfl rfl .h4 (.cons (vs:=[_,_,_,_]) rfl rfl rfl (.skip (.skip (.skip (.skip .h4)))) .nil)))<|JU (vs:=[_,_,_,_,_,_,_,_]) rfl rfl rfl Qi rfl .here tC (λ_ h=>h.1.1) .h8 wZ<|Q5<|QC<|QW ?_
 exact QQ (⟨c5,c8⟩) I (.JZ (c:=[_,_,_,_,_,_,_,_]) I Qi .here .nil) (rfl) λF h9=>⟨h9.1.2,h9.2⟩
theorem ub{x:Sp}(hF:Fits F w)(hGl:JC F)(h:Jj F x a)(hza:Xb a 100000000):Qe prog 227 [x.v] w F (.agg #[tx (Jh a.1),tx (Jh a.2)]):=by
 refine QT.intro (G:=λF=>JC F/\Jj F x a) func227 rfl wy rfl rfl hF (λF' hF'=>⟨hGl.le hF',h.le hF'⟩)<|QKO<|Qu rfl (vs:=[_,_,_,_,_,_,_,_]) rfl λb1=>Qc Xh λb2=>QJC<|QG<|JK (.cons _ tC) mixed wm<|QK (QH rfl Xs Qa)<|QK (wJ I Qa .here)<|QM rfl (λ_ _ f k=>PF (x:=x.lo) (r:=a.1) f k.1 k.2.1 hza.1) λ_=>QK (QH rfl Xr Qa)<|QK (wL I Qa .here)<|QM rfl (λ_ _ f k=>PF (x:=x.hi) (r:=a.2) f k.1.1 k.1.2.2 hza.2) λ_=>QK (Qx rfl Zk Xh (wP rfl rfl rfl))<|JU (vs:=[_,_]) rfl rfl rfl J1 rfl .here tC (λ_ h=>h.1.1) .h2 wT<|Q5<|QC<|QW ?_
 exact QQ (()) I (.JZ (c:=[_,_]) I J1 .here .nil) (rfl) w8
theorem IP{x:Sp}(hF:Fits F w)(hGl:JC F)(h:Jj F x a)(hza:Xb a 100000000):Qe prog 226 [x.v] w F (.bool (Jo a.1||Jo a.2)):=by
 refine QT.intro (G:=λF=>JC F/\Jj F x a) func226 rfl wy rfl rfl hF (λF' hF'=>⟨hGl.le hF',h.le hF'⟩)<|QKO<|Qu rfl (vs:=[_,_,_,_,_,_,_,_]) rfl λb1=>wQ rfl<|QKO<|QA (QH rfl Xs Qa)<|QA (wJ I Qa .here)<|QI rfl (λ_ _ f k=>Db (x:=x.lo) (r:=a.1) f k.1 k.2.1 hza.1) λ_=>QJD rfl ?_
 refine Qs (t:=6) rfl (λhb6=>?_) λhb6=>?_
 ·refine QKq 8 I ?_;exact QKx I I (congrArg bL (by rw[hb6,Bool.true_or])) w8
 refine QL I I<|QA (QH I Xr Qa)<|QL I I<|QA (wL I Qa .here)<|QL I I<|QI I (λ_ _ f k=>Db (x:=x.hi) (r:=a.2) f k.1.1 k.1.2.2 hza.2) λ_=>QKq 5 I ?_
 exact QKx I I (congrArg bL (by rw[hb6,fc])) w8
theorem Mj{x y:Sp}(hF:Fits F w)(h:Jj F x a)(h':Jj F y b)(hza:Xb a 100000000)(hzb:Xb b 100000000):Xn prog 273 [x.v,y.v] w F (Z0 a b):=by
 refine QT.intro (G:=λF=>Jj F x a/\Jj F y b) func273 rfl wy rfl rfl hF (λF' hF'=>⟨h.le hF',h'.le hF'⟩)<|QKO<|Qu rfl (vs:=[_,_,_,_,_,_,_,_]) rfl λb2=>Qu rfl (vs:=[_,_,_,_,_,_,_,_]) rfl λb3=>Qc Ji λb4=>QJC<|QG<|JK (.cons _ tC) mixed wm<|QK (QH rfl Xs Qa)<|QK (wJ I Qa .u1)<|QK (QH rfl Xs Qa)<|QK (wJ I Qa .here)<|QM rfl (λ_ _ f k=>Dz (x:=x.lo) (y:=y.lo) f k.1.1 k.2.1 hza.1 hzb.1) λc9=>QK (QH rfl Xr Qa)<|QK (wL I Qa .u1)<|QK (QH rfl Xr Qa)<|QK (wL I Qa .here)<|QM rfl (λ_ _ f k=>Dz (x:=x.hi) (y:=y.hi) f k.1.1.2 k.1.2.2 hza.2 hzb.2) λc14=>QK (Qx rfl Z4 Ji (.cons (vs:=[_,_,_,_]) rfl rfl rfl .h4 (.cons (vs:=[_,_,_,_]) rfl rfl rfl (.skip (.skip (.skip (.skip .h4)))) .nil)))<|JU (vs:=[_,_,_,_,_,_,_,_]) rfl rfl rfl Qi rfl .here tC (λ_ h=>h.1.1) .h8 wZ<|Q5<|QC<|QW ?_
 exact QQ (⟨c9,c14⟩) I (.JZ (c:=[_,_,_,_,_,_,_,_]) I Qi .here .nil) (rfl) λF ⟨⟨⟨hX,hY⟩,h9⟩,h14⟩=>⟨h9,h14⟩
theorem U6{x y:Sp}(hF:Fits F w)(h:Jj F x a)(h':Jj F y b)(hza:Xb a 20000000)(hzb:Xb b 20000000):Xn prog 274 [x.v,y.v] w F (JE a b):=by
 have g1:=Xp a.1 b.1;have g2:=Xp a.1 b.2;have g3:=Xp a.2 b.1;have g4:=Xp a.2 b.2;have q1:=hza.1;have q2:=hza.2;have q3:=hzb.1;have q4:=hzb.2;refine QT.intro (G:=λF=>Jj F x a/\Jj F y b) func274 rfl wy rfl rfl hF (λF' hF'=>⟨h.le hF',h'.le hF'⟩)<|QKO<|Qu rfl (vs:=[_,_,_,_,_,_,_,_]) rfl λb2=>Qu rfl (vs:=[_,_,_,_,_,_,_,_]) rfl λb3=>Qc Ji λb4=>QJC<|QG<|KR (r:=[0,1,2,3,4,5,6,7,8,9,10,11,12,13,14,15,16,17,18,19,20,21,22,23,24,25,26,27]) tC mixed wm rfl<|Jk 0 wm rfl rfl<|QK (QH rfl Xs Qa)<|Q9<|Jk 1 wm rfl rfl<|QK (wJ I Qa .u2)<|Q9<|Jk 2 wm rfl rfl<|QK (QH rfl Xs Qa)<|Q9<|Jk 3 wm rfl rfl<|QK (wJ I Qa .u1)<|Q9<|Jk 5 wm rfl rfl<|QK (QH rfl Xs Qa)<|Q9 ?_
 refine Jk 6 wm rfl rfl<|QK (wJ I Qa .u2)<|Q9<|Jk 7 wm rfl rfl<|QK (QH I Xr Qa)<|Q9<|Jk 8 wm rfl rfl<|QK (wL I Qa .u1)<|Q9<|Jk 10 wm rfl rfl<|QK (QH I Xr Qa)<|Q9<|Jk 11 wm rfl rfl<|QK (wL I Qa .u2)<|Q9<|Jk 12 wm rfl rfl<|QK (QH I Xs Qa)<|Q9<|Jk 13 wm rfl rfl<|QK (wJ I Qa .u1)<|Q9<|Jk 15 wm rfl rfl<|QK (QH I Xr Qa)<|Q9<|Jk 16 wm rfl rfl ?_
 refine QK (wL I Qa .u2)<|Q9<|Jk 17 wm rfl rfl<|QK (QH I Xr Qa)<|Q9<|Jk 18 wm rfl rfl<|QK (wL I Qa .u1)<|Q9<|Kr (A:=[20,21,22,23]) (r:=[4,9,14,19,24,25,26,27]) wm<|XH 4 wm wm wy tC w9 rfl rfl rfl (λ_=>rfl) (λ_ _ f k=>Wl (x:=x.lo) (y:=y.lo) f k.1.1 k.2.1 O O) λc13=>XH 9 wm wm wy tC tA rfl rfl rfl (λ_=>rfl) (λ_ _ f k=>Wl (x:=x.lo) (y:=y.hi) f k.1.1.1 k.1.2.2 O O) λc18=>XH 14 wm wm wy tC (λ_ h=>h.1.1) rfl rfl rfl (λ_=>rfl) (λ_ _ f k=>Wl (x:=x.hi) (y:=y.lo) f k.1.1.1.2 k.1.1.2.1 O O) λc23=>XH 19 wm wm wy tC (λ_ h=>h.1.1.1) rfl rfl rfl (λ_=>rfl) (λ_ _ f k=>Wl (x:=x.hi) (y:=y.hi) f k.1.1.1.1.2 k.1.1.1.2.2 O O) λc28=>K1 20 (d:=5) (T:=95) wm wm wy tC (λ_ h=>h.1.1.1.1) wm wm XZ λb5=>K1 21 (d:=6) (T:=95) wm wm wy (.cons _ tC) (λ_ h=>h.1.1.1.1) wm wm XZ λb6=>K1 22 (d:=7) (T:=95) wm wm wy (.cons _ (.cons _ tC)) (λ_ h=>h.1.1.1.1) wm wm XZ λb7=>K1 23 (d:=8) (T:=95) wm wm wy (.cons _ (.cons _ (.cons _ tC))) (λ_ h=>h.1.1.1.1) wm wm XZ λb8=>Zl (vs:=[_,_,_,_]) 24 wm wm wy (.cons _ (.cons _ (.cons _ (.cons _ tC)))) (λ_ h=>h.1.1.1.1) rfl rfl (λ_=>rfl) (λ_=>rfl) rfl Qa I .u3 (.cons _ (.cons _ (.cons _ tC))) .h4 wV<|Zl (vs:=[_,_,_,_]) 25 wm wm wy (.cons _ (.cons _ (.cons _ (.cons _ tC)))) (λ_ h=>h.1.1.1.1) rfl rfl (λ_=>rfl) (λ_=>rfl) rfl Qa I .u2 (.cons _ (.cons _ (.cons _ tC))) .h4 wV<|Zl (vs:=[_,_,_,_]) 26 wm wm wy (.cons _ (.cons _ (.cons _ (.cons _ tC)))) (λ_ h=>h.1.1.1.1) rfl rfl (λ_=>rfl) (λ_=>rfl) rfl Qa I .u1 (.cons _ (.cons _ (.cons _ tC))) .h4 wV<|Zl (vs:=[_,_,_,_]) 27 wm wm wy (.cons _ (.cons _ (.cons _ (.cons _ tC)))) (λ_ h=>h.1.1.1.1) rfl rfl (λ_=>rfl) (λ_=>rfl) rfl Qa I .here (.cons _ (.cons _ (.cons _ tC))) .h4 wV ?_
 refine Vd ?_ wm;refine QC<|QG<|KR (r:=[0,1,2,3,4,5,6,7,8,9,10,11,12,13]) (.cons_cons _ (.cons_cons _ (.cons_cons _ (.cons_cons _ (.cons _ tC))))) mixed wm rfl<|Jk 0 wm rfl rfl<|QK (wJ I Qa .u3)<|Q9<|Jk 1 wm rfl rfl<|QK (wJ I Qa .u2)<|Q9<|Jk 2 wm rfl rfl<|QK (wJ I Qa .u1)<|Q9<|Jk 3 wm rfl rfl<|QK (wJ I Qa .here)<|Q9<|Jk 6 wm rfl rfl<|QK (wJ I Qa .u3)<|Q9<|Jk 7 wm rfl rfl<|QK (wJ I Qa .u2)<|Q9<|Jk 8 wm rfl rfl<|QK (wJ I Qa .u1)<|Q9<|Jk 9 wm rfl rfl ?_
 refine QK (wJ I Qa .here)<|Q9 ?_
 refine Na 4 10 wm wm rfl rfl rfl rfl rfl rfl ?_ ?_
 ·refine Qo I (Qz XT) Qa XZ I I (λb33=>?_) (λw h=>h.imp (.cons_cons _ (.cons_cons _ (.cons_cons _ (.cons_cons _ (.cons _ tC))))) w9);refine Q9 ?_;refine Na 5 10 wm wm rfl rfl rfl rfl rfl rfl ?_ ?_
  ·refine QM I (λ_ _ f k=>V1 (x:=c13) (r:=a.1*b.1) (ps:=[(c18,a.1*b.2),(c23,a.2*b.1),(c28,a.2*b.2)]) f k.1.1.1.1.2 (Qw.of (n:=3) (sz:=4) (cs:=ao (λe:Fr×Rat=>KV e.1) [(c18,a.1*b.2),(c23,a.2*b.1),(c28,a.2*b.2)]) k.2 I) (Ez k.1.1.1.2 k.1.1.2 k.1.2) rfl wu ⟨O,Ez (show JQ (a.1*b.2)<=100000000 by omega) (show JQ (a.2*b.1)<=100000000 by omega) (show JQ (a.2*b.2)<=100000000 by omega)⟩) (λc34=>Q9<|XX 10 wm wm rfl rfl rfl ?_);refine Qo I (Qz XT) Qa XZ I I (λb39=>?_) (λw h=>h.imp (.cons_cons _ (.cons_cons _ (.cons_cons _ (.cons_cons _ (.cons _ tC))))) λF h=>h.1.1);refine Q9<|XX 11 wm wm rfl rfl rfl<|QM I (λ_ _ f k=>Xm (x:=c13) (r:=a.1*b.1) (ps:=[(c18,a.1*b.2),(c23,a.2*b.1),(c28,a.2*b.2)]) f k.1.1.1.1.1.1.2 (Qw.of (n:=3) (sz:=4) (cs:=ao (λe:Fr×Rat=>KV e.1) [(c18,a.1*b.2),(c23,a.2*b.1),(c28,a.2*b.2)]) k.2 I) (Ez k.1.1.1.1.1.2 k.1.1.1.1.2 k.1.1.1.2) rfl wu ⟨O,Ez (show JQ (a.1*b.2)<=100000000 by omega) (show JQ (a.2*b.1)<=100000000 by omega) (show JQ (a.2*b.2)<=100000000 by omega)⟩) λc40=>Q9<|Jk 12 wm rfl rfl<|QK (Qx I Z4 Ji (.cons (vs:=[_,_,_,_]) I I I .h4 (.cons (vs:=[_,_,_,_]) I I I (.skip (.skip (.skip (.skip .h4)))) .nil)))<|Q9<|XX 13 wm wm rfl rfl rfl<|JU (vs:=[_,_,_,_,_,_,_,_]) I I I Qi I .u4 tC (λ_ h=>h.1.1.1.1) .h8 wZ<|Q9<|Yg<|QC<|QW ?_
   exact QQ (⟨c34,c40⟩) I (.JZ (c:=[_,_,_,_,_,_,_,_]) I Qi .u4 .nil) (rfl) λF h9=>by unfold JE;rw[ZO];exact⟨h9.1.1.2,h9.2⟩
  refine Qo I (Qz XT) Qa XZ I I (λb39=>?_) (λw h=>h.imp (.cons_cons _ (.cons_cons _ (.cons_cons _ (.cons_cons _ (.cons _ tC))))) tA);refine Q9<|XX 5 wm wm rfl rfl rfl<|QM I (λ_ _ f k=>V1 (x:=c13) (r:=a.1*b.1) (ps:=[(c18,a.1*b.2),(c23,a.2*b.1),(c28,a.2*b.2)]) f k.1.1.1.1.1.2 (Qw.of (n:=3) (sz:=4) (cs:=ao (λe:Fr×Rat=>KV e.1) [(c18,a.1*b.2),(c23,a.2*b.1),(c28,a.2*b.2)]) k.1.2 I) (Ez k.1.1.1.1.2 k.1.1.1.2 k.1.1.2) rfl wu ⟨O,Ez (show JQ (a.1*b.2)<=100000000 by omega) (show JQ (a.2*b.1)<=100000000 by omega) (show JQ (a.2*b.2)<=100000000 by omega)⟩) λc34=>Q9<|XX 11 wm wm rfl rfl rfl<|QM I (λ_ _ f k=>Xm (x:=c13) (r:=a.1*b.1) (ps:=[(c18,a.1*b.2),(c23,a.2*b.1),(c28,a.2*b.2)]) f k.1.1.1.1.1.1.2 (Qw.of (n:=3) (sz:=4) (cs:=ao (λe:Fr×Rat=>KV e.1) [(c18,a.1*b.2),(c23,a.2*b.1),(c28,a.2*b.2)]) k.1.2 I) (Ez k.1.1.1.1.1.2 k.1.1.1.1.2 k.1.1.1.2) rfl wu ⟨O,Ez (show JQ (a.1*b.2)<=100000000 by omega) (show JQ (a.2*b.1)<=100000000 by omega) (show JQ (a.2*b.2)<=100000000 by omega)⟩) λc40=>Q9<|Jk 12 wm rfl rfl<|QK (Qx I Z4 Ji (.cons (vs:=[_,_,_,_]) I I I .h4 (.cons (vs:=[_,_,_,_]) I I I (.skip (.skip (.skip (.skip .h4)))) .nil)))<|Q9<|XX 13 wm wm rfl rfl rfl<|JU (vs:=[_,_,_,_,_,_,_,_]) I I I Qi I .u4 tC (λ_ h=>h.1.1.1.1) .h8 wZ<|Q9<|Yg<|QC<|QW ?_
  exact QQ (⟨c34,c40⟩) I (.JZ (c:=[_,_,_,_,_,_,_,_]) I Qi .u4 .nil) (rfl) λF h9=>by unfold JE;rw[ZO];exact⟨h9.1.2,h9.2⟩
 refine Qo I (Qz XT) Qa XZ I I (λb39=>?_) (λw h=>h.imp (.cons_cons _ (.cons_cons _ (.cons_cons _ (.cons_cons _ (.cons _ tC))))) w9);refine Q9<|XX 4 wm wm rfl rfl rfl ?_
 refine Qo I (Qz XT) Qa XZ I I (λb33=>?_) (λw h=>h.imp (.cons_cons _ (.cons_cons _ (.cons_cons _ (.cons_cons _ (.cons _ tC))))) tA);refine Q9<|XX 5 wm wm rfl rfl rfl<|QM I (λ_ _ f k=>V1 (x:=c13) (r:=a.1*b.1) (ps:=[(c18,a.1*b.2),(c23,a.2*b.1),(c28,a.2*b.2)]) f k.1.1.1.1.1.2 (Qw.of (n:=3) (sz:=4) (cs:=ao (λe:Fr×Rat=>KV e.1) [(c18,a.1*b.2),(c23,a.2*b.1),(c28,a.2*b.2)]) k.2 I) (Ez k.1.1.1.1.2 k.1.1.1.2 k.1.1.2) rfl wu ⟨O,Ez (show JQ (a.1*b.2)<=100000000 by omega) (show JQ (a.2*b.1)<=100000000 by omega) (show JQ (a.2*b.2)<=100000000 by omega)⟩) λc34=>Q9<|XX 11 wm wm rfl rfl rfl<|QM I (λ_ _ f k=>Xm (x:=c13) (r:=a.1*b.1) (ps:=[(c18,a.1*b.2),(c23,a.2*b.1),(c28,a.2*b.2)]) f k.1.1.1.1.1.1.2 (Qw.of (n:=3) (sz:=4) (cs:=ao (λe:Fr×Rat=>KV e.1) [(c18,a.1*b.2),(c23,a.2*b.1),(c28,a.2*b.2)]) k.1.1.2 I) (Ez k.1.1.1.1.1.2 k.1.1.1.1.2 k.1.1.1.2) rfl wu ⟨O,Ez (show JQ (a.1*b.2)<=100000000 by omega) (show JQ (a.2*b.1)<=100000000 by omega) (show JQ (a.2*b.2)<=100000000 by omega)⟩) λc40=>Q9<|Jk 12 wm rfl rfl<|QK (Qx I Z4 Ji (.cons (vs:=[_,_,_,_]) I I I .h4 (.cons (vs:=[_,_,_,_]) I I I (.skip (.skip (.skip (.skip .h4)))) .nil)))<|Q9<|XX 13 wm wm rfl rfl rfl<|JU (vs:=[_,_,_,_,_,_,_,_]) I I I Qi I .u4 tC (λ_ h=>h.1.1.1.1) .h8 wZ<|Q9<|Yg<|QC<|QW ?_
 exact QQ (⟨c34,c40⟩) I (.JZ (c:=[_,_,_,_,_,_,_,_]) I Qi .u4 .nil) (rfl) λF h9=>by unfold JE;rw[ZO];exact⟨h9.1.2,h9.2⟩
theorem Ru{x:Sp}{y:Fr}{r:Rat}(hF:Fits F w)(h:Jj F x a)(h':JP F y r)(hza:Xb a 20000000)(hzr:JQ r<=20000000):Xn prog 225 [x.v,y.v] w F (JE a (r,r)):=by
 refine QT.intro (G:=λF=>Jj F x a/\JP F y r) func225 rfl wy rfl rfl hF (λF' hF'=>⟨h.le hF',h'.le hF'⟩)<|QKO<|Qu rfl (vs:=[_,_,_,_,_,_,_,_]) rfl λb2=>Qu rfl (vs:=[_,_,_,_]) rfl λb3=>Qc Ji λb4=>QJC<|QG<|JK (.cons _ tC) mixed wm<|QK (wK I Qi .u1)<|QK (wJ I Qa .here)<|QM rfl (λ_ _ f k=>Kg (x:=y) (r:=r) f k.2) λc7=>QM rfl (λ_ _ f k=>U6 (x:=x) (y:=c7) (a:=a) (b:=(r,r)) f k.1.1 k.2 hza ⟨hzr,hzr⟩) λc8=>JU (vs:=[_,_,_,_,_,_,_,_]) rfl rfl rfl Qi rfl .here tC (λ_ h=>h.1.1) .h8 wZ<|Q5<|QC<|QW ?_
 exact QQ (c8) rfl (.JZ (c:=[_,_,_,_,_,_,_,_]) I Qi .here .nil) (rfl) tB
theorem ka{x:Sp}{n:Int}(hF:Fits F w)(h:Jj F x a)(hn:0<=n/\n<=12)(hza:Xb a 1000000):Xn prog 276 [x.v,.int .i64 n] w F (Kf a n):=by
 obtain⟨z1,z2⟩:=hza;have p1:=Wt a.1 n.toNat;have p2:=Wt a.2 n.toNat;have m1:n.toNat*JQ a.1<=12*1000000:=aY O z1;have m2:n.toNat*JQ a.2<=12*1000000:=aY O z2;refine QT.intro (G:=λF=>Jj F x a) func276 rfl wy rfl rfl hF (λF' hF'=>h.le hF')<|QKO<|Qu rfl (vs:=[_,_,_,_,_,_,_,_]) rfl λb2=>Qc Ji λb4=>QJC<|QG<|KR (r:=[0,1,2,3,4,5,6,7,8,9,10,11]) tC mixed wm rfl<|Jk 0 wm rfl rfl<|QK (QH rfl Xs Qa)<|Q9<|Jk 1 wm rfl rfl<|QK (wJ I Qa .u1)<|Q9<|Jk 2 wm rfl rfl<|QK (QD rfl)<|Q9<|Jk 4 wm rfl rfl<|QK (QH rfl Xr Qa)<|Q9<|Jk 5 wm rfl rfl<|QK (wL I Qa .u1)<|Q9<|Jk 6 wm rfl rfl ?_
 refine QK (QD I)<|Q9<|Kr (A:=[8,9]) (r:=[3,7,10,11]) wm<|XH 3 wm wm wy tC w9 rfl rfl rfl (λ_=>rfl) (λ_ _ f h=>Me (x:=x.lo) (r:=a.1) (k:=n) f h.1 hn.1 O O) λc10=>XH 7 wm wm wy tC tA rfl rfl rfl (λ_=>rfl) (λ_ _ f h=>Me (x:=x.hi) (r:=a.2) (k:=n) f h.1.2 hn.1 O O) λc14=>K1 8 (d:=5) (T:=95) wm wm wy tC (λ_ h=>h.1.1) wm wm XZ λb5=>K1 9 (d:=6) (T:=95) wm wm wy (.cons _ tC) (λ_ h=>h.1.1) wm wm XZ λb6=>Zl (vs:=[_,_,_,_]) 10 wm wm wy (.cons _ (.cons _ tC)) (λ_ h=>h.1.1) rfl rfl (λ_=>rfl) (λ_=>rfl) rfl Qa I .u1 (.cons _ tC) .h4 wV<|Zl (vs:=[_,_,_,_]) 11 wm wm wy (.cons _ (.cons _ tC)) (λ_ h=>h.1.1) rfl rfl (λ_=>rfl) (λ_=>rfl) rfl Qa I .here (.cons _ tC) .h4 wV ?_
 refine Vd ?_ wm;refine QC<|QG ?_
 refine YS [(4,_),(5,_),(6,_)] [(33,.bool ((decide (n>0)&&(decide (n%2=0)&&(decide (D8 a.1.num<0)&&decide (D8 a.2.num>0))))))] wU ?_ ?_
 ·refine wA 2 I<|QA (Hp I I O O)<|wB 2 I ?_
  refine Qs (t:=18) rfl (λhb18=>?_) λhb18=>?_
  ·refine wB 6 I ?_;refine Qs (t:=22) rfl (λhb22=>?_) λhb22=>?_
   ·refine QL I I<|QA (QH I Xs Qa)<|QL I I<|QA (wJ I Qa .u3)<|QL I I<|QI I (λ_ _ f k=>My (x:=x.lo) (r:=a.1) f k.1.1.1) λ_=>wB 4 I ?_
    refine Qs (t:=28) rfl (λhb28=>?_) λhb28=>?_
    ·refine QL I I<|QA (QH I Xr Qa)<|QL I I<|QA (wL I Qa .u3)<|QL I I<|QI I (λ_ _ f k=>My (x:=x.hi) (r:=a.2) f k.1.1.1.2) λ_=>wB 4 I ?_
     exact Jg ⟨rfl,rfl,rfl,(congrArg (λb=>some (bL b)) (by rw[bh];simp_all<;>(intros;omega))),trivial⟩ QJZ λ_ h=>h.1.1
    refine wB 6 I ?_;exact Jg ⟨rfl,rfl,rfl,(congrArg (λb=>some (bL b)) (by rw[bh];simp_all<;>(intros;omega))),trivial⟩ QJZ tA
   refine wB 12 I ?_;exact Jg ⟨rfl,rfl,rfl,(congrArg (λb=>some (bL b)) (by rw[bh];simp_all<;>(intros;omega))),trivial⟩ QJZ w9
  refine wB 16 I ?_;exact Jg ⟨rfl,rfl,rfl,(congrArg (λb=>some (bL b)) (by rw[bh];simp_all<;>(intros;omega))),trivial⟩ QJZ w9
 simp only[ae,ah];refine QO I (λhc=>?_) λhc=>?_
 ·refine QG<|KR (r:=[0,1,2,3,4,5,6]) (.cons_cons _ (.cons_cons _ (.cons _ tC))) mixed wm rfl<|Jk 1 wm rfl rfl<|QK (wJ I Qa .u1)<|Q9<|Jk 2 wm rfl rfl<|QK (wJ I Qa .here)<|Q9 ?_
  refine Na 0 3 wm wm rfl rfl rfl rfl rfl rfl ?_ ?_
  ·refine QM I (λ_ _ f k=>Sk (n:=0) f wu wu) (λc34=>Q9<|XX 3 wm wm rfl rfl rfl ?_);refine Qo I (Qz XT) Qa XZ I I (λb37=>?_) (λw h=>h.imp (.cons_cons _ (.cons_cons _ (.cons _ tC))) tA);refine Q9<|XX 4 wm wm rfl rfl rfl<|QM I (λ_ _ f k=>Xm (x:=c10) (r:=a.1^n.toNat) (ps:=[(c14,a.2^n.toNat)]) f k.1.1.1.2 (Qw.of (n:=1) (sz:=4) (cs:=ao (λe:Fr×Rat=>KV e.1) [(c14,a.2^n.toNat)]) k.2 I) (KP k.1.1.2) rfl wu ⟨O,KP (show JQ (a.2^n.toNat)<=100000000 by omega)⟩) λc38=>Q9<|Jk 5 wm rfl rfl<|QK (Qx I Z4 Ji (.cons (vs:=[_,_,_,_]) I I I .h4 (.cons (vs:=[_,_,_,_]) I I I (.skip (.skip (.skip (.skip .h4)))) .nil)))<|Q9<|XX 6 wm wm rfl rfl rfl<|JU (vs:=[_,_,_,_,_,_,_,_]) I I I Qi I .u2 tC (λ_ h=>h.1.1.1) .h8 wZ<|Q9<|Yg<|QC<|QW ?_
   exact QQ (⟨c34,c38⟩) I (.JZ (c:=[_,_,_,_,_,_,_,_]) I Qi .u2 .nil) (rfl) λF h9=>by unfold Kf;rw[if_pos hc,ZO];exact⟨h9.1.1.2,h9.2⟩
  refine Qo I (Qz XT) Qa XZ I I (λb37=>?_) (λw h=>h.imp (.cons_cons _ (.cons_cons _ (.cons _ tC))) w9);refine Q9<|XX 0 wm wm rfl rfl rfl<|QM I (λ_ _ f k=>Sk (n:=0) f wu wu) λc34=>Q9<|XX 4 wm wm rfl rfl rfl<|QM I (λ_ _ f k=>Xm (x:=c10) (r:=a.1^n.toNat) (ps:=[(c14,a.2^n.toNat)]) f k.1.1.1.2 (Qw.of (n:=1) (sz:=4) (cs:=ao (λe:Fr×Rat=>KV e.1) [(c14,a.2^n.toNat)]) k.1.2 I) (KP k.1.1.2) rfl wu ⟨O,KP (show JQ (a.2^n.toNat)<=100000000 by omega)⟩) λc38=>Q9<|Jk 5 wm rfl rfl<|QK (Qx I Z4 Ji (.cons (vs:=[_,_,_,_]) I I I .h4 (.cons (vs:=[_,_,_,_]) I I I (.skip (.skip (.skip (.skip .h4)))) .nil)))<|Q9<|XX 6 wm wm rfl rfl rfl<|JU (vs:=[_,_,_,_,_,_,_,_]) I I I Qi I .u2 tC (λ_ h=>h.1.1.1) .h8 wZ<|Q9<|Yg<|QC<|QW ?_
  exact QQ (⟨c34,c38⟩) I (.JZ (c:=[_,_,_,_,_,_,_,_]) I Qi .u2 .nil) (rfl) λF h9=>by unfold Kf;rw[if_pos hc,ZO];exact⟨h9.1.2,h9.2⟩
 refine QKr 3 I<|KR (r:=[0,1,2,3,4,5,6,7,8,9]) (.cons_cons _ (.cons_cons _ (.cons _ tC))) mixed wm rfl<|Jk 0 wm rfl rfl<|QK (wJ I Qa .u1)<|Q9<|Jk 1 wm rfl rfl<|QK (wJ I Qa .here)<|Q9<|Jk 4 wm rfl rfl<|QK (wJ I Qa .u1)<|Q9<|Jk 5 wm rfl rfl<|QK (wJ I Qa .here)<|Q9 ?_
 refine Na 2 6 wm wm rfl rfl rfl rfl rfl rfl ?_ ?_
 ·refine Qo I (Qz XT) Qa XZ I I (λb42=>?_) (λw h=>h.imp (.cons_cons _ (.cons_cons _ (.cons _ tC))) w9);refine Q9 ?_;refine Na 3 6 wm wm rfl rfl rfl rfl rfl rfl ?_ ?_
  ·refine QM I (λ_ _ f k=>V1 (x:=c10) (r:=a.1^n.toNat) (ps:=[(c14,a.2^n.toNat)]) f k.1.1.2 (Qw.of (n:=1) (sz:=4) (cs:=ao (λe:Fr×Rat=>KV e.1) [(c14,a.2^n.toNat)]) k.2 I) (KP k.1.2) rfl wu ⟨O,KP (show JQ (a.2^n.toNat)<=100000000 by omega)⟩) (λc43=>Q9<|XX 6 wm wm rfl rfl rfl ?_);refine Qo I (Qz XT) Qa XZ I I (λb46=>?_) (λw h=>h.imp (.cons_cons _ (.cons_cons _ (.cons _ tC))) λF h=>h.1.1);refine Q9<|XX 7 wm wm rfl rfl rfl<|QM I (λ_ _ f k=>Xm (x:=c10) (r:=a.1^n.toNat) (ps:=[(c14,a.2^n.toNat)]) f k.1.1.1.1.2 (Qw.of (n:=1) (sz:=4) (cs:=ao (λe:Fr×Rat=>KV e.1) [(c14,a.2^n.toNat)]) k.2 I) (KP k.1.1.1.2) rfl wu ⟨O,KP (show JQ (a.2^n.toNat)<=100000000 by omega)⟩) λc47=>Q9<|Jk 8 wm rfl rfl<|QK (Qx I Z4 Ji (.cons (vs:=[_,_,_,_]) I I I .h4 (.cons (vs:=[_,_,_,_]) I I I (.skip (.skip (.skip (.skip .h4)))) .nil)))<|Q9<|XX 9 wm wm rfl rfl rfl<|JU (vs:=[_,_,_,_,_,_,_,_]) I I I Qi I .u2 tC (λ_ h=>h.1.1.1.1) .h8 wZ<|Q9<|Yg<|QC<|QW ?_
   exact QQ (⟨c43,c47⟩) I (.JZ (c:=[_,_,_,_,_,_,_,_]) I Qi .u2 .nil) (rfl) λF h9=>by unfold Kf;rw[if_neg (by rw[hc];decide),ZO];exact⟨h9.1.1.2,h9.2⟩
  refine Qo I (Qz XT) Qa XZ I I (λb46=>?_) (λw h=>h.imp (.cons_cons _ (.cons_cons _ (.cons _ tC))) tA);refine Q9<|XX 3 wm wm rfl rfl rfl<|QM I (λ_ _ f k=>V1 (x:=c10) (r:=a.1^n.toNat) (ps:=[(c14,a.2^n.toNat)]) f k.1.1.1.2 (Qw.of (n:=1) (sz:=4) (cs:=ao (λe:Fr×Rat=>KV e.1) [(c14,a.2^n.toNat)]) k.1.2 I) (KP k.1.1.2) rfl wu ⟨O,KP (show JQ (a.2^n.toNat)<=100000000 by omega)⟩) λc43=>Q9<|XX 7 wm wm rfl rfl rfl<|QM I (λ_ _ f k=>Xm (x:=c10) (r:=a.1^n.toNat) (ps:=[(c14,a.2^n.toNat)]) f k.1.1.1.1.2 (Qw.of (n:=1) (sz:=4) (cs:=ao (λe:Fr×Rat=>KV e.1) [(c14,a.2^n.toNat)]) k.1.2 I) (KP k.1.1.1.2) rfl wu ⟨O,KP (show JQ (a.2^n.toNat)<=100000000 by omega)⟩) λc47=>Q9<|Jk 8 wm rfl rfl<|QK (Qx I Z4 Ji (.cons (vs:=[_,_,_,_]) I I I .h4 (.cons (vs:=[_,_,_,_]) I I I (.skip (.skip (.skip (.skip .h4)))) .nil)))<|Q9<|XX 9 wm wm rfl rfl rfl<|JU (vs:=[_,_,_,_,_,_,_,_]) I I I Qi I .u2 tC (λ_ h=>h.1.1.1.1) .h8 wZ<|Q9<|Yg<|QC<|QW ?_
  exact QQ (⟨c43,c47⟩) I (.JZ (c:=[_,_,_,_,_,_,_,_]) I Qi .u2 .nil) (rfl) λF h9=>by unfold Kf;rw[if_neg (by rw[hc];decide),ZO];exact⟨h9.1.2,h9.2⟩
 refine Qo I (Qz XT) Qa XZ I I (λb46=>?_) (λw h=>h.imp (.cons_cons _ (.cons_cons _ (.cons _ tC))) w9);refine Q9<|XX 2 wm wm rfl rfl rfl ?_
 refine Qo I (Qz XT) Qa XZ I I (λb42=>?_) (λw h=>h.imp (.cons_cons _ (.cons_cons _ (.cons _ tC))) tA);refine Q9<|XX 3 wm wm rfl rfl rfl<|QM I (λ_ _ f k=>V1 (x:=c10) (r:=a.1^n.toNat) (ps:=[(c14,a.2^n.toNat)]) f k.1.1.1.2 (Qw.of (n:=1) (sz:=4) (cs:=ao (λe:Fr×Rat=>KV e.1) [(c14,a.2^n.toNat)]) k.2 I) (KP k.1.1.2) rfl wu ⟨O,KP (show JQ (a.2^n.toNat)<=100000000 by omega)⟩) λc43=>Q9<|XX 7 wm wm rfl rfl rfl<|QM I (λ_ _ f k=>Xm (x:=c10) (r:=a.1^n.toNat) (ps:=[(c14,a.2^n.toNat)]) f k.1.1.1.1.2 (Qw.of (n:=1) (sz:=4) (cs:=ao (λe:Fr×Rat=>KV e.1) [(c14,a.2^n.toNat)]) k.1.1.2 I) (KP k.1.1.1.2) rfl wu ⟨O,KP (show JQ (a.2^n.toNat)<=100000000 by omega)⟩) λc47=>Q9<|Jk 8 wm rfl rfl<|QK (Qx I Z4 Ji (.cons (vs:=[_,_,_,_]) I I I .h4 (.cons (vs:=[_,_,_,_]) I I I (.skip (.skip (.skip (.skip .h4)))) .nil)))<|Q9<|XX 9 wm wm rfl rfl rfl<|JU (vs:=[_,_,_,_,_,_,_,_]) I I I Qi I .u2 tC (λ_ h=>h.1.1.1.1) .h8 wZ<|Q9<|Yg<|QC<|QW ?_
 exact QQ (⟨c43,c47⟩) I (.JZ (c:=[_,_,_,_,_,_,_,_]) I Qi .u2 .nil) (rfl) λF h9=>by unfold Kf;rw[if_neg (by rw[hc];decide),ZO];exact⟨h9.1.2,h9.2⟩
theorem Ct{x y:Sp}(hF:Fits F w)(h:Jj F x a)(h':Jj F y b)(hza:Xb a 100000000)(hzb:Xb b 100000000):Xn prog 266 [x.v,y.v] w F (Jq a b):=by
 refine QT.intro (G:=λF=>Jj F x a/\Jj F y b) func266 rfl wy rfl rfl hF (λF' hF'=>⟨h.le hF',h'.le hF'⟩)<|QKO<|Qu rfl (vs:=[_,_,_,_,_,_,_,_]) rfl λb2=>Qu rfl (vs:=[_,_,_,_,_,_,_,_]) rfl λb3=>Qc Ji λb4=>QJC<|QG<|KR (r:=[0,1,2,3,4,5,6,7,8,9,10,11,12,13]) (.cons _ tC) mixed wm rfl<|Jk 0 wm rfl rfl<|QK (QH rfl Xs Qa)<|Q9<|Jk 1 wm rfl rfl<|QK (wJ I Qa .u1)<|Q9<|Jk 2 wm rfl rfl<|QK (QH rfl Xs Qa)<|Q9<|Jk 3 wm rfl rfl<|QK (wJ I Qa .here)<|Q9<|Jk 6 wm rfl rfl<|QK (QH rfl Xr Qa)<|Q9 ?_
 refine Jk 7 wm rfl rfl<|QK (wL I Qa .u1)<|Q9<|Jk 8 wm rfl rfl<|QK (QH I Xr Qa)<|Q9<|Jk 9 wm rfl rfl<|QK (wL I Qa .here)<|Q9 ?_
 refine Na 4 10 wm wm rfl rfl rfl rfl rfl rfl ?_ ?_
 ·refine Qo I (Qz XT) Qa XZ I I (λb9=>?_) (λw h=>h.imp (.cons _ tC) w9);refine Q9 ?_;refine Na 5 10 wm wm rfl rfl rfl rfl rfl rfl ?_ ?_
  ·refine QM I (λ_ _ f k=>V1 (x:=x.lo) (r:=a.1) (ps:=[(y.lo,b.1)]) f k.1.1.1 (Qw.of (n:=1) (sz:=4) (cs:=ao (λe:Fr×Rat=>KV e.1) [(y.lo,b.1)]) k.2 I) (KP k.1.2.1) rfl wu ⟨hza.1,KP hzb.1⟩) (λc10=>Q9<|XX 10 wm wm rfl rfl rfl ?_);refine Qo I (Qz XT) Qa XZ I I (λb15=>?_) (λw h=>h.imp (.cons _ tC) λF h=>h.1.1);refine Q9<|XX 11 wm wm rfl rfl rfl<|QM I (λ_ _ f k=>Xm (x:=x.hi) (r:=a.2) (ps:=[(y.hi,b.2)]) f k.1.1.1.1.2 (Qw.of (n:=1) (sz:=4) (cs:=ao (λe:Fr×Rat=>KV e.1) [(y.hi,b.2)]) k.2 I) (KP k.1.1.1.2.2) rfl wu ⟨hza.2,KP hzb.2⟩) λc16=>Q9<|Jk 12 wm rfl rfl<|QK (Qx I Z4 Ji (.cons (vs:=[_,_,_,_]) I I I .h4 (.cons (vs:=[_,_,_,_]) I I I (.skip (.skip (.skip (.skip .h4)))) .nil)))<|Q9<|XX 13 wm wm rfl rfl rfl<|JU (vs:=[_,_,_,_,_,_,_,_]) I I I Qi I .here tC (λ_ h=>h.1.1.1.1) .h8 wZ<|Q9<|Yg<|QC<|QW ?_
   exact QQ (⟨c10,c16⟩) I (.JZ (c:=[_,_,_,_,_,_,_,_]) I Qi .here .nil) (rfl) λF h9=>by unfold Jq;rw[<-Uk,<-Ut];exact⟨h9.1.1.2,h9.2⟩
  refine Qo I (Qz XT) Qa XZ I I (λb15=>?_) (λw h=>h.imp (.cons _ tC) tA);refine Q9<|XX 5 wm wm rfl rfl rfl<|QM I (λ_ _ f k=>V1 (x:=x.lo) (r:=a.1) (ps:=[(y.lo,b.1)]) f k.1.1.1.1 (Qw.of (n:=1) (sz:=4) (cs:=ao (λe:Fr×Rat=>KV e.1) [(y.lo,b.1)]) k.1.2 I) (KP k.1.1.2.1) rfl wu ⟨hza.1,KP hzb.1⟩) λc10=>Q9<|XX 11 wm wm rfl rfl rfl<|QM I (λ_ _ f k=>Xm (x:=x.hi) (r:=a.2) (ps:=[(y.hi,b.2)]) f k.1.1.1.1.2 (Qw.of (n:=1) (sz:=4) (cs:=ao (λe:Fr×Rat=>KV e.1) [(y.hi,b.2)]) k.1.2 I) (KP k.1.1.1.2.2) rfl wu ⟨hza.2,KP hzb.2⟩) λc16=>Q9<|Jk 12 wm rfl rfl<|QK (Qx I Z4 Ji (.cons (vs:=[_,_,_,_]) I I I .h4 (.cons (vs:=[_,_,_,_]) I I I (.skip (.skip (.skip (.skip .h4)))) .nil)))<|Q9<|XX 13 wm wm rfl rfl rfl<|JU (vs:=[_,_,_,_,_,_,_,_]) I I I Qi I .here tC (λ_ h=>h.1.1.1.1) .h8 wZ<|Q9<|Yg<|QC<|QW ?_
  exact QQ (⟨c10,c16⟩) I (.JZ (c:=[_,_,_,_,_,_,_,_]) I Qi .here .nil) (rfl) λF h9=>by unfold Jq;rw[<-Uk,<-Ut];exact⟨h9.1.2,h9.2⟩
 refine Qo I (Qz XT) Qa XZ I I (λb15=>?_) (λw h=>h.imp (.cons _ tC) w9);refine Q9<|XX 4 wm wm rfl rfl rfl ?_
 refine Qo I (Qz XT) Qa XZ I I (λb9=>?_) (λw h=>h.imp (.cons _ tC) tA);refine Q9<|XX 5 wm wm rfl rfl rfl<|QM I (λ_ _ f k=>V1 (x:=x.lo) (r:=a.1) (ps:=[(y.lo,b.1)]) f k.1.1.1.1 (Qw.of (n:=1) (sz:=4) (cs:=ao (λe:Fr×Rat=>KV e.1) [(y.lo,b.1)]) k.2 I) (KP k.1.1.2.1) rfl wu ⟨hza.1,KP hzb.1⟩) λc10=>Q9<|XX 11 wm wm rfl rfl rfl<|QM I (λ_ _ f k=>Xm (x:=x.hi) (r:=a.2) (ps:=[(y.hi,b.2)]) f k.1.1.1.1.2 (Qw.of (n:=1) (sz:=4) (cs:=ao (λe:Fr×Rat=>KV e.1) [(y.hi,b.2)]) k.1.1.2 I) (KP k.1.1.1.2.2) rfl wu ⟨hza.2,KP hzb.2⟩) λc16=>Q9<|Jk 12 wm rfl rfl<|QK (Qx I Z4 Ji (.cons (vs:=[_,_,_,_]) I I I .h4 (.cons (vs:=[_,_,_,_]) I I I (.skip (.skip (.skip (.skip .h4)))) .nil)))<|Q9<|XX 13 wm wm rfl rfl rfl<|JU (vs:=[_,_,_,_,_,_,_,_]) I I I Qi I .here tC (λ_ h=>h.1.1.1.1) .h8 wZ<|Q9<|Yg<|QC<|QW ?_
 exact QQ (⟨c10,c16⟩) I (.JZ (c:=[_,_,_,_,_,_,_,_]) I Qi .here .nil) (rfl) λF h9=>by unfold Jq;rw[<-Uk,<-Ut];exact⟨h9.1.2,h9.2⟩
theorem jJ{x y:Sp}(hF:Fits F w)(h:Jj F x a)(h':Jj F y b)(hza:Xb a 100000000)(hzb:Xb b 100000000):Qe prog 272 [x.v,y.v] w F (.bool (OL a b)):=by
 refine QT.intro (G:=λF=>Jj F x a/\Jj F y b) func272 rfl wy rfl rfl hF (λF' hF'=>⟨h.le hF',h'.le hF'⟩)<|QKO<|Qu rfl (vs:=[_,_,_,_,_,_,_,_]) rfl λb2=>Qu rfl (vs:=[_,_,_,_,_,_,_,_]) rfl λb3=>wQ rfl<|QKO<|QA (QH rfl Xs Qa)<|QA (wJ I Qa .here)<|QA (QH rfl Xs Qa)<|QA (wJ I Qa .u1)<|QI rfl (λ_ _ f k=>GU (x:=y.lo) (y:=x.lo) (r:=b.1) (s:=a.1) f k.2.1 k.1.1 hzb.1 hza.1) λ_=>QA (QU rfl rfl rfl)<|QJD rfl ?_
 refine Qs (t:=11) rfl (λhb11=>?_) λhb11=>?_
 ·refine QL I I<|QA (QH I Xr Qa)<|QL I I<|QA (wL I Qa .u1)<|QL I I<|QA (QH I Xr Qa)<|QL I I<|QA (wL I Qa .here)<|QL I I<|QI I (λ_ _ f k=>GU (x:=x.hi) (y:=y.hi) (r:=a.2) (s:=b.2) f k.1.1.2 k.1.2.2 hza.2 hzb.2) λ_=>QKq 7 I ?_
  exact QKx I I (congrArg bL (by unfold OL;rw[hb11,ir])) w8
 refine QKq 11 I ?_;exact QKx I I (congrArg bL (by unfold OL;rw[hb11,ij])) w8
theorem G3{x:Sp}{b:Int}(hF:Fits F w)(h:Jj F x a)(hb:0<=b/\b<=64)(hza:Xb a 10000000):Xn prog 267 [x.v,.int .i64 b] w F (Xe a b):=by
 obtain⟨z1,z2⟩:=hza;have p1:JQ ((((2:Int):Rat))^b.toNat)<=200:=by
  have h1:=Wt (((2:Int):Rat)) b.toNat;have h2:JQ (((2:Int):Rat))<=2:=wu;have h3:b.toNat*JQ (((2:Int):Rat))<=64*2:=aY O h2;omega
 have hne:((((2:Int):Rat))^b.toNat).num≠0:=by rw[Bl];show(two b)≠0;unfold two;exact Int.ne_of_gt (Int.pow_pos wu)
 have m1:=Xp a.1 ((((2:Int):Rat))^b.toNat);have m2:=Xp a.2 ((((2:Int):Rat))^b.toNat);have f1:=dU (a.1*(((2:Int):Rat))^b.toNat);have f2:=dV (a.2*(((2:Int):Rat))^b.toNat);refine QT.intro (G:=λF=>Jj F x a) func267 rfl wy rfl rfl hF (λF' hF'=>h.le hF')<|QKO<|Qu rfl (vs:=[_,_,_,_,_,_,_,_]) rfl λb2=>Qc Ji λb4=>QJC<|QKO<|QI rfl (λ_ _ f k=>Sk (n:=2) f wu wu) λc6=>QJD rfl<|QI rfl (λ_ _ f h=>Me (x:=c6) (r:=(((2:Int):Rat))) (k:=b) f h.2 hb.1 O (by have h2:JQ (((2:Int):Rat))<=2:=wu;have h3:b.toNat*JQ (((2:Int):Rat))<=64*2:=aY O h2;omega)) λc8=>Qc XZ λb5=>QR (vs:=[_,_,_,_]) I I I Qa I .here .h4 wV<|QJC<|QG<|JK (.cons_cons _ (.cons _ tC)) mixed wm<|QK (QH I Xs Qa)<|QK (wJ I Qa .u1)<|QK (wJ I Qa .here)<|QM I (λ_ _ f k=>Wl (x:=x.lo) (y:=c8) (r:=a.1) (s:=(((2:Int):Rat))^b.toNat) f k.1.1.1 k.2 O O) λc12=>QM I (λ_ _ f k=>IM (x:=c12) (r:=a.1*(((2:Int):Rat))^b.toNat) f k.2 O) λc13=>QM I (λ_ _ f k=>EB (g:=c13) (a:=(a.1*(((2:Int):Rat))^b.toNat).floor) f k.2) λc14=>QK (wJ I Qa .here) ?_
 refine QM I (λ_ _ f k=>jI (x:=c14) (y:=c8) (r:=(((a.1*(((2:Int):Rat))^b.toNat).floor:Int):Rat)) (s:=(((2:Int):Rat))^b.toNat) f k.2 k.1.1.1.2 hne O O) (λc16=>QK (QH I Xr Qa)<|QK (wL I Qa .u1)<|QK (wJ I Qa .here)<|QM I (λ_ _ f k=>Wl (x:=x.hi) (y:=c8) (r:=a.2) (s:=(((2:Int):Rat))^b.toNat) f k.1.1.1.1.1.1.2 k.1.1.1.1.2 O O) λc20=>QM I (λ_ _ f k=>uX (x:=c20) (r:=a.2*(((2:Int):Rat))^b.toNat) f k.2 O) λc21=>QM I (λ_ _ f k=>EB (g:=c21) (a:=-(-(a.2*(((2:Int):Rat))^b.toNat)).floor) f k.2) λc22=>QK (wJ I Qa .here)<|QM I (λ_ _ f k=>jI (x:=c22) (y:=c8) (r:=((-(-(a.2*(((2:Int):Rat))^b.toNat)).floor:Int):Rat)) (s:=(((2:Int):Rat))^b.toNat) f k.2 k.1.1.1.1.1.1.1.2 hne O O) λc24=>QK (Qx I Z4 Ji (.cons (vs:=[_,_,_,_]) I I I .h4 (.cons (vs:=[_,_,_,_]) I I I (.skip (.skip (.skip (.skip .h4)))) .nil)))<|JU (vs:=[_,_,_,_,_,_,_,_]) I I I Qi I .u1 tC (λ_ h=>h.1.1.1.1.1.1.1.1) .h8 wZ<|Q5<|QC<|QW ?_);exact QQ (⟨c16,c24⟩) I (.JZ (c:=[_,_,_,_,_,_,_,_]) I Qi .u1 .nil) (rfl) λF h9=>by rw[yg];exact⟨h9.1.1.1.1.2,h9.2⟩
theorem ke{x:Sp}(hF:Fits F w)(h:Jj F x a)(hza:Xb a 100000000):X1 prog 191 [x.v] w F (q9 a):=by
 refine QT.intro (G:=λF=>Jj F x a) func191 rfl wy rfl rfl hF (λF' hF'=>h.le hF')<|QKO<|Qu rfl (vs:=[_,_,_,_,_,_,_,_]) rfl λb1=>Qc XZ λb2=>QJC<|QG<|JK (.cons _ tC) mixed wm<|QK (QH rfl Xr Qa)<|QK (wL I Qa .here)<|QK (QH rfl Xs Qa)<|QK (wJ I Qa .here)<|QM rfl (λ_ _ f k=>Ux (x:=x.lo) (r:=a.1) f k.1) λc7=>QK (QH rfl Xs Qa)<|QK (wJ I Qa .here)<|QK (QH rfl Xr Qa)<|QK (wL I Qa .here)<|QM rfl (λ_ _ f k=>Ux (x:=x.hi) (r:=a.2) f k.1.2) λc12=>?_
 refine Qo I (Qz XT) Qa XZ I I (λb13=>?_) (λw h=>h.imp (.cons _ tC) λF h=>h.1.1);refine QM I (λw F hF ⟨⟨⟨hX,h7⟩,h12⟩,hs13⟩=>Xm (x:=x.hi) (r:=a.2) (ps:=[(c7,-a.1),(x.lo,a.1),(c12,-a.2)]) hF hX.2 (Qw.of (n:=3) (sz:=4) (cs:=ao (λe:Fr×Rat=>KV e.1) [(c7,-a.1),(x.lo,a.1),(c12,-a.2)]) hs13 rfl) (Ez h7 hX.1 h12) rfl wu ⟨hza.2,Ez (by rw[Vw];exact hza.1) hza.1 (by rw[Vw];exact hza.2)⟩) (λc14=>JU (vs:=[_,_,_,_]) I I I Qa I .here tC (λ_ h=>h.1.1.1.1) .h4 wV<|Q5<|QC<|QW ?_);exact QQ (c14) rfl (.JZ (c:=[_,_,_,_]) I Qa .here .nil) (rfl) tB
end Go.Proofs.YtpmehagnedbkhaaGreatDoor
