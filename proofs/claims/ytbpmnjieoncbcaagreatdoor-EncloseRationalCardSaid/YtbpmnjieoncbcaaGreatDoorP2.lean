/- Steps of the proof of the theorem in the last file. -/
import Derived.Test.YtbpmnjieoncbcaaGreatDoorP1
import Derived.MapKept
import Derived.Maps.RangeRun
import Derived.Lib.ItoaLen
import Derived.Shelf.SlSortCmp.PdqK
import Derived.Ground.SlsfProg
import Derived.Test.YtbpmnjieoncbcaaGreatDoorProg
import Derived.Sort.AssemblyPlain
import Derived.Shelf.SlSortCmp.NoneTotal
import Derived.RangeFuncLeaves
import Derived.RangeFuncSeq
import Derived.OwnWalkIn
import Derived.OrdersIn
import Derived.ChangeKeysEq
import Derived.KernelRfl
set_option linter.all false
set_option maxHeartbeats 4000000
open Go.Proofs.Tryz
open List renaming mem_map_of_mem → aa,cons_append → ab,map_cons → af,nil_append → ag,range → ai,length_append → aj,flatMap → ak,mem_cons_of_mem → aq,length_cons → ar,getElem?_eq_getElem → av,drop_of_length_le → ax,mem_cons → ay,mem_cons_self → aB,take_length → aC,length_erase_of_mem → aG,not_mem_nil → aI,contains_eq_mem → aJ,map_append → aL,length_take → aQ,take_append_drop → aR,getElem?_toArray → aS,flatMap_append → aW,length_set → aZ,getElem?_eq_none → bc,exists_cons_of_ne_nil → bh,sublist_append_right → bm,length_map → bz,flatMap_cons → bD,perm_append_comm → bI,foldl_cons → bL,append_assoc → bQ,sum_cons → bR,take_of_length_le → bT,length_pos_of_mem → bU,mem_append → bW,length_nil → bX,length_singleton → ee,nodup_nil → ef,mem_of_mem_take → ei,mem_singleton → ey,pairwise_map → eF,mem_map → eG,length_range → eH,perm_middle → eN,any_eq_true → eO,range' → eP,sum_append → eT,append_nil → eU,perm_ext_iff_of_nodup → eX,mem_of_find?_eq_some → eY,all_cons → e8,getElem?_cons_succ → fc,map_nil → fe,mem_of_getElem? → fm,map → fp,getElem?_append → fq,length_zipWith → fC,getElem_of_mem → fD,getElem?_map → fJ,foldl_append → fK,filter_cons → fO,drop_append → fP,nodup_cons → fU,mem_filter → fV,find?_some → fW,replicate → hJ,map_map → ir
open Bool renaming and_eq_true → ae,not_eq_true' → aO,eq_iff_iff → ba,or_eq_true → bA,false_or → fa,false_and → ic,true_and → im,not_true → iq
open Rat renaming mul_le_mul_of_nonneg_left → ah,le_trans → ao,le_refl → aD,add_zero → aH,mul_le_mul_of_nonneg_right → aM,pow_succ → aN,zero_add → aP,divInt → aU,add_assoc → aV,pow_zero → bj,le_total → bF,mul_assoc → bK,pow_nonneg → bO,add_comm → bV,divInt_mul_right → ek,divInt_eq_div → eI,le_of_lt → fh,mul_one → fz,not_le → fG,intCast_mul → fX,mul_zero → iu,one_mul → iB,neg_mul → iC,div_def → iD
open Nat renaming zero_le → au,beq → aE,eq_of_beq_eq_true → aF,le_trans → aT,mul_le_mul → aX,le_refl → aY,lt_or_ge → bG,zero_add → bM,pow_add → ep,eq_zero_or_pos → eD,sub_zero → eK,pow_pos → eR,mul_assoc → fb,zero_mul → fi,mul_zero → fj,mul_le_mul_right → fA,add_mul → fB,pos_of_ne_zero → fH,lt_of_lt_of_le → fI,strongRecOn → fY,not_lt_zero → fZ,sub_self → iw,mul_comm → ix,pow_one → iE
open Go.Value renaming int → aA,bool → bJ
open List.Perm renaming refl → aK,swap → eM,flatMap_right → eV
open Go.Region renaming waitsFor → bw,ready → eB,binds → eC,waitsFor_spec → ff
open Int renaming natAbs_natCast → bB,natAbs_mul → er,lt_or_le → fk,lt_trichotomy → fQ,natCast_mul → ia,pow_succ → iy
open Go.MapKept renaming run_getObj_map → bC,run_setObj_map → eZ,bytes_beq → fy
open Array renaming getElem?_append → bH,getElem?_eq_none → bS,ext_getElem? → ew,all_eq_true_iff_forall_mem → eE,getElem?_modify → fg,ext' → fF
open Go.Fence renaming wide → bN
open Go.Result renaming andThen_ok → bP
open List.Pairwise renaming nil → bY
open Go.Sem renaming run_bind → bZ,run_pure → fl
open Option.some renaming inj → eu
open Option renaming none_or → eQ
open Prod.mk renaming injEq → eW
open Go.ByteArray renaming toList_eq → e9
open List.cons renaming injEq → fu
open Go.Instr renaming buildSlice → fL,beginRound → fM,mapUpdate → fT,findNow → ib,lookup → il,fill → iA
open ByteArray renaming mk → fN
open Go.Proofs.SlLaysF0 renaming n14 → fR
open Go.Oper renaming semAt_plain → fS,uponIn → iz
open Go.Lib renaming itoa → ig,compareInt → ij
namespace Go.Proofs.YtbpmnjieoncbcaaGreatDoor
variable{g:FuncId}{T et kt:TypeId}{N c cap i j k m n:Nat}{x:Operand}{P:Program}{l:List Int}{y:Rat}{w:World}{F F':Gs}{a b:Rat×Rat}{A seen u:List Nat}{f:Rat->Rat->Rat}{α:Type}{β:Nat->Nat}
open Go.RowKit Ig
section
variable[Dr][df:Df]{P:Program}{Q:Exit->Act->World->Prop}{N:Nat}{m:Sl}{ops:Array Oper}{l:List Oper}{w0:World}{F0:Gs}{bs:List (Nat×Obj)}{G:Gs->Prop}{ty:TypeId}{pos:String}{aft:Array Edge}
theorem Ev{d:Nat}{t e:TypeId}{sz:Nat}{g:Bool}(ht:P.underlying t=some (.slice e))(hs:Z5 P e=some (g,sz))(k:∀b,JS P ops Q l N ((d,.slice (some ⟨b,0,none⟩) 0 0)::m) ⟨w0,F0,(b,.cells #[] e (0,0))::bs,G⟩)(hu:Hk e=true:=by rfl)(hd:J5 N (some d)=true:=by rfl):
  JS P ops Q (⟨some d,.buildSlice t 0 #[],ty,pos,aft,none⟩::l) N m ⟨w0,F0,bs,G⟩:=λa w ha hw=>wpList_plain rfl λK hK=>by
 refine upon_value (v:=.slice (some ⟨w.heap.size,0,none⟩) 0 0) (w':=w.alloc (.cells #[] e)) ?_ (hK _ _ (k _ _ _ (ha.put hd _) (hw.alloc _ (ZL hu))));have hrun:(fL t 0 #[]).run P w = .ok (.slice (some ⟨w.heap.size,0,none⟩) 0 0) (w.alloc (.cells #[] e)):=by
  have hf:iA (λi=>some (i*sz,sz)) (Array.map (λx=>(#[]:Array Value)[x%(#[]:Array Value).size]!) (Array.range 0)) []=some #[]:=by simp[iA]
  simp only[fL,bZ,run_underlying ht,bP,Ky hs,fi,if_neg (show ¬0>2^24 by omega),fl,if_true,hf,newRow,run_newObj];rfl
 simp[execOp,hrun]
theorem O6{e e':TypeId}{sz:Nat}{v:Value}{cs:List Value}{ob:List (Nat×Obj)}{S:World->Prop}(hx:ev m x=some v)(hr:Q9 e' sz v n cs ob)(hT:G9 P T=some e):Qt P N m S (.call ⟨.builtin .len,#[x],#[T]⟩) ty (.int .i64 n):=by
 cases hr with
 |nil=>exact Qh hx hT
 |some=>exact Qh hx hT
end
theorem YS{Q:Exit->Act->World->Prop}{ops:Array Oper}{l:List Oper}{m:Sl}{E E':Env}(h:∀w,St E w->St E' w)(k:JS P ops Q l N m E'):JS P ops Q l N m E:=λa w ha hw=>k a w ha (h w hw)
def Ak:Js 0=[48]:=by
 have h:(0:Rat).num=0:=rfl;unfold Js;rw[if_pos wy,h,XT wu];exact Ya
def Ax(x:Rat):x.num<0↔x<0:=by rw[<-fG,<-Rat.num_nonneg];omega
theorem Ip(x:Rat):MG x.num=if x<0 then -1 else if x=0 then 0 else 1:=by
 unfold MG;by_cases h:x<0
 ·rw[if_pos h,if_pos ((Ax x).2 h)]
 rw[if_neg h,if_neg (λg=>h ((Ax x).1 g))];by_cases h0:x=0
 ·rw[if_pos h0,if_pos (Rat.num_eq_zero.2 h0)]
 rw[if_neg h0,if_neg (λg=>h0 (Rat.num_eq_zero.1 g))]
structure ZO{α:Type}(l:List α)(f:α->Int) where
 i:Nat
 le:i<=l.length
 h:Qu (l.map f)=Qu ((l.map f).drop i)
section
variable{α:Type}[Inhabited α]{l:List α}{f:α->Int}
def UJ(hi:i<l.length):(l.map f)[i]'(by simpa using hi)=f (el l i):=by rw[List.getElem_map,JW hi]
def ZO.next(s:ZO l f)(hi:s.i<l.length)(h:f (el l s.i)=0):ZO l f:=⟨s.i+1,hi,by
 rw[s.h,Wm (by simpa using hi) (by rw[UJ hi];exact h)]⟩
def ZO.hit(s:ZO l f)(hi:s.i<l.length)(h:f (el l s.i)≠0):Qu (l.map f)=f (el l s.i):=by
 rw[s.h,Db (by simpa using hi) (by rw[UJ hi];exact h),UJ hi]
def ZO.stop(s:ZO l f)(hi:l.length<=s.i):Qu (l.map f)=0:=by
 rw[s.h,ax (by simpa using hi)];rfl
end
def ZO.start{α:Type}(l:List α)(f:α->Int):ZO l f:=⟨0,au _,rfl⟩
structure W9{α:Type}(l:List α)(p:α->Bool) where
 i:Nat
 le:i<=l.length
 h:l.all p=(l.drop i).all p
section
variable{α:Type}[Inhabited α]{l:List α}{p:α->Bool}
def W9.next(s:W9 l p)(hi:s.i<l.length)(h:p (el l s.i)=true):W9 l p:=⟨s.i+1,hi,by rw[s.h,Bo hi,e8,h,im]⟩
def W9.hit(s:W9 l p)(hi:s.i<l.length)(h:p (el l s.i)=false):l.all p=false:=by rw[s.h,Bo hi,e8,h,ic]
def W9.stop(s:W9 l p)(hi:l.length<=s.i):l.all p=true:=by rw[s.h,ax hi];rfl
end
def W9.start{α:Type}(l:List α)(p:α->Bool):W9 l p:=⟨0,au _,rfl⟩
def Pc(p:List UInt8×List UInt8):List Value:=[tx p.1,tx p.2]
def KZ(p:List UInt8×List UInt8):(Pc p).length=2:=rfl
def qR(x y:Rat):Rat:=if Yb x y<=0 then x else y
def qT(x y:Rat):Rat:=if Yb x y>=0 then x else y
def Px{x:Rat}(hx:JU x<=k)(hy:JU y<=k):JU (qR x y)<=k:=by unfold qR;split<;>assumption
def Py{x:Rat}(hx:JU x<=k)(hy:JU y<=k):JU (qT x y)<=k:=by unfold qT;split<;>assumption
def ZU(i:Nat):Rat:=aU 1 2^i
theorem qg(i:Nat):(ZU i).num≠0:=by
 intro e;have h0:=Rat.num_eq_zero.1 e;unfold ZU at h0;have h1:aU 1 2≠0:=by
  intro h;have:=L1.1;rw[h]at this;exact absurd this wu
 induction i with
 |zero=>rw[bj]at h0;exact absurd h0 wu
 |succ n ih =>
  rw[aN]at h0;rcases Rat.mul_eq_zero.1 h0 with h | h
  ·exact ih (Rat.num_eq_zero.2 h) h
  exact h1 h
theorem VU{s:List UInt8}(hF:Fits F w):Qg prog 17 [tx s] w F (.agg #[tx s,tx s]):=by
 refine QV.intro (G:=λF=>True) func17 rfl wy rfl rfl hF w8<|QI7<|Qc Xe λb2=>QHz<|wR rfl<|QH0 rfl<|QA (Q2 rfl ZZ Xe (wP rfl rfl rfl))<|QU (vs:=[_,_]) rfl rfl rfl Jq rfl .here .h2 wT<|QHz<|QY ?_
 exact QS (()) I (.JX (c:=[_,_]) I Jq .here .nil) (rfl) w8
def YK(x:Rat)(i:Nat):Rat:=((x/ZU i).floor:Rat)*ZU i
section
open Go Go.RowKit
section
variable[Dr][df:Df]
def W2(l:List Oper)(r:List Nat)(i:Nat):Bool:=match l[i]? with
 |some o=>o.after.all λe=>!(eC .any e)||!(r.contains e.on)
 |none=>false
def Lb(l:List Oper)(i:Nat):Bool:=match l[i]? with
 |some o=>J2 o.op
 |none=>false
def EF(l:List Oper)(r:List Nat):Option Nat:=r.find? λi=>Lb l i&&W2 l r i
def Pu(l:List Oper):Bool :=
 Region.noSelect l.toArray&&WK .any l.toArray l.length&&(ai l.length).all λj=>match l[j]? with
  |none=>false
  |some oj=>(ai j).all λi=>match l[i]? with
   |none=>false
   |some oi=>if J2 oi.op||J2 oj.op then(bw .any l.toArray j i||oi.apart l.toArray oj)else true
theorem Ps{l:List Oper}(h:Pu l=true){i j:Nat}(hij:i<j){oi oj:Oper}(hi:l[i]?=some oi)(hj:l[j]?=some oj)(hq:(J2 oi.op||J2 oj.op)=true):(bw .any l.toArray j i||oi.apart l.toArray oj)=true:=by
 simp only[Pu,ae]at h;have hjl:j<l.length:=by rcases bG j l.length with g | g;exact g;rw[bc g]at hj;cases hj
 have h1:=List.all_eq_true.1 h.2 j (List.mem_range.2 hjl);rw[hj]at h1;have h2:=List.all_eq_true.1 h1 i (List.mem_range.2 hij);rw[hi]at h2;simp only at h2;rw[if_pos hq]at h2;exact h2
section
variable{P:Program}{Q:Exit->Act->World->Prop}{S:World->Prop}
def BK(P:Program)(l:List Oper)(Q:Exit->Act->World->Prop)(S:World->Prop):Nat->List Nat->Act->World->Prop
 |0,_,a,w=>Q .normal a w
 |n+1,r,a,w=>match EF l r with
  |some i=>∃o v,l[i]?=some o/\YieldsIf P l.toArray S o v a/\BK P l Q S n (r.erase i) (a.put o.dst v) w
  |none=>∀i∈r,W2 l r i=true->wpOp P l.toArray (λ_ _ _=>False) i (λa' w'=>S w'/\BK P l Q S n (r.erase i) a' w') a w
theorem xO{l:List Oper}(hB:Pu l=true)(hQ:∀c a d v w,Q (.panic c) (Act.put a d v) w->Q (.panic c) a w):
  ∀(m:Nat) (r:List Nat) (listed:Array Bool) (a:Act) (w:World),r.length=m->r.Pairwise (·<·)->(∀i,i∈r↔i<l.length/\listed.getD i true=false)->listed.size=l.length ->
   (∀j oj,l.toArray[j]?=some oj->listed.getD j false=true->∀e∈oj.after,eC .any e=true->listed.getD e.on false=true)->S w->BK P l Q S m r a w->wpAnyH P .any l.toArray Q S m listed a w:=by
 have hB':=hB;simp only[Pu,ae]at hB';obtain⟨⟨hns,hord⟩,_⟩:=hB';have hsel:=Region.noSelect_spec hns;intro m
 induction m with
 |zero =>
  intro r listed a w hm hs hr hsz hcl hS h;have:r=[]:=List.length_eq_zero_iff.1 hm;subst this;refine⟨?_,h⟩;rw[List.eq_nil_iff_forall_not_mem];intro i hi;obtain⟨h1,o,ho,_⟩:=mem_ready.1 hi;have hlt:i<l.length:=by have:=(Array.getElem?_eq_some_iff.1 ho).1;simpa using this
  have:=(hr i).2 ⟨hlt,h1⟩;cases this
 |succ m ih =>
  intro r listed a w hm hs hr hsz hcl hS h;have hready:∀j,j∈eB .any l.toArray listed↔j∈r/\W2 l r j=true:=by
   intro j;rw[mem_ready,hr j];constructor
   ·rintro⟨h1,o,ho,h2⟩;have hlt:j<l.length:=by have:=(Array.getElem?_eq_some_iff.1 ho).1;simpa using this
    refine⟨⟨hlt,h1⟩,?_⟩;unfold W2;have ho':l[j]?=some o:=by simpa using ho
    rw[ho'];rw[eE];intro e he;cases hb:eC .any e with
    |false=>rfl
    |true =>
     have:=h2 e he hb;simp only[iq,fa,aO,aJ,decide_eq_false_iff_not];intro hmem;have h3:=((hr e.on).1 hmem).2;rw[getD_both h3]at this;cases this
   rintro⟨⟨hlt,h1⟩,h2⟩;obtain⟨o,ho,hed⟩:=ZA hord hlt;refine⟨h1,o,ho,λe he hb=>?_⟩;unfold W2 at h2;have ho':l[j]?=some o:=by simpa using ho
   rw[ho',eE]at h2;have:=h2 e he;rw[hb]at this;simp only[iq,fa,aO,aJ,decide_eq_false_iff_not]at this;cases hv:listed.getD e.on false with
   |true=>rfl
   |false =>
    have hel:=hed e he hb;exact absurd ((hr e.on).2 ⟨O,getD_in O hv⟩) this
  have next:∀j,j∈eB .any l.toArray listed->∀a' w',S w'->BK P l Q S m (r.erase j) a' w'->wpAnyH P .any l.toArray Q S m (listed.setIfInBounds j true) a' w':=by
   intro j hj a' w' hS' h';have hjr:=((hready j).1 hj).1;have hjsz:j<listed.size:=by rw[hsz];exact((hr j).1 hjr).1
   refine ih (r.erase j) _ a' w' (by rw[aG hjr];omega) (hs.sublist List.erase_sublist) (λk=>?_) (by simpa using hsz) (λk ok hk hl e he hb=>?_) hS' h'
   ·rw[List.Nodup.mem_erase_iff (hs.imp λh=>Nat.ne_of_lt h),hr k];by_cases hjk:j=k
    ·subst hjk;simp[hjsz]
    rw[getD_set_ne true hjk];simp[Ne.symm hjk]
   by_cases hjk:j=k
   ·subst hjk;obtain⟨_,oj,hoj,hall⟩:=mem_ready.1 hj;have:ok=oj:=eu (hk.symm.trans hoj);subst this;exact getD_set_true (hall e he hb)
   rw[getD_set_ne false hjk]at hl;exact getD_set_true (hcl k ok hk hl e he hb)
  unfold BK at h;cases hp:EF l r with
  |some j =>
   rw[hp]at h;obtain⟨oj,v,hoj0,hy,h'⟩:=h;have hoj:l.toArray[j]?=some oj:=by simpa using hoj0
   have hjr:j∈r:=eY hp;have hqr:=fW hp;simp only[ae]at hqr;have hq:J2 oj.op=true:=by have:=hqr.1;unfold Lb at this;rw[hoj0]at this;exact this
   have hj:j∈eB .any l.toArray listed:=(hready j).2 ⟨hjr,hqr.2⟩;have hjs:=mem_ready.1 hj;have happ:∀k ok,l.toArray[k]?=some ok->k≠j->listed.getD k true=false->(∀e∈ok.after,eC .any e=true->e.on≠j)->oj.apart l.toArray ok=true:=by
    intro k ok hok hkj hun hno;have hnw:bw .any l.toArray k j=false:=by
     cases hv:bw .any l.toArray k j with
     |false=>rfl
     |true =>
      obtain⟨o',ho',e,he,hb,hon⟩:=ff hv;have:o'=ok:=eu (ho'.symm.trans hok);subst this;exact absurd hon (hno e he hb)
    have hnw2:bw .any l.toArray j k=false:=by
     cases hv:bw .any l.toArray j k with
     |false=>rfl
     |true =>
      obtain⟨o',ho',e,he,hb,hon⟩:=ff hv;obtain⟨_,o2,ho2,hall⟩:=hjs;have:o'=o2:=eu (ho'.symm.trans ho2);subst this;have:=hall e he hb;rw[hon,getD_both hun]at this;cases this
    rcases Nat.lt_or_gt_of_ne hkj with hlt | hgt
    ·have:=Ps hB hlt (by simpa using hok) (by simpa using hoj) (by simp[hq]);rw[hnw2]at this;exact R3 (by simpa using this)
    have:=Ps hB hgt (by simpa using hoj) (by simpa using hok) (by simp[hq]);rw[hnw]at this;simpa using this
   exact wpAnyH_first hoj hsel (λc a w h=>hQ c a _ v w h) m listed a w happ hj hy hS (next j hj _ w hS h')
  |none =>
   rw[hp]at h
   match r,hm,hs,hr,h,hready,next with
   |i::r,hm,hs,hr,h,hready,next =>
    have hil:=(hr i).1 wz;have hmin:∀j,j<i->listed.getD j false=true:=by
     intro j hj;cases hv:listed.getD j false with
     |true=>rfl
     |false =>
      have hjl:j<l.length:=O;have:=(hr j).2 ⟨hjl,getD_in O hv⟩;rcases List.mem_cons.1 this with e | e
      ·omega
      have:=(List.pairwise_cons.1 hs).1 j e;omega
    obtain⟨oi,hoi,hed⟩:=ZA hord hil.1;have hri:i∈eB .any l.toArray listed:=mem_ready.2 ⟨hil.2,oi,hoi,λe he hb=>hmin _ (hed e he hb)⟩;refine⟨λh0=>(by rw[h0]at hri;cases hri),λj hj=>?_⟩;have hj':=(hready j).1 hj;exact AD (wpOp_mono (λa' w' h=>⟨h.1,next j hj a' w' h.1 h.2⟩) (h j hj'.1 hj'.2))
theorem SS{l:List Oper}{Q':Exit->Act->World->Prop}(hB:Pu l=true)(hQ:∀c a w,¬Q' (.panic c) a w){a:Act}{w:World}(hS:S w)(h:BK P l Q' S l.length (eP 0 l.length) a w):
  wpAny P .any l.toArray Q' l.length (Array.replicate l.length false) a w:=by
 refine wpAny_of_held _ _ _ _ (xO hB (λc a d v w h=>absurd h (hQ c _ w)) l.length (eP 0 l.length) _ a w wz List.pairwise_lt_range' (λi=>?_) wz (λj oj _ hl=>(by rw[getD_replicate_false]at hl;cases hl)) hS h);rw[List.mem_range'_1];constructor
 ·intro h;have:i<l.length:=O;simp[this]
 intro h;omega
theorem Pk{id:Nat}{a:Act}{l:List Oper}(hm:P.follows .mixedOrders=true)(hB:Pu l=true)(hS:S { w with drawn:=w.drawn+1 })
  (h:BK P l (ZT (Q .normal)) S l.length (eP 0 l.length) a { w with drawn:=w.drawn+1 }):(Code.region id l.toArray true).wp P Q a w:=by
 refine wp_region_any hm ?_;have:=SS (P:=P) (Q':=ZT (Q .normal)) hB (λc a w h=>h) hS h;simpa using Wg (Q':=Q) (λe a w h=>by cases e<;>first | exact h | exact h.elim) _ _ _ _ this
end
section
variable{P:Program}{Q:Exit->Act->World->Prop}{N:Nat}{m:Sl}{E E0:Env}{l:List Oper}{r r':List Nat}{w0:World}{F0:Gs}{bs:List (Nat×Obj)}{G:Gs->Prop}
def JT(P:Program)(l:List Oper)(Q:Exit->Act->World->Prop)(E0:Env)(r:List Nat)(N:Nat)(m:Sl)(E:Env):Prop:=(∀w,St E w->St E0 w)->∀a w,Ja N m a->St E w->BK P l Q (St E0) r.length r a w
def EC(P:Program)(l:List Oper)(Q:Exit->Act->World->Prop)(E0:Env)(r:List Nat):Act->World->Prop:=λa w=>BK P l Q (St E0) r.length r a w
theorem JB(h:JT P l Q E0 r N m E):JD P l.toArray (ZT (EC P l Q E0 r)) E0 [] N m E:=λhE a w ha hw=>h hE a w ha hw
theorem TP(h:i∈r):r.length=(r.erase i).length+1:=by
 rw[aG h];have:=bU h;omega
theorem Jl(i:Nat){o:Oper}(hp:EF l r=some i)(ho:l[i]?=some o)(he:r.erase i=r')(h:JD P l.toArray (ZT (EC P l Q E0 r')) E0 [o] N m E):JT P l Q E0 r N m E:=by
 intro hE a w ha hw;subst he;have hi:i∈r:=eY hp;rw[TP hi];unfold BK;rw[hp];have hq:J2 o.op=true:=by
  have:=fW hp;simp only[ae]at this;have:=this.1;unfold Lb at this;rw[ho]at this;exact this
 rcases h hE a w ha hw with ⟨_,v,h1,h2⟩ | ⟨h1,_⟩
 ·exact⟨o,v,ho,h1,h2⟩
 rw[hq]at h1;cases h1
theorem Pl{o:Oper}(ho:l[i]?=some o)(hq:J2 o.op=false)(h:JD P l.toArray (ZT (EC P l Q E0 r')) E0 [o] N m E)(hE:∀w,St E w->St E0 w){a:Act}{w:World}(ha:Ja N m a)(hw:St E w):
  wpOp P l.toArray (λ_ _ _=>False) i (λa' w'=>St E0 w'/\EC P l Q E0 r' a' w') a w:=by
 have ho':l.toArray[i]?=some o:=by simpa using ho
 unfold wpOp;simp only[ho'];rcases h hE a w ha hw with ⟨h1,_⟩ | ⟨_,h2⟩
 ·rw[hq]at h1;cases h1
 split
 ·rename_i g;rw[if_pos g]at h2;exact .inl h2
 rename_i g;rw[if_neg g]at h2;exact h2
theorem QE6(hp:EF l r=none)(h:∀i∈r.filter (W2 l r),∃o,l[i]?=some o/\J2 o.op=false/\JD P l.toArray (ZT (EC P l Q E0 (r.erase i))) E0 [o] N m E)(hr:r≠[]:=by decide):JT P l Q E0 r N m E:=by
 intro hE a w ha hw;obtain⟨x,s,rfl⟩:=bh hr;show BK P l Q (St E0) (s.length+1) (x::s) a w;unfold BK;rw[hp];intro i hi hrd;obtain⟨o,ho,hq,hj⟩:=h i (List.mem_filter.2 ⟨hi,hrd⟩);have:=Pl ho hq hj hE ha hw;refine wpOp_mono (λa' w' h=>⟨h.1,?_⟩) this;have h2:=h.2;unfold EC at h2;rw[show s.length=((x::s).erase i).length by have:=TP hi;simp at this;omega];exact h2
theorem Xa(i:Nat){o:Oper}(hp:EF l r=none)(hl:r.filter (W2 l r)=[i])(ho:l[i]?=some o)(hq:J2 o.op=false)(he:r.erase i=r')(h:JD P l.toArray (ZT (EC P l Q E0 r')) E0 [o] N m E)(hr:r≠[]:=by decide):JT P l Q E0 r N m E :=
 QE6 hp (λk hk=>by rw[hl]at hk;cases List.mem_singleton.1 hk;exact⟨o,ho,hq,he ▸ h⟩) hr
theorem NR(i j:Nat){o u:Oper}{r2:List Nat}(hp:EF l r=none)(hl:r.filter (W2 l r)=[i,j])(ho:l[i]?=some o)(hu:l[j]?=some u)(hq:J2 o.op=false)(hq2:J2 u.op=false)(he:r.erase i=r')(he2:r.erase j=r2)
  (h:JD P l.toArray (ZT (EC P l Q E0 r')) E0 [o] N m E) (h2:JD P l.toArray (ZT (EC P l Q E0 r2)) E0 [u] N m E) (hr:r≠[]:=by decide):JT P l Q E0 r N m E :=
 QE6 hp (λk hk=>by
  rw[hl]at hk;simp only[ay,aI,or_false]at hk;rcases hk with rfl | rfl
  ·exact⟨o,ho,hq,he ▸ h⟩
  exact⟨u,hu,hq2,he2 ▸ h2⟩) hr
theorem Kr{id:Nat}{bs0:List (Nat×Obj)}(hb0:bs0.Sublist bs)(hm:P.follows .mixedOrders=true)(hB:Pu l=true)(hr:eP 0 l.length=r)(h:JT P l (ZT (Q .normal)) ⟨w0,F0,bs0,G⟩ r N m ⟨w0,F0,bs,G⟩):J P (.region id l.toArray true) Q N m ⟨w0,F0,bs,G⟩:=λa w ha hw=>by
 subst hr;refine Pk hm hB ((hw.imp hb0 λ_ h=>h).drew) ?_;have:=h (λ_ h=>h.imp hb0 λ_ h=>h) a _ ha hw.drew;simpa using this
theorem Yk(h:Fin Q .normal N m E):JT P l (ZT (Q .normal)) E0 [] N m E:=λ_=>h
end
end
end
def Vm(a:Rat×Rat)(n:Int):Rat×Rat:=(if(decide (n>0)&&(decide (n%2=0)&&(decide (MG a.1.num<0)&&decide (MG a.2.num>0))))=true then 0 else(Y3 (a.1^n.toNat) [a.2^n.toNat]).1,(Y3 (a.1^n.toNat) [a.2^n.toNat]).2)
end Go.Proofs.YtbpmnjieoncbcaaGreatDoor
namespace Ig
def Yd:List Int->List Int->Bool
 |x::a,y::b=>decide (y<x)||(decide (x=y)&&Yd a b)
 |_::_,[]=>true
 |[],_=>false
def before(a b:List Int):Bool:=decide (b.sum<a.sum)||(decide (a.sum=b.sum)&&Yd a b)
def EN:∀a:List Int,Yd a a=false
 |[]=>rfl
 |x::a=>by simp[Yd,EN a]
def M3:∀ {a b c:List Int},Yd a b=true->Yd b c=true->Yd a c=true
 |[],_,_,h,_=>by simp[Yd]at h
 |_::_,[],_,_,h=>by simp[Yd]at h
 |_::_,_::_,[],_,_=>rfl
 |x::a,y::b,z::c,h,k=>by
  simp only[Yd,bA,ae,decide_eq_true_eq]at h k ⊢;rcases h with h | ⟨h,h'⟩<;>rcases k with k | ⟨k,k'⟩
  ·left;omega
  ·left;omega
  ·left;omega
  right;exact⟨O,M3 h' k'⟩
def TK:∀a b:List Int,a=b\/Yd a b=true\/Yd b a=true
 |[],[]=>.inl rfl
 |[],_::_=>.inr (.inr rfl)
 |_::_,[]=>.inr (.inl rfl)
 |x::a,y::b=>by
  simp only[Yd,bA,ae,decide_eq_true_eq,fu];rcases fQ x y with h | h | h
  ·right;right;left;omega
  ·rcases TK a b with k | k | k
   ·left;exact⟨h,k⟩
   ·right;left;right;exact⟨h,k⟩
   right;right;right;exact⟨h.symm,k⟩
  right;left;left;omega
def before_irrefl(a:List Int):before a a=false:=by simp[before,EN]
def before_trans{a b c:List Int}(h:before a b=true)(k:before b c=true):before a c=true:=by
 simp only[before,bA,ae,decide_eq_true_eq]at h k ⊢;rcases h with h | ⟨h,h'⟩<;>rcases k with k | ⟨k,k'⟩
 ·left;omega
 ·left;omega
 ·left;omega
 right;exact⟨O,M3 h' k'⟩
def G2(a b:List Int):a=b\/before a b=true\/before b a=true:=by
 simp only[before,bA,ae,decide_eq_true_eq];rcases fQ a.sum b.sum with h | h | h
 ·right;right;left;exact h
 ·rcases TK a b with k | k | k
  ·left;exact k
  ·right;left;right;exact⟨h,k⟩
  right;right;right;exact⟨h.symm,k⟩
 right;left;left;exact h
abbrev Tm:=Rat×List Int
def XP:List Tm->List Int->Rat
 |[],_=>0
 |t::p,k=>(if t.2=k then t.1 else 0)+XP p k
def IB(p q:List Tm)(k:List Int):XP (p++q) k=XP p k+XP q k:=by
 induction p with
 |nil=>simp[XP,aP]
 |cons t p ih=>simp only[ab,XP,ih,aV]
structure Canon(p:List Tm):Prop where
 srt:p.Pairwise λx y=>before x.2 y.2=true
 nz:∀t∈p,t.1≠0
def Canon.nil:Canon []:=⟨bY,λ_ h=>by cases h⟩
def Canon.tail{t:Tm}{p:List Tm}(h:Canon (t::p)):Canon p:=⟨(List.pairwise_cons.1 h.srt).2,λx hx=>h.nz x (aq _ hx)⟩
def GU{p:List Tm}{k:List Int}(h:∀t∈p,t.2≠k):XP p k=0:=by
 induction p with
 |nil=>rfl
 |cons t p ih=>rw[XP,if_neg (h t wz),ih (λx hx=>h x (by simp[hx])),aP]
def Canon.head{t:Tm}{p:List Tm}(h:Canon (t::p)):XP (t::p) t.2=t.1:=by
 rw[XP,if_pos rfl,GU,aH];intro x hx e;have:=(List.pairwise_cons.1 h.srt).1 x hx;rw[e,before_irrefl]at this;cases this
def Canon.early{t:Tm}{p:List Tm}(h:Canon (t::p)){k:List Int}(hk:before k t.2=true):XP (t::p) k=0:=GU λx hx e=>by
 rcases List.mem_cons.1 hx with rfl | hx
 ·rw[e,before_irrefl]at hk;cases hk
 have:=before_trans hk ((List.pairwise_cons.1 h.srt).1 x hx);rw[e,before_irrefl]at this;cases this
def Tb:∀ {p q:List Tm},Canon p->Canon q->(∀k,XP p k=XP q k)->p=q
 |[],[],_,_,_=>rfl
 |[],y::q,_,hq,h=>by
  have:=h y.2;rw[hq.head]at this;exact absurd this.symm (hq.nz y wz)
 |x::p,[],hp,_,h=>by
  have:=h x.2;rw[hp.head]at this;exact absurd this (hp.nz x wz)
 |x::p,y::q,hp,hq,h=>by
  rcases G2 x.2 y.2 with e | e | e
  ·have h1:=h x.2;rw[hp.head]at h1;have h2:=hq.head;rw[<-e]at h2;rw[h2]at h1;have hxy:x=y:=Prod.ext h1 e;subst hxy;congr 1;refine Tb hp.tail hq.tail (λk=>?_);have h3:=h k;simp only[XP]at h3;generalize XP p k=a at *
   generalize XP q k=b at *
   grind
  ·have h1:=h x.2;rw[hp.head,hq.early e]at h1;exact absurd h1 (hp.nz x wz)
  have h1:=h y.2;rw[hq.head,hp.early e]at h1;exact absurd h1.symm (hq.nz y wz)
def WJ:List Tm->Tm->List Tm
 |[],t=>if t.1=0 then[]else[t]
 |x::p,t=>if before x.2 t.2=true then x::WJ p t else if x.2=t.2 then(if x.1+t.1=0 then p else(x.1+t.1,t.2)::p)else if t.1=0 then x::p else t::x::p
def OH(p:List Tm)(t:Tm)(k:List Int):XP (WJ p t) k=XP p k+(if t.2=k then t.1 else 0):=by
 induction p with
 |nil =>
  unfold WJ;split
  ·rename_i h;rw[h];simp[XP,aH]
  simp[XP,aP,aH]
 |cons x p ih =>
  unfold WJ;split
  ·simp only[XP,ih,aV]
  split
  ·rename_i h;split
   ·rename_i h0;simp only[XP];rw[h];by_cases hk:t.2=k
    ·simp only[hk,if_true];rw[aV,bV (XP p k),<-aV,h0,aP]
    simp only[hk,if_false,aP,aH]
   simp only[XP];rw[h];by_cases hk:t.2=k
   ·simp only[hk,if_true];rw[aV,aV,bV t.1]
   simp only[hk,if_false,aP,aH]
  split
  ·rename_i h0;rw[h0];simp[aH]
  simp only[XP];rw[bV]
def qS{p:List Tm}{t x:Tm}(h:x∈WJ p t):x∈p\/x.2=t.2:=by
 induction p with
 |nil =>
  unfold WJ at h;split at h
  ·cases h
  simp at h;subst h;exact .inr rfl
 |cons y p ih =>
  unfold WJ at h;split at h
  ·rcases List.mem_cons.1 h with rfl | h
   ·exact .inl wz
   rcases ih h with h | h
   ·exact .inl (by simp[h])
   exact .inr h
  split at h
  ·split at h
   ·exact .inl (by simp[h])
   rcases List.mem_cons.1 h with rfl | h
   ·exact .inr rfl
   exact .inl (by simp[h])
  split at h
  ·exact .inl h
  rcases List.mem_cons.1 h with rfl | h
  ·exact .inr rfl
  exact .inl h
def Canon.WJ{p:List Tm}(h:Canon p)(t:Tm):Canon (Ig.WJ p t):=by
 induction p with
 |nil =>
  unfold Ig.WJ;split
  ·exact Canon.nil
  rename_i h0;exact⟨List.pairwise_singleton _ _,λx hx=>by simp at hx;subst hx;exact h0⟩
 |cons x p ih =>
  have hs:=List.pairwise_cons.1 h.srt;unfold Ig.WJ;split
  ·rename_i hb;have hc:=ih h.tail;refine⟨List.pairwise_cons.2 ⟨λy hy=>?_,hc.srt⟩,λy hy=>?_⟩
   ·rcases qS hy with hy | hy
    ·exact hs.1 y hy
    rw[hy];exact hb
   rcases List.mem_cons.1 hy with rfl | hy
   ·exact h.nz _ wz
   exact hc.nz y hy
  rename_i hb;split
  ·rename_i he;split
   ·exact h.tail
   rename_i h0;refine⟨List.pairwise_cons.2 ⟨λy hy=>?_,hs.2⟩,λy hy=>?_⟩
   ·have:=hs.1 y hy;rw[he]at this;exact this
   rcases List.mem_cons.1 hy with rfl | hy
   ·exact h0
   exact h.nz y (by simp[hy])
  rename_i he;split
  ·exact h
  rename_i h0;have hb':before t.2 x.2=true:=by
   rcases G2 x.2 t.2 with q | q | q
   ·exact absurd q he
   ·exact absurd q hb
   exact q
  refine⟨List.pairwise_cons.2 ⟨λy hy=>?_,h.srt⟩,λy hy=>?_⟩
  ·rcases List.mem_cons.1 hy with rfl | hy
   ·exact hb'
   exact before_trans hb' (hs.1 y hy)
  rcases List.mem_cons.1 hy with rfl | hy
  ·exact h0
  exact h.nz y hy
def Xv(l:List Tm):List Tm:=l.foldl WJ []
def Re(l:List Tm):∀ {p:List Tm},Canon p->Canon (l.foldl WJ p)/\∀k,XP (l.foldl WJ p) k=XP p k+XP l k:=by
 induction l with
 |nil=>intro p h;exact⟨h,λk=>by simp[XP,aH]⟩
 |cons t l ih =>
  intro p h;obtain⟨h1,h2⟩:=ih (h.WJ t);exact⟨h1,λk=>by rw[bL,h2,OH,XP,aV]⟩
def IG(l:List Tm):Canon (Xv l):=(Re l Canon.nil).1
def OI(l:List Tm)(k:List Int):XP (Xv l) k=XP l k:=by
 rw[Xv,(Re l Canon.nil).2,XP,aP]
def U5(p q:List Tm):Prop:=∀k,XP p k=XP q k
def U5.refl(p:List Tm):U5 p p:=λ_=>rfl
def U5.trans{p q r:List Tm}(h:U5 p q)(h':U5 q r):U5 p r:=λk=>(h k).trans (h' k)
def Az{p l:List Tm}(hp:Canon p)(h:U5 p l):p=Xv l:=Tb hp (IG l) λk=>by rw[OI,h]
def RP{p:List Tm}(hp:Canon p):Xv p=p:=(Az hp (U5.refl p)).symm
def U5.perm{l m:List Tm}(h:l.Perm m):U5 l m:=by
 intro k
 induction h with
 |nil=>rfl
 |cons x _ ih=>rw[XP,XP,ih]
 |swap x y l=>simp only[XP];rw[<-aV,<-aV];congr 1;exact bV _ _
 |trans _ _ h1 h2=>exact h1.trans h2
def U5.cons{p q:List Tm}(t:Tm)(h:U5 p q):U5 (t::p) (t::q):=λk=>by rw[XP,XP,h]
def eqv_filter(p:List Tm):U5 (p.filter λt=>decide (t.1≠0)) p:=by
 induction p with
 |nil=>exact U5.refl _
 |cons t p ih =>
  rw[fO];split
  ·exact ih.cons t
  rename_i h;have h0:t.1=0:=by simpa using h
  intro k;rw[XP,h0,ih k];simp[aP]
def Wa(a b:List Int):List Int:=List.zipWith (·+·) a b
def IM{a b:List Int}(h:a.length=b.length):(Wa a b).length=a.length:=by simp[Wa,h]
def K2(s:Tm)(q:List Tm):List Tm:=q.map λt=>(s.1*t.1,Wa s.2 t.2)
def Zs(p q:List Tm):List Tm:=p.flatMap λs=>K2 s q
def Lh(s:Tm)(p q:List Tm):Zs (s::p) q=K2 s q++Zs p q:=by simp[Zs]
def DA(s:Tm)(p q:List Tm):K2 s (p++q)=K2 s p++K2 s q:=by simp[K2]
def ED(p p' q:List Tm):Zs (p++p') q=Zs p q++Zs p' q:=by simp[Zs]
end Ig
namespace Go.Proofs.YtbpmnjieoncbcaaGreatDoor
variable{g:FuncId}{T et kt:TypeId}{N c cap i j k m n:Nat}{x:Operand}{P:Program}{l:List Int}{y:Rat}{w:World}{F F':Gs}{a b:Rat×Rat}{A seen u:List Nat}{f:Rat->Rat->Rat}{α:Type}{β:Nat->Nat}
open Go.RowKit Ig
section
variable[Dr]
def PW(l:List Int):Prop:=(∀x∈l,0<=x/\x<=1000000)/\l.length<=1000
theorem PW.el(h:PW l){i:Nat}(hi:i<l.length):0<=Qn l i/\Qn l i<=1000000:=by rw[Yr hi];exact h.1 _ (Qv hi)
theorem Sq(hi:i<l.length):(l.take (i+1)).sum=(l.take i).sum+Qn l i:=by
 rw[XU hi,eT,Yr hi];simp
theorem PW.sum(h:PW l):∀i,i<=l.length->0<=(l.take i).sum/\(l.take i).sum<=i*1000000:=by
 intro i
 induction i with
 |zero=>intro _;simp
 |succ i ih =>
  intro hi;have h1:=ih O;have h2:=h.el (i:=i) O;rw[Sq O];omega
theorem Ov(l:List Int):Qu l=Qu (l.map λx=>x):=by rw[List.map_id']
def I0:List Int->List Int->Int
 |[],[]=>0
 |[],_::_=>-1
 |_::_,[]=>1
 |x::a,y::b=>if YE x y≠0 then YE x y else I0 a b
theorem Ol:∀a b:List Int,(I0 b a<0↔Yd a b=true)/\(I0 b a=0↔a=b)
 |[],[]=>by simp[I0,Yd]
 |[],_::_=>by simp[I0,Yd]
 |_::_,[]=>by simp[I0,Yd]
 |x::a,y::b=>by
  have ih:=Ol a b;unfold I0 Yd YE;by_cases h1:y<x
  ·simp[h1];omega
  by_cases h2:y=x
  ·subst h2;simp[ih.1,ih.2]
  have h3:¬x=y:=λe=>h2 e.symm;simp[h1,h2,h3]
theorem N7(x y:Int):ij x y=YE x y:=by
 unfold ij YE;by_cases h1:x<y
 ·simp[h1]
 by_cases h2:x=y
 ·subst h2;simp
 have h3:y<x:=O;simp[h1,h2,h3]
def Gd(a b:List Int):Int:=Qu [YE b.sum a.sum,I0 b a]
theorem Br(a b:List Int):before a b=decide (Gd a b<0):=by
 obtain⟨h1,h2⟩:=Ol a b;unfold before Gd;rw[ba,decide_eq_true_iff];simp only[Qu];by_cases h:b.sum<a.sum
 ·have e:YE b.sum a.sum = -1:=by unfold YE;rw[if_pos h]
  rw[e];simp[h]
 by_cases g:b.sum=a.sum
 ·have e:YE b.sum a.sum=0:=by unfold YE;rw[if_neg h,if_pos g]
  rw[e];by_cases k:I0 b a=0
  ·have hf:Yd a b=false:=by cases hl:Yd a b with
    |false=>rfl
    |true=>have:=h1.2 hl;omega
   simp[k,g,hf]
  simp[k,g,h1]
 have e:YE b.sum a.sum=1:=by unfold YE;rw[if_neg h,if_neg g]
 have g2:¬a.sum=b.sum:=λe=>g e.symm;rw[e];simp[h,g2]
def KR(l:List Int):List UInt8:=l.flatMap λx=>ig x++[32]
theorem GN(x:Int)(l:List Int):KR (x::l)=Zi x++32::KR l:=by unfold KR;rw[bD];simp[Zi]
theorem EO:∀ {a b:List Int},KR a=KR b->a=b
 |[],[],_=>rfl
 |[],y::b,h=>by rw[GN]at h;simp[KR]at h
 |x::a,[],h=>by rw[GN]at h;simp[KR]at h
 |x::a,y::b,h=>by
  rw[GN,GN]at h;have h1:=Eh (c:=32) (a:=Zi x) (b:=KR a) (Mo x wu wu);have h2:=Eh (c:=32) (a:=Zi y) (b:=KR b) (Mo y wu wu);rw[h,h2]at h1;simp only[eW,and_true]at h1;have e:x=y:=by rw[<-Ks x,<-Ks y,h1.1]
  rw[e,EO h1.2.symm]
theorem S7{r:Sr}(hF:Fits F w)(hR:XF F r l)(hp:PW l):Qg prog 253 [r.v] w F (.int .i64 l.sum):=by
 obtain⟨q,n,c⟩:=r;have hln:=hR.2.1;dsimp only[Sr.v]at hln ⊢;have hl1:=hp.2;refine QV.intro (G:=λF=>XF F ⟨q,n,c⟩ l) func253 rfl wy rfl rfl hF (λF' hF'=>hR.le hF')<|QI7<|wQ rfl<|QI7<|wQ rfl<|QG<|wR rfl<|QA (Qh rfl JC)<|QH0 rfl<|QHz<|QW<|XK (ι:={i:Nat // i<=l.length}) [(6,_),(7,_)] (λi=>[(3,.int .i64 ((l.take i.1).sum)),(8,.int .i64 ((i.1:Nat):Int))]) (λi=>l.length-i.1) (⟨0,au _⟩) wT wT λi=>?_
 simp only[ab,ag];have hi:=i.2;have hs:=hp.sum i.1 hi;refine wA 6 I ?_;refine QR I (λhc=>?_) λhc=>?_
 ·have hlt:i.1<l.length:=wk<|QJG hc
  have he:=hp.el hlt;refine QJL 6 I<|QA (Q3 (n:=n) (i.1) (λF hR=>(hR).1) rfl rfl JC JO O)<|QA (Q5 (n:=n) ((i.1)*1) (λF hR=>(hR).1) O rfl JO (J6 (o:=l) O))<|QJK 6 I<|QA (Qw I I O)<|wB 2 I<|Qk<|QC<|QB<|QA (Qw I I O)<|wB 2 I ?_
  exact Qm (⟨i.1+1,hlt⟩) (by show l.length-(i.1+1)<l.length-i.1;omega) ⟨rfl,rfl,(congrArg (λz:Int=>some (aA .i64 z)) (Sq hlt).symm),rfl,trivial⟩ QIM w9
 have hge:i.1=l.length:=wk<|QJH hc
 refine Qz ?_
 repeat first|refine QZ ?_|refine QQ wy ?_
 refine Qa<|QJM 8 I ?_
 exact QJO I I (congrArg (aA .i64) (by rw[bT O])) w8
theorem dR{q:Option Addr}(hF:Fits F w)(hR:Qx F q n 1 (l.map Jr))(hn:n<=1000000000):Qg prog 251 [.slice q n c] w F (.int .i64 (Qu l)):=by
 have hln:l.length=n:=by have:=hR.1;simpa using this
 have em:l=l.map (λx=>x):=wz;refine QV.intro (G:=λF=>Qx F q n 1 (l.map Jr)) func251 rfl wy rfl rfl hF (λF' hF'=>hR.le hF')<|QI7<|wQ rfl<|QI7<|wQ rfl<|QG<|wR rfl<|QA (Qh rfl JC)<|QH0 rfl<|QHz<|QW<|XK (ι:=ZO l λx=>x) [(3,_),(6,_),(7,_)] (λi=>[(8,.int .i64 ((i.i:Nat):Int))]) (λi=>l.length-i.i) (ZO.start _ _) wU wS λi=>?_
 simp only[ab,ag];have hi:=i.le;refine wA 6 I ?_;refine QR I (λhc=>?_) λhc=>?_
 ·have hlt:i.i<l.length:=wk<|QJG hc
  refine QJL 6 I<|QA (Q3 (n:=n) i.i w9 rfl rfl JC JO O)<|QA (Q5 (n:=n) ((i.i)*1) w9 O rfl JO (J6 (o:=l) O))<|QJK 10 I ?_
  refine QR I (λhc=>?_) λhc=>?_
  ·refine wA 7 I ?_
   repeat first|refine Q6 ?_|refine Qy ?_
   exact QJO I I (congrArg (aA .i64) (by rw[Yr hlt,Ov l];exact i.hit hlt (by rw[<-Yr hlt];simpa using hc))) w8
  refine QO<|Qk<|QC<|QB<|QA (Qw I I O)<|wB 2 I ?_
  exact Qm (i.next hlt (by rw[<-Yr hlt];simpa using hc)) (by show l.length-(i.i+1)<l.length-i.i;omega) wV QIM w9
 have hge:l.length<=i.i:=wk<|QJH hc
 refine Qz ?_
 repeat first|refine QZ ?_|refine QQ wy ?_
 refine Qa<|QJM 8 I ?_
 exact QJO I I (congrArg (aA .i64) (by rw[Ov l];exact i.stop hge)) w8
structure QB7(a b:List Int) where
 i:Nat
 la:i<=a.length
 lb:i<=b.length
 h:I0 a b=I0 (a.drop i) (b.drop i)
theorem QB7.cons{a b:List Int}(s:QB7 a b)(ha:s.i<a.length)(hb:s.i<b.length):I0 a b=if YE (Qn a s.i) (Qn b s.i)≠0 then YE (Qn a s.i) (Qn b s.i)else I0 (a.drop (s.i+1)) (b.drop (s.i+1)):=by
 rw[s.h,Xo ha,Xo hb,I0]
theorem AZ{ra rb:Sr}{a b:List Int}(hF:Fits F w)(hA:XF F ra a)(hB:XF F rb b)(la:a.length<=1000000)(lb:b.length<=1000000):Qg prog 254 [ra.v,rb.v] w F (.int .i64 (I0 a b)):=by
 obtain⟨q,n,c⟩:=ra;obtain⟨q',n',c'⟩:=rb;have na:=hA.2.1;have nb:=hB.2.1;dsimp only[Sr.v]at na nb ⊢;refine QV.intro (G:=λF=>XF F ⟨q,n,c⟩ a/\XF F ⟨q',n',c'⟩ b) func254 rfl wy rfl rfl hF (λF' hF'=>⟨hA.le hF',hB.le hF'⟩)<|QI7<|wQ rfl<|QG<|wR rfl<|QA (Qh rfl JC)<|QH0 rfl<|QHz<|QW<|XK (ι:=QB7 a b) [(0,_),(1,_),(9,_),(10,_)] (λi=>[(11,.int .i64 ((i.i:Nat):Int))]) (λi=>a.length-i.i) (⟨0,au _,au _,rfl⟩) wV wS λi=>?_
 simp only[ab,ag];have hla:=i.la;have hlb:=i.lb;refine wA 6 I ?_;refine QR I (λhc=>?_) λhc=>?_
 ·have hlt:i.i<a.length:=wk<|QJG hc
  refine QJL 7 I<|QA (Q3 (n:=n) i.i (λF h9=>(h9.1).1) rfl rfl JC JO O)<|QA (Q5 (n:=n) ((i.i)*1) (λF h9=>(h9.1).1) O rfl JO (J6 (o:=a) O))<|QJK 9 I<|QA (Qh I JC)<|QJK 3 I ?_
  refine QR I (λhc=>?_) λhc=>?_
  ·have hge2:b.length<=i.i:=wk<|QJG hc
   refine wA 6 I ?_
   repeat first|refine Q6 ?_|refine Qy ?_
   exact QJO I I (congrArg (aA .i64) (by rw[i.h,Xo hlt,ax hge2];rfl)) w8
  have hlt2:i.i<b.length:=wk<|QJH hc
  refine QJL 6 I<|QA (Q3 (n:=n') i.i (λF h9=>(h9.2).1) rfl rfl JC JO O)<|QA (Q5 (n:=n') ((i.i)*1) (λF h9=>(h9.2).1) O rfl JO (J6 (o:=b) O))<|QJK 7 I<|QI I (λ_ _ f k=>Ei f ) λ_=>QJK 9 I ?_
  refine QR I (λhc=>?_) λhc=>?_
  ·refine wA 7 I ?_
   repeat first|refine Q6 ?_|refine Qy ?_
   exact QJO I I (congrArg (aA .i64) (by rw[i.cons hlt hlt2,if_pos (by rw[<-N7];simpa using hc),N7])) w8
  refine QO<|Qk<|QC<|QB<|QA (Qw I I O)<|wB 2 I ?_
  exact Qm (⟨i.i+1,hlt,hlt2,by rw[i.cons hlt hlt2,if_neg (by rw[<-N7];simpa using hc)]⟩) (by show a.length-(i.i+1)<a.length-i.i;omega) wW QIM tA
 have hge:a.length<=i.i:=wk<|QJH hc
 refine Qz ?_
 repeat first|refine QZ ?_|refine QQ wy ?_
 refine Qa<|QJM 5 I<|QA (Qh I JC)<|QH0 I<|QA (Qh I JC)<|QJK 3 I ?_
 refine QR I (λhc=>?_) λhc=>?_
 ·have hlt3:=QJG hc;refine wA 6 I ?_;exact QJO I I (congrArg (aA .i64) (by rw[i.h,ax hge,Xo (l:=b) (k:=i.i) O];rfl)) w8
 have hlt3:=QJH hc;refine QJL 8 I ?_;exact QJO I I (congrArg (aA .i64) (by rw[i.h,ax hge,ax O];rfl)) w8
theorem RJ{ra rb:Sr}{a b:List Int}(hF:Fits F w)(hA:XF F ra a)(hB:XF F rb b)(pa:PW a)(pb:PW b):Qg prog 227 [ra.v,rb.v] w F (.int .i64 (Gd a b)):=by
 have la:=pa.2;have lb:=pb.2;dsimp only[Sr.v];refine QV.intro (G:=λF=>XF F ra a/\XF F rb b) func227 rfl wy rfl rfl hF (λF' hF'=>⟨hA.le hF',hB.le hF'⟩)<|QI7<|wQ rfl<|wR rfl<|QI rfl (λ_ _ f k=>S7 f (r:=rb) k.2 (pb)) λ_=>QH0 rfl<|QI rfl (λ_ _ f k=>S7 f (r:=ra) k.1.1 (pa)) λ_=>QI rfl (λ_ _ f k=>Ei f ) λ_=>?_
 rw[N7];refine wB 2 I<|QI I (λ_ _ f k=>AZ f (ra:=rb) (rb:=ra) k.1.1.1.2 (k.1.1.1.1) O O) λ_=>Qb I (Q4 JC) JO SP I I λb13=>QI I (λ_ _ f k=>dR f (Qx.of (cs:=fp Jr [YE b.sum a.sum,I0 b a]) k.2 I) wu) λ_=>wQ I<|QY ?_
 exact QJO I I (rfl) w8
end
def ZC{κ:Type}(K:κ->Value):List (κ×Value)->Nat->List MapEntry
 |[],_=>[]
 |x::l,i=>⟨K x.1,x.2,i⟩::ZC K l (i+1)
def Z0{κ:Type}(K:κ->Value)(l:List (κ×Value)):Obj:=.map (ZC K l 0).toArray l.length
def VK{κ:Type}[DecidableEq κ]:List (κ×Value)->κ->Nat->Option (Nat×Value)
 |[],_,_=>none
 |x::l,k,i=>if k=x.1 then some (i,x.2)else VK l k (i+1)
def NW{κ:Type}[DecidableEq κ]:List (κ×Value)->κ->Value->List (κ×Value)
 |[],k,v=>[(k,v)]
 |x::l,k,v=>if k=x.1 then(k,v)::l else x::NW l k v
structure jN(P:Program)(kt:TypeId){κ:Type}[DecidableEq κ](K:κ->Value):Prop where
 chk:∀e w k,(Instr.checkKey e 10000 kt (K k)).run P w = .ok () w
 find:∀w k (l:List (κ×Value)),(Instr.findKey kt (K k) (ZC K l 0)).run P w = .ok (VK l k 0) w
 same:∀k,Instr.sameBits 10000 (K k) (K k)=true
section
variable{κ:Type}{K:κ->Value}
def MY:∀(l:List (κ×Value)) i,(ZC K l i).length=l.length
 |[],_=>rfl
 |_::l,i=>by simp[ZC,MY l]
theorem Rp:∀(l:List (κ×Value)) i k v,ZC K (l++[(k,v)]) i=ZC K l i++[⟨K k,v,i+l.length⟩]
 |[],i,k,v=>by simp[ZC]
 |x::l,i,k,v=>by
  simp only[ab,ZC,Rp l,ar];rw[show i+1+l.length=i+(l.length+1)from by omega]
def GQ:∀(l:List (κ×Value)) (i j:Nat),(ZC K l i)[j]?=l[j]?.map λx=>(⟨K x.1,x.2,i+j⟩:MapEntry)
 |[],_,_=>by simp[ZC]
 |x::l,i,0=>by simp[ZC]
 |x::l,i,j+1=>by
  simp only[ZC,fc,GQ l];rw[show i+1+j=i+(j+1)from by omega]
theorem TQ:∀(l:List (κ×Value)) i j k v,ZC K (l.set j (k,v)) i=(ZC K l i).modify j λe=>{ e with key:=K k,val:=v }
 |[],_,_,_,_=>by simp[ZC]
 |x::l,i,0,k,v=>by simp[ZC]
 |x::l,i,j+1,k,v=>by simp[ZC,TQ l]
theorem Dg:∀(l:List (κ×Value)) i,∀e∈ZC K l i,i<=e.born/\e.born<i+l.length
 |[],_,e,h=>by cases h
 |x::l,i,e,h=>by
  simp only[ZC,ay]at h;rcases h with rfl | h
  ·simp
  have:=Dg l (i+1) e h;simp only[ar];omega
theorem NB:∀(l:List (κ×Value)) i,((ZC K l i).map (·.born)).Nodup
 |[],_=>ef
 |x::l,i=>by
  simp only[ZC,af];refine List.nodup_cons.2 ⟨λh=>?_,NB l (i+1)⟩;obtain⟨e,he,h⟩:=List.mem_map.1 h;have:=(Dg l (i+1) e he).1;omega
variable[DecidableEq κ]
theorem Dc:∀ {l:List (κ×Value)} {k i j v},VK l k i=some (j,v)->i<=j/\j-i<l.length/\l[j-i]?=some (k,v)
 |[],_,_,_,_,h=>by cases h
 |x::l,k,i,j,v,h=>by
  simp only[VK]at h;split at h
  ·rename_i e;cases h;subst e;simp
  obtain⟨h1,h2,h3⟩:=Dc h;refine⟨O,by simp only[ar];omega,?_⟩;rw[show j-i=(j-(i+1))+1 from by omega,fc];exact h3
theorem S6:∀ {l:List (κ×Value)} {k v i},VK l k i=none->NW l k v=l++[(k,v)]
 |[],_,_,_,_=>rfl
 |x::l,k,v,i,h=>by
  simp only[VK]at h;split at h
  ·cases h
  rename_i e;simp only[NW,if_neg e,ab,S6 h]
theorem S5:∀ {l:List (κ×Value)} {k v i j u},VK l k i=some (j,u)->NW l k v=l.set (j-i) (k,v)
 |[],_,_,_,_,_,h=>by cases h
 |x::l,k,v,i,j,u,h=>by
  simp only[VK]at h;split at h
  ·rename_i e;cases h;simp[NW,e]
  rename_i e;have:=(Dc h).1;simp only[NW,if_neg e,S5 h];rw[show j-i=(j-(i+1))+1 from by omega];rfl
end
def LV(a b:List UInt8):Instr.sameNow .string (tx a) (tx b)=some (decide (a=b)):=by
 show some ((⟨a.toArray⟩:ByteArray)==⟨b.toArray⟩)=_;congr 1;rw[ba,decide_eq_true_iff,fy];constructor
 ·intro h;cases h;rfl
 intro h;rw[h]
theorem Rg(k:List UInt8):∀(l:List (List UInt8×Value)) (i n:Nat),ib .string (tx k) (ZC tx l n) i=some (VK l k i)
 |[],_,_=>rfl
 |x::l,i,n=>by
  simp only[ZC,ib,LV,VK];by_cases h:k=x.1
  ·simp[h]
  simp[h,Rg k l]
theorem jN.str(h:P.underlying kt=some .string):jN P kt tx where
 chk:=λe w k=>MapKept.run_checkKey (k:=tx k) h (by simp[MapKept.IsKey,tx]) e 9999
 find:=λw k l=>MapKept.run_findKey h (Rg k l 0 0)
 same:=λk=>by
  show(fN k.toArray==fN k.toArray)=true;rw[fy]
def zvB(P:Program)(T:TypeId):Option Value:=match P.info? T with
 |some i=>i.zero
 |none=>none
theorem gL{z:Value}(h:zvB P T=some z)(w:World):(zeroValue T).run P w = .ok z w:=by
 unfold zvB at h;split at h
 ·rename_i i hi;simp[zeroValue,typeInfo,hi,h]
 cases h
def Lu(P:Program)(T kt et:TypeId):Bool:=match P.underlying T with | some (.map k e)=>aE k kt&&aE e et | _=>false
def UL(h:Lu P T kt et=true):P.underlying T=some (.map kt et):=by
 unfold Lu at h;split at h
 ·rename_i e;simp only[ae]at h;have h1:=aF h.1;have h2:=aF h.2;rw[e,h1,h2]
 cases h
section
variable[Dr][df:Df]{P:Program}{Q:Exit->Act->World->Prop}{N:Nat}{m:Sl}{E E0:Env}{ops:Array Oper}{l:List Oper}{w0:World}{F0:Gs}{bs:List (Nat×Obj)}{G:Gs->Prop}{d:Nat}{ty:TypeId}{pos:String}{aft:Array Edge}
theorem G6{κ:Type}(K:κ->Value){T:TypeId}(k:∀b,JS P ops Q l N ((d,.map (some b))::m) ⟨w0,F0,(b,Z0 K [])::bs,G⟩)(hd:J5 N (some d)=true:=by rfl):
  JS P ops Q (⟨some d,.makeMap T none,ty,pos,aft,none⟩::l) N m ⟨w0,F0,bs,G⟩:=λa w ha hw=>by
 have hrun:(execOp a.eval ⟨some d,.makeMap T none,ty,pos,aft,none⟩).run P w = .ok (.value (.map (some w.heap.size))) (w.alloc (.map #[] 0)):=by
  simp[execOp,Instr.makeMap]
 exact wpList_plain rfl λKk hK=>upon_value hrun (hK _ _ (k _ _ _ (ha.put hd _) (hw.alloc _ λc fr e=>by cases e)))
variable{κ:Type}[DecidableEq κ]{K:κ->Value}{kv:List (κ×Value)}{b:Nat}{f:Obj->List (Nat×Obj)}
theorem zO{y:Operand}{k:κ}{v:Value}(hq:jN P kt K)(hx:ev m x=some (.map (some b)))(hy:ev m y=some (K k))(ht:Lu P T kt et=true)(ho:Own bs b (Z0 K kv) f)(hf:VK kv k 0=some (i,v)):
  Qt P N m (St ⟨w0,F0,bs,G⟩) (.lookup T x y true) ty (.tuple #[v,.bool true]):=λa w _ _ _ _ ha hw=>by
 have hb:=hw.own ho;unfold Z0 at hb;have hu:=UL ht;simp[execOp,ha.ev hx,ha.ev hy,il,run_underlying hu,bC hb,hq.chk,hq.find,hf]
theorem qC{y:Operand}{k:κ}{z:Value}(hq:jN P kt K)(hx:ev m x=some (.map (some b)))(hy:ev m y=some (K k))(ht:Lu P T kt et=true)(hz:zvB P et=some z)(ho:Own bs b (Z0 K kv) f)(hf:VK kv k 0=none):
  Qt P N m (St ⟨w0,F0,bs,G⟩) (.lookup T x y true) ty (.tuple #[z,.bool false]):=λa w _ _ _ _ ha hw=>by
 have hb:=hw.own ho;unfold Z0 at hb;have hu:=UL ht;simp[execOp,ha.ev hx,ha.ev hy,il,run_underlying hu,bC hb,hq.chk,hq.find,hf,gL hz]
theorem Tf{y z:Operand}{k:κ}{v:Value}(hq:jN P kt K)(hx:ev m x=some (.map (some b)))(hy:ev m y=some (K k))(hz:ev m z=some v)(ht:Lu P T kt et=true)(ho:Own bs b (Z0 K kv) f)
  (kk:JS P ops Q l N m ⟨w0,F0,f (Z0 K (NW kv k v)),G⟩):JS P ops Q (⟨none,.mapUpdate T x y z,ty,pos,aft,none⟩::l) N m ⟨w0,F0,bs,G⟩:=λa w ha hw=>by
 have hb:=hw.own ho;obtain⟨pre,post,e1,e2⟩:=ho.split;subst e1;rw[e2]at kk;have hu:=UL ht;have hb':=hb;unfold Z0 at hb';have hrun:(execOp a.eval ⟨none,.mapUpdate T x y z,ty,pos,aft,none⟩).run P w = .ok .skip { w with heap:=w.heap.setIfInBounds b (Z0 K (NW kv k v)) }:=by
  cases hf:VK kv k 0 with
  |none =>
   have e:Z0 K (NW kv k v) = .map ((ZC K kv 0).toArray.push ⟨K k,v,kv.length⟩) (kv.length+1):=by
    rw[S6 hf];simp[Z0,Rp]
   rw[e];simp[execOp,ha.ev hx,ha.ev hy,ha.ev hz,fT,run_underlying hu,bC hb',hq.chk,hq.find,hf,eZ _ hb']
  |some r =>
   obtain⟨i,u⟩:=r;obtain⟨_,h2,h3⟩:=Dc hf;rw[eK]at h2 h3;have e:Z0 K (NW kv k v) = .map ((ZC K kv 0).toArray.modify i λe=>{ e with key:=K k,val:=v }) kv.length:=by
    rw[S5 hf];unfold Z0;rw[eK,TQ,aZ];congr 1;apply fF;simp
   have hk:((((ZC K kv 0).toArray[i]?).map (·.key)).getD (K k))=K k:=by
    simp[GQ,h3]
   rw[e];simp only[execOp,ha.ev hx,ha.ev hy,ha.ev hz,fT,bZ,run_underlying hu,bC hb',hq.chk,hq.find,hf,bP,hk,Instr.keyThatStays,hq.same,if_true,fl,eZ _ hb']
 exact wpList_plain rfl λKk hK=>upon_skip hrun (hK _ _ (kk _ _ ha (hw.write pre ⟨rfl,rfl,rfl,rfl,rfl⟩ λc fr e=>by cases e)))
def nxA(kv:List (κ×Value))(K:κ->Value):Option Nat->Array Value
 |some j=>match kv[j]? with
  |some p=>#[.bool true,K p.1,p.2]
  |none=>#[.bool true]
 |none=>#[.bool false]
def nxS(seen:List Nat):Option Nat->List Nat
 |some j=>seen++[j]
 |none=>seen
def nxP(n:Nat)(seen:List Nat):Option Nat->Prop
 |some j=>j<n/\j∉seen
 |none=>∀j,j<n->j∈seen
omit [DecidableEq κ] in
theorem QEC(x:Option Nat):(nxA kv K x)[0]?=some (.bool x.isSome):=by
 cases x with
 |none=>rfl
 |some j =>
  simp only[nxA]
  cases kv[j]?<;>rfl
def jj(b n:Nat)(seen:List Nat):Obj:=.mapIter (some b) n seen.toArray n
omit [DecidableEq κ] in
theorem IX(hx:ev m x=some (.map (some b)))(ht:Lu P T kt et=true)(ho:Own bs b (Z0 K kv) f)(k:∀r,JS P ops Q l N ((d,.pointer (some ⟨r,0,none⟩))::m) ⟨w0,F0,(r,jj b kv.length [])::bs,G⟩)(hd:J5 N (some d)=true:=by rfl):
  JS P ops Q (⟨some d,.range T x,ty,pos,aft,none⟩::l) N m ⟨w0,F0,bs,G⟩:=λa w ha hw=>by
 have hb:=hw.own ho
 unfold Z0 at hb
 have hrun:(execOp a.eval ⟨some d,.range T x,ty,pos,aft,none⟩).run P w = .ok (.value (.pointer (some ⟨w.heap.size,0,none⟩))) (w.alloc (jj b kv.length [])):=by
  simp[execOp,ha.ev hx,run_range_map w T kt et b _ _ (UL ht) hb,jj]
 exact wpList_plain rfl λKk hK=>upon_value hrun (hK _ _ (k _ _ _ (ha.put hd _) (hw.alloc _ λc fr e=>by cases e)))
omit [DecidableEq κ] in
theorem OS{r:Nat}{g:Obj->List (Nat×Obj)}(hx:ev m x=some (.pointer (some ⟨r,0,none⟩)))(hr:Own bs r (jj b kv.length seen) g)(ho:Own bs b (Z0 K kv) f)
  (k:∀x,nxP kv.length seen x->JS P ops Q l N ((d,.tuple (nxA kv K x))::m) ⟨w0,F0,g (jj b kv.length (nxS seen x)),G⟩) (hd:J5 N (some d)=true:=by rfl) :
  JS P ops Q (⟨some d,.next x false,ty,pos,aft,none⟩::l) N m ⟨w0,F0,bs,G⟩:=λa w ha hw=>by
 have hb:=hw.own ho
 have hi:=hw.own hr
 unfold Z0 at hb
 obtain⟨pre,post,e1,e2⟩:=hr.split
 subst e1
 simp only[e2]at k
 have hold:∀e∈(ZC K kv 0).toArray.toList,e.born<kv.length:=λe he=>by have:=(Dg kv 0 e (by simpa using he)).2;omega
 rcases run_next_at (P:=P) w ty r b kv.length kv.length seen.toArray (ZC K kv 0).toArray kv.length hi hb hold (aY _)with ⟨h0,hn⟩ | ⟨e,he,w1,hw1,hn⟩
 ·have hrun:(execOp a.eval ⟨some d,.next x false,ty,pos,aft,none⟩).run P w = .ok (.value (.tuple (nxA kv K none))) w:=by
   simp[execOp,ha.ev hx,hn,nxA]
  refine wpList_plain rfl λKk hK=>upon_value hrun (hK _ _ (k none (λj hj=>?_) _ _ (ha.put hd _) hw))
  have hm:(⟨K kv[j].1,kv[j].2,j⟩:MapEntry)∈ZC K kv 0:=by
   have:=GQ (K:=K) kv 0 j
   rw[av hj,bM]at this
   exact fm this
  have hz:leftOf (ZC K kv 0).toArray seen.toArray=#[]:=Array.eq_empty_of_size_eq_zero h0
  unfold leftOf at hz
  rw[Array.filter_eq_empty_iff]at hz
  have:=hz _ (by simpa using hm)
  simpa using this
 unfold leftOf at he
 simp only[List.mem_toArray,Array.mem_toList_iff,Array.mem_filter]at he
 obtain⟨hm,hs⟩:=he
 obtain⟨j,hj,hje⟩:=fD hm
 rw[MY]at hj
 have hg:=GQ (K:=K) kv 0 j
 rw[av hj,av (by rw[MY];exact hj),hje,bM]at hg
 have hg':e=⟨K kv[j].1,kv[j].2,j⟩:=by simpa using hg
 subst hg'
 have hrun:(execOp a.eval ⟨some d,.next x false,ty,pos,aft,none⟩).run P w = .ok (.value (.tuple (nxA kv K (some j)))) (ChangeMaps.setBlock w1 r (jj b kv.length (nxS seen (some j)))):=by
  simp[execOp,ha.ev hx,hn,nxA,hj,jj,nxS]
 have hw2:St ⟨w0,F0,pre++(r,jj b kv.length seen)::post,G⟩ w1:=by
  rcases hw1 with rfl | rfl
  ·exact hw
  exact hw.drew
 exact wpList_plain rfl λKk hK=>upon_value hrun (hK _ _ (k (some j) ⟨hj,by simpa using hs⟩ _ _ (ha.put hd _) (hw2.write pre ⟨rfl,rfl,rfl,rfl,rfl⟩ λc fr e=>by cases e)))
omit [DecidableEq κ] in
theorem dG{r:Nat}{p:κ×Value}{g:Obj->List (Nat×Obj)}(hx:ev m x=some (.pointer (some ⟨r,0,none⟩)))(hr:Own bs r (jj b kv.length (seen++[j])) g)(ho:Own bs b (Z0 K kv) f)(hj:kv[j]?=some p):
  Qt P N m (St ⟨w0,F0,bs,G⟩) (.entry x) ty (.tuple #[K p.1,p.2]):=λa w _ _ _ _ ha hw=>by
 have hb:=hw.own ho
 have hi:=hw.own hr
 unfold Z0 at hb
 have hg:=GQ (K:=K) kv 0 j
 rw[hj,bM]at hg
 have hmem:=fm hg
 have:=run_entry_at (P:=P) w r b kv.length seen.toArray (ZC K kv 0).toArray kv.length ⟨K p.1,p.2,j⟩ (by rw[hi];simp[jj]) hb (by simpa using hmem) (by simpa using NB kv 0)
 simp[execOp,ha.ev hx,this]
end
def qZ(l:List Int)(x:Int):KR (l++[x])=(KR l++ig x)++[32]:=by unfold KR;rw[aW];simp
def TL{x:Int}(h:0<=x/\x<=1000000):(ig x).length<=21:=Lib.itoa_length_le x O O
theorem FY:∀ {l:List Int},(∀x∈l,0<=x/\x<=1000000)->(KR l).length<=22*l.length
 |[],_=>by simp[KR]
 |x::l,h=>by
  have h1:=TL (h x wz);have h2:=FY (l:=l) (λy hy=>h y (by simp[hy]));rw[GN];simp only[aj,ar];change (Zi x).length<=21 at h1;omega
structure QHI(b:Nat)(l:List Int) where
 i:Nat
 ob:List (Nat×Obj)
 le:i<=l.length
 bl:I3 b (KR (l.take i)) ob
theorem zk{r:Sr}(hF:Fits F w)(hGl:JE F)(hR:XF F r l)(hp:PW l):Qg prog 224 [r.v] w F (tx (KR l)):=by
 obtain⟨q,n,c⟩:=r;have hln:=hR.2.1;dsimp only[Sr.v]at hln ⊢;have hl1:=hp.2;refine QV.intro (G:=λF=>JE F/\XF F ⟨q,n,c⟩ l) func224 rfl wy rfl rfl hF (λF' hF'=>⟨hGl.le hF',hR.le hF'⟩)<|QI7<|wQ rfl<|QI7<|Qc uc λb3=>QHz<|QG<|wR rfl<|QA (Qh rfl JC)<|QH0 rfl<|QHz<|QW<|JV (ι:=QHI b3 l) [(3,_),(6,_),(7,_)] (λi=>[(8,.int .i64 ((i.i:Nat):Int))]) (λi=>i.ob++[]) (λi F=>True) (λi=>l.length-i.i) (⟨0,_,au _,by rw[List.take_zero];exact .fresh⟩) wU wS QIM w8 λi=>?_
 have hi:=i.le;have hkl:=FY (l:=l.take i.i) (λx hx=>hp.1 x (ei hx));rw[aQ]at hkl;refine wA 6 I ?_;refine QR I (λhc=>?_) λhc=>?_
 ·have hlt:i.i<l.length:=wk<|QJG hc
  have he:=hp.el hlt;have hil:=TL he;refine QJL 6 I<|QA (Q3 (n:=n) i.i (λF h9=>(h9.1.2).1) rfl rfl JC JO O)<|QA (Q5 (n:=n) ((i.i)*1) (λF h9=>(h9.1.2).1) O rfl JO (J6 (o:=l) O))<|QJK 6 I<|QI I (λ_ _ f k=>yj f k.1.1 (O) (O)) λ_=>XW I (aK _) (Wy i.bl O) λud=>JM _ (λ_ _ f h=>h.2) λhbl=>QHz<|QB<|XW I (aK _) (U9 (c:=32) hbl (by rw[aj];omega)) λwob2=>JM _ (λ_ _ f h=>h.2) λhbl2=>?_
  rw[<-qZ,Yr hlt,<-XU hlt]at hbl2;refine QE<|Qk<|QC<|QB<|QA (Qw I I O)<|wB 2 I ?_
  exact Qm (⟨i.i+1,wob2,hlt,hbl2⟩) (by show l.length-(i.i+1)<l.length-i.i;omega) wV QIM λF h=>⟨h.1.1.1.1,trivial⟩
 have hge:i.i=l.length:=wk<|QJH hc
 refine Qz ?_
 repeat first|refine QZ ?_|refine QQ wy ?_
 refine Qa<|QJM 3 I ?_
 have hbl:=i.bl;rw[hge,aC]at hbl;refine NS (v:=tx (KR l)) hF rfl (enters_of func233 wy rfl) (λw' hw'=>Builder_String_any w.heap.size b3 (KR l) w' (hbl.is hw') (by obtain⟨F',h'⟩:=hw';exact h'.ext.size))<|wQ I<|QY ?_
 exact QJO I I (rfl) w8
end Go.Proofs.YtbpmnjieoncbcaaGreatDoor
namespace Ig
def Mf:List Tm->Tm->List Tm
 |[],n=>[n]
 |t::l,n=>if n.2=t.2 then n::l else t::Mf l n
def Te:∀(l:List Tm) (n:Tm),∀k,k∈(Mf l n).map (·.2)->k=n.2\/k∈l.map (·.2)
 |[],n,k,h=>by simp[Mf]at h;exact .inl h
 |t::l,n,k,h=>by
  simp only[Mf]at h;split at h
  ·simp only[af,ay]at h ⊢;rcases h with h | h
   ·exact .inl h
   exact .inr (.inr h)
  simp only[af,ay]at h ⊢;rcases h with h | h
  ·exact .inr (.inl h)
  rcases Te l n k h with h | h
  ·exact .inl h
  exact .inr (.inr h)
def R4:∀ {l:List Tm} (n:Tm),(l.map (·.2)).Nodup->((Mf l n).map (·.2)).Nodup
 |[],n,_=>by simp[Mf]
 |t::l,n,h=>by
  simp only[af]at h;obtain⟨h1,h2⟩:=List.nodup_cons.1 h;simp only[Mf];split
  ·rename_i e;simp only[af];rw[e];exact h
  rename_i e;simp only[af];refine List.nodup_cons.2 ⟨λhm=>?_,R4 n h2⟩;rcases Te l n _ hm with g | g
  ·exact e g.symm
  exact h1 g
def TY:∀ {l:List Tm} (n:Tm),(l.map (·.2)).Nodup->∀k,XP (Mf l n) k=if n.2=k then n.1 else XP l k
 |[],n,_,k=>by simp[Mf,XP,aH]
 |t::l,n,h,k=>by
  simp only[af]at h;obtain⟨h1,h2⟩:=List.nodup_cons.1 h;have hz:XP l t.2=0:=GU λx hx e=>h1 (e ▸ aa (f:=(·.2)) hx);simp only[Mf];split
  ·rename_i e;simp only[XP];by_cases g:n.2=k
   ·have g2:t.2=k:=e ▸ g;rw[if_pos g,if_pos g,<-g2,hz,aH]
   have g2:¬t.2=k:=λq=>g (e.trans q);rw[if_neg g,if_neg g,if_neg g2]
  rename_i e;simp only[XP];rw[TY n h2 k];by_cases g:n.2=k
  ·have g2:¬t.2=k:=λq=>e (g.trans q.symm);rw[if_pos g,if_neg g2,if_pos g,aP]
  rw[if_neg g,if_neg g]
structure kq(T l:List Tm):Prop where
 nd:(T.map (·.2)).Nodup
 eq:U5 T l
def kq.nil:kq [] []:=⟨ef,U5.refl _⟩
def kq.add{T l:List Tm}(h:kq T l)(f:Rat)(p:List Int):kq (Mf T (f+XP T p,p)) (l++[(f,p)]) :=
 ⟨R4 _ h.nd,λk=>by
  rw[TY _ h.nd,IB,<-h.eq k];simp only[XP];by_cases g:p=k
  ·rw[if_pos g,if_pos g,g,aH];exact bV _ _
  rw[if_neg g,if_neg g,aH,aH]⟩
def kq.IA{T l:List Tm}(h:kq T l){t:Tm}(ht:t∈T):XP T t.2=t.1:=by
 have key:∀ {T:List Tm},(T.map (·.2)).Nodup->t∈T->XP T t.2=t.1:=by
  intro T
  induction T with
  |nil=>intro _ h;cases h
  |cons x T ih =>
   intro hn hm;simp only[af]at hn;obtain⟨h1,h2⟩:=List.nodup_cons.1 hn;rcases List.mem_cons.1 hm with rfl | hm
   ·simp only[XP];have hz:XP T t.2=0:=GU λx hx e=>h1 (e ▸ aa (f:=(·.2)) hx);rw[if_pos trivial,hz,aH]
   simp only[XP];have:¬x.2=t.2:=λe=>h1 (e ▸ aa (f:=(·.2)) hm);rw[if_neg this,ih h2 hm,aP]
 exact key h.nd ht
def q7{T:List Tm}{p:List Int}(h:p∉T.map (·.2)):XP T p=0:=GU λx hx e=>h (e ▸ aa (f:=(·.2)) hx)
def kq.norm{T l s:List Tm}(h:kq T l)(hp:s.Perm (T.filter λt=>decide (t.1≠0)))(hs:s.Pairwise λx y=>before x.2 y.2=true):s=Xv l:=by
 refine Az ⟨hs,λt ht=>?_⟩ ((U5.perm hp).trans ((eqv_filter T).trans h.eq));have:=(hp.mem_iff).1 ht;simpa using(List.mem_filter.1 this).2
end Ig
namespace Go.Proofs.YtbpmnjieoncbcaaGreatDoor
variable{g:FuncId}{T et kt:TypeId}{N c cap i j k m n:Nat}{x:Operand}{P:Program}{l:List Int}{y:Rat}{w:World}{F F':Gs}{a b:Rat×Rat}{A seen u:List Nat}{f:Rat->Rat->Rat}{α:Type}{β:Nat->Nat}
open Go.RowKit Ig
structure ZW where
 x:Fr
 r:Sr
 t:Tm
instance :Inhabited ZW:=⟨⟨⟨⟨0,none,0,0⟩,⟨0,none,0,0⟩⟩,⟨none,0,0⟩,(0,[])⟩⟩
def V8(t:ZW):List Value:=[.int .i64 t.x.n.s,.slice t.x.n.q t.x.n.n t.x.n.cap,.int .i64 t.x.d.s,.slice t.x.d.q t.x.d.n t.x.d.cap,.slice t.r.q t.r.n t.r.cap]
@[reducible] def jf (t:ZW):Value:=.agg #[.int .i64 t.x.n.s,.slice t.x.n.q t.x.n.n t.x.n.cap,.int .i64 t.x.d.s,.slice t.x.d.q t.x.d.n t.x.d.cap,.slice t.r.q t.r.n t.r.cap]
theorem Bf(t:ZW):(V8 t).length=5:=rfl
def ju(F:Gs)(t:ZW):Prop:=JN F t.x t.t.1/\XF F t.r t.t.2
def ju.le{t:ZW}(h:ju F t)(k:Gs.le F F'):ju F' t:=⟨h.1.le k,h.2.le k⟩
def W8(F:Gs)(ts:List ZW):Prop:=∀t∈ts,ju F t
def W8.le{ts:List ZW}(h:W8 F ts)(k:Gs.le F F'):W8 F' ts:=λt ht=>(h t ht).le k
def Hc(ts:List ZW):List (List UInt8×Value):=ts.map λt=>(KR t.t.2,jf t)
def J4(ts:List ZW):List Tm:=ts.map (·.t)
def addN:List ZW->ZW->List ZW
 |[],n=>[n]
 |t::l,n=>if n.t.2=t.t.2 then n::l else t::addN l n
theorem AP:∀(ts:List ZW) (n:ZW),J4 (addN ts n)=Mf (J4 ts) n.t
 |[],n=>rfl
 |t::l,n=>by
  have ih:=AP l n;unfold J4 at ih ⊢;simp only[addN,af,Mf];split
  ·simp
  simp[ih]
theorem RX:∀(ts:List ZW) (n:ZW),Hc (addN ts n)=NW (Hc ts) (KR n.t.2) (jf n)
 |[],n=>rfl
 |t::l,n=>by
  have ih:=RX l n;unfold Hc at ih ⊢;simp only[addN,af,NW];by_cases h:n.t.2=t.t.2
  ·rw[if_pos h,if_pos (congrArg KR h)];simp
  rw[if_neg h,if_neg λe=>h (EO e)];simp[ih]
theorem RS{ts:List ZW}{n x:ZW}(h:x∈addN ts n):x=n\/x∈ts:=by
 induction ts with
 |nil=>simp[addN]at h;exact .inl h
 |cons t l ih =>
  simp only[addN]at h;split at h
  ·rcases List.mem_cons.1 h with h | h
   ·exact .inl h
   exact .inr (aq _ h)
  rcases List.mem_cons.1 h with h | h
  ·exact .inr (h ▸ aB)
  rcases ih h with h | h
  ·exact .inl h
  exact .inr (aq _ h)
theorem cg:∀(ts:List ZW) (p:List Int) (i:Nat),(VK (Hc ts) (KR p) i=none/\p∉(J4 ts).map (·.2))\/∃j,∃t∈ts,t.t.2=p/\VK (Hc ts) (KR p) i=some (j,jf t)
 |[],_,_=>.inl ⟨rfl,by simp[J4]⟩
 |t::l,p,i=>by
  by_cases h:p=t.t.2
  ·exact .inr ⟨i,t,aB,h.symm,by show(if _ then _ else _)=_;rw[if_pos (congrArg KR h)]⟩
  rcases cg l p (i+1)with ⟨h1,h2⟩ | ⟨j,u,hu,h1,h2⟩
  ·refine .inl ⟨?_,?_⟩
   ·show(if _ then _ else _)=_;rw[if_neg λe=>h (EO e)];exact h1
   simp only[J4,af,ay,not_or];exact⟨h,h2⟩
  refine .inr ⟨j,u,aq _ hu,h1,?_⟩;show(if _ then _ else _)=_;rw[if_neg λe=>h (EO e)];exact h2
def KD(l:List Tm):Nat:=(l.map λt=>JU t.1+1).sum
def Zb(l m:List Tm):KD (l++m)=KD l+KD m:=by unfold KD;rw[aL,eT]
theorem AS:∀(l:List Tm) (k:List Int),JU (XP l k)<=KD l+1
 |[],k=>by show JU (0:Rat)<=_;decide
 |t::l,k=>by
  have h1:=AS l k;simp only[XP];have h2:=KW (if t.2=k then t.1 else 0) (XP l k);have h3:JU (if t.2=k then t.1 else 0)<=JU t.1+1:=by
   split
   ·omega
   have:JU (0:Rat)<=1:=wu;omega
  have e:KD (t::l)=JU t.1+1+KD l:=by unfold KD;rw[af,bR]
  have h4:JU (XP (t::l) k)<=KD l+1+(JU t.1+1):=by
   simp only[XP];by_cases g:t.2=k
   ·rw[if_pos g]at h2 ⊢;omega
   rw[if_neg g,aP];omega
  rw[e];simp only[XP]at h4;omega
structure V3(ts:List ZW)(l:List Tm):Prop where
 gV:kq (J4 ts) l
 pw:∀t∈ts,PW t.t.2
 ln:ts.length<=l.length
def V3.nil:V3 [] []:=⟨kq.nil,(λ_ h=>by cases h),aY _⟩
theorem kf(ts:List ZW)(n:ZW):(addN ts n).length<=ts.length+1:=by
 induction ts with
 |nil=>exact aY _
 |cons t l ih =>
  simp only[addN];split<;>simp only[ar]<;>omega
def V3.add{ts:List ZW}{l:List Tm}(h:V3 ts l){f:Rat}{p:List Int}(hp:PW p){n:ZW}(hn:n.t=(f+XP (J4 ts) p,p)):V3 (addN ts n) (l++[(f,p)]) :=
 ⟨by rw[AP,hn];exact h.gV.add f p,λt ht=>by
  rcases RS ht with rfl | ht
  ·rw[hn];exact hp
  exact h.pw t ht,by have:=kf ts n;have:=h.ln;rw[aj];simp only[ee];omega⟩
theorem V3.sz{ts:List ZW}{l:List Tm}(h:V3 ts l){t:ZW}(ht:t∈ts):JU t.t.1<=KD l+1:=by
 rw[<-h.gV.IA (aa (f:=ZW.t) ht),h.gV.eq];exact AS _ _
theorem RR:Lu prog 229 9 227=true:=wm
theorem UT:jN prog 9 tx:=.str wm
theorem gK:zvB prog 227=some (.agg #[.int .i64 0,.slice none 0 0,.int .i64 0,.slice none 0 0,.slice none 0 0]):=wm
section
theorem Uu{Q:Exit->Act->World->Prop}{m:Sl}{w0:World}{F0:Gs}{bs:List (Nat×Obj)}{G H:Gs->Prop}{c:Code}(h:∀F,G F->H F)(k:J P c Q N m ⟨w0,F0,bs,λF=>G F/\H F⟩):J P c Q N m ⟨w0,F0,bs,G⟩ :=
 λa w ha hw=>k a w ha (hw.B3 λF h'=>⟨h',h F h'⟩)
variable{w0:World}{F0:Gs}{bs:List (Nat×Obj)}{G:Gs->Prop}
theorem LO{ts:List ZW}{l:List Tm}{x:Fr}{f:Rat}{r:Sr}{p:List Int}(hI:V3 ts l)(hp:PW p)(hz:JU f<=40000000)(hl:KD l<=40000000)(hG:∀F,G F->JE F/\W8 F ts/\JN F x f/\XF F r p){t0:ZW}{j:Nat}(ht:t0∈ts)(h0:t0.t.2=p)(hf:VK (Hc ts) (KR p) 0=some (j,jf t0)):
  XI prog 183 [.map (some m),x.v,r.v] ⟨w0,F0,(m,Z0 tx (Hc ts))::bs,G⟩ (λ(_:ZW)=>.tuple #[]) (λn=>⟨w0,F0,(m,Z0 tx (Hc (addN ts n)))::bs,λF=>G F/\W8 F (addN ts n)/\n.t=(f+XP (J4 ts) p,p)⟩):=by
 have hc0:XP (J4 ts) p=t0.t.1:=by rw[<-h0];exact hI.gV.IA (aa (f:=ZW.t) ht)
 have hz0:=hI.sz ht;dsimp only[Sr.v,Fr.v];refine XI.intro func183 rfl wy rfl rfl<|Uu hG<|QI7<|Qs rfl (vs:=[_,_,_,_]) rfl λb4=>QHz<|wR rfl<|QI rfl (λ_ _ f k=>zk f k.2.1 (r:=r) k.2.2.2.2 (hp)) λ_=>wQ rfl<|QG<|wR rfl<|QH0 rfl<|QA (zO UT rfl rfl RR .u1 hf)<|QH0 rfl<|QA (QX rfl rfl)<|QA (QX rfl rfl)<|Qc GD λb7=>QU (vs:=[_,_,_,_,_]) rfl rfl rfl Xu rfl .here .h5 wW ?_
 refine QJK 8 I ?_;refine QR I (λhc=>?_) λhc=>?_
 ·refine QB<|QA (wJ I QN .u1)<|QA (QH I Wn QN)<|QA (wJ I QN .here)<|QI I (λw F hF ⟨⟨hG0,hGl,hT,⟨hxn,hxd⟩,hR⟩,_⟩=>Dd hF ⟨by assumption,by assumption⟩ ((hT t0 ht).1) O O) λx21=>QU (vs:=[_,_,_,_]) I I I QN I .u1 .h4 wV<|QJK 5 I<|QA (wJ I QN .u1)<|QH0 I<|QA (Q2 I zg GD (.cons (vs:=[_,_,_,_]) I I I .h4 (.cons (vs:=[_]) I I I (.skip (.skip (.skip (.skip .h1)))) .nil)))<|Tf (k:=KR p) (v:=jf ⟨x21,r,(f+t0.t.1,p)⟩) UT I I I RR .u2<|QE<|Mk ?_
  exact Y1 (⟨x21,r,(f+t0.t.1,p)⟩) I .nil (rfl) (λw h=>by
   show St ⟨w0,F0,(m,Z0 tx (Hc (addN ts ⟨x21,r,(f+t0.t.1,p)⟩)))::bs,_⟩ w;rw[RX];exact St.imp h (.cons _ (.cons _ QIM)) (λF ⟨⟨⟨hG0,hGl,hT,⟨hxn,hxd⟩,hR⟩,_⟩,⟨h21,h21_⟩⟩=>⟨hG0,λt ht=>by
    rcases RS ht with rfl | ht
    ·exact⟨⟨by assumption,by assumption⟩,hR⟩
    exact hT t ht,by rw[hc0]⟩))
 exact absurd hc (by cases hc)
theorem AV{ts:List ZW}{l:List Tm}{x:Fr}{f:Rat}{r:Sr}{p:List Int}(hI:V3 ts l)(hp:PW p)(hz:JU f<=40000000)(hl:KD l<=40000000)(hG:∀F,G F->JE F/\W8 F ts/\JN F x f/\XF F r p)(hf:VK (Hc ts) (KR p) 0=none)(hm:p∉(J4 ts).map (·.2)):
  XI prog 183 [.map (some m),x.v,r.v] ⟨w0,F0,(m,Z0 tx (Hc ts))::bs,G⟩ (λ(_:ZW)=>.tuple #[]) (λn=>⟨w0,F0,(m,Z0 tx (Hc (addN ts n)))::bs,λF=>G F/\W8 F (addN ts n)/\n.t=(f+XP (J4 ts) p,p)⟩):=by
 have hc0:XP (J4 ts) p=0:=q7 hm;dsimp only[Sr.v,Fr.v];refine XI.intro func183 rfl wy rfl rfl<|Uu hG<|QI7<|Qs rfl (vs:=[_,_,_,_]) rfl λb4=>QHz<|wR rfl<|QI rfl (λ_ _ f k=>zk f k.2.1 (r:=r) k.2.2.2.2 (hp)) λ_=>wQ rfl<|QG<|wR rfl<|QH0 rfl<|QA (qC UT rfl rfl RR gK .u1 hf)<|QH0 rfl<|QA (QX rfl rfl)<|QA (QX rfl rfl)<|Qc GD λb7=>QU (vs:=[_,_,_,_,_]) rfl rfl rfl Xu rfl .here .h5 wW ?_
 refine QJK 8 I ?_;refine QR I (λhc=>?_) λhc=>?_
 ·exact absurd hc (by cases hc)
 refine QJL 5 I<|QA (wJ I QN .u1)<|QH0 I<|QA (Q2 I zg GD (.cons (vs:=[_,_,_,_]) I I I .h4 (.cons (vs:=[_]) I I I (.skip (.skip (.skip (.skip .h1)))) .nil)))<|Tf (k:=KR p) (v:=jf ⟨x,r,(f,p)⟩) UT I I I RR .u2<|QE<|Mk ?_
 exact Y1 (⟨x,r,(f,p)⟩) I .nil (rfl) (λw h=>by
  show St ⟨w0,F0,(m,Z0 tx (Hc (addN ts ⟨x,r,(f,p)⟩)))::bs,_⟩ w;rw[RX];exact St.imp h (.cons _ (.cons _ QIM)) (λF ⟨⟨hG0,hGl,hT,⟨hxn,hxd⟩,hR⟩,_⟩=>⟨hG0,λt ht=>by
   rcases RS ht with rfl | ht
   ·exact⟨⟨by assumption,by assumption⟩,hR⟩
   exact hT t ht,by rw[hc0,aH]⟩))
theorem D4{ts:List ZW}{l:List Tm}{x:Fr}{f:Rat}{r:Sr}{p:List Int}(hI:V3 ts l)(hp:PW p)(hz:JU f<=40000000)(hl:KD l<=40000000)(hG:∀F,G F->JE F/\W8 F ts/\JN F x f/\XF F r p):
  XI prog 183 [.map (some m),x.v,r.v] ⟨w0,F0,(m,Z0 tx (Hc ts))::bs,G⟩ (λ(_:ZW)=>.tuple #[]) (λn=>⟨w0,F0,(m,Z0 tx (Hc (addN ts n)))::bs,λF=>G F/\W8 F (addN ts n)/\n.t=(f+XP (J4 ts) p,p)⟩):=by
 rcases cg ts p 0 with ⟨h1,h2⟩ | ⟨j,t,ht,h1,h2⟩
 ·exact AV hI hp hz hl hG h1 h2
 exact LO hI hp hz hl hG ht h1 h2
end
section
variable[Dr]
theorem dQ{w:World}{F:Gs}{a b:ZW}(hF:Fits F w)(hA:ju F a)(hB:ju F b)(pa:PW a.t.2)(pb:PW b.t.2):Qg prog 226 [jf a,jf b] w F (.int .i64 (Gd a.t.2 b.t.2)):=by
 refine QV.intro (G:=λF=>ju F a/\ju F b) func226 rfl wy rfl rfl hF (λF' hF'=>⟨hA.le hF',hB.le hF'⟩)<|QI7<|Qs rfl (vs:=[_,_,_,_,_]) rfl λb2=>Qs rfl (vs:=[_,_,_,_,_]) rfl λb3=>wQ rfl<|QI7<|QA (QH rfl Vp Jz)<|QA (Qf rfl Jz .u1 (.skip (.skip (.skip (.skip .h1)))))<|QA (QH rfl Vp Jz)<|QA (Qf rfl Jz .here (.skip (.skip (.skip (.skip .h1)))))<|QI rfl (λ_ _ f k=>RJ f (ra:=a.r) (rb:=b.r) k.1.2 (k.2.2) (pa) (pb)) λ_=>wQ rfl<|QY ?_
 exact QJO I I (rfl) w8
end
end Go.Proofs.YtbpmnjieoncbcaaGreatDoor
namespace Go.Proofs
open Go.Shelf
def qK:Go.Shelf.Ren:=⟨λ| 14=>249 | 20=>274 | 21=>275 | 22=>276 | 23=>277 | 24=>278 | 25=>279 | 26=>280 | 27=>281 | 46=>297 | 47=>298 | 48=>299 | 49=>300 | 50=>301 | 15=>250 | 57=>309 | 28=>282 | 29=>246 | n=>n,λ| 24=>227 | 22=>171 | 3=>3 | 25=>270 | 4=>4 | 0=>0 | 46=>310 | 45=>309 | 50=>208 | 66=>334 | 39=>284 | 55=>256 | 70=>338 | 76=>348 | 77=>349 | 53=>316 | 5=>5 | 9=>9 | n=>n,λ| n=>n⟩
theorem cB:fR prog qK:={
 mixed:=wm
 f14:=⟨f249.name,wu,func249.trans tH⟩
 f15:=func250.trans tH
 f20:=⟨f274.name,wu,func274.trans tH⟩
 f21:=⟨f275.name,wu,func275.trans tH⟩
 f22:=⟨Tryz.f276.name,wu,func276.trans tH⟩
 f23:=⟨Tryz.f277.name,wu,func277.trans tH⟩
 f24:=⟨f278.name,wu,func278.trans tH⟩
 f25:=⟨Tryz.f279.name,wu,func279.trans tH⟩
 f26:=⟨Tryz.f280.name,wu,func280.trans tH⟩
 f27:=⟨Tryz.f281.name,wu,func281.trans tH⟩
 f28:=func282.trans tH
 f29:=func246.trans tH
 f46:=⟨f297.name,wu,func297.trans tH⟩
 f47:=func298.trans tH
 f48:=func299.trans tH
 f49:=⟨f300.name,wu,func300.trans tH⟩
 f50:=⟨f301.name,wu,func301.trans tH⟩
 f57:=⟨f309.name,wu,func309.trans tH⟩
 t0:=underlying0
 a0:=isAgg0
 z0:=sizeOf0
 v0:=zeroValue0
 t3:=underlying3
 a3:=isAgg3
 z3:=sizeOf3
 v3:=zeroValue3
 t4:=underlying4
 a4:=isAgg4
 z4:=sizeOf4
 v4:=zeroValue4
 t5:=underlying5
 a5:=isAgg5
 z5:=sizeOf5
 v5:=zeroValue5
 t9:=underlying9
 a9:=isAgg9
 z9:=sizeOf9
 v9:=zeroValue9
 t22:=underlying171
 a22:=isAgg171
 z22:=sizeOf171
 v22:=zeroValue171
 t25:=underlying270
 a25:=isAgg270
 z25:=sizeOf270
 v25:=zeroValue270
 t39:=underlying284
 a39:=isAgg284
 z39:=sizeOf284
 v39:=zeroValue284
 t45:=underlying309
 a45:=isAgg309
 z45:=sizeOf309
 v45:=zeroValue309
 t46:=underlying310
 a46:=isAgg310
 z46:=sizeOf310
 v46:=zeroValue310
 t50:=underlying208
 a50:=isAgg208
 z50:=sizeOf208
 v50:=zeroValue208
 t53:=underlying316
 a53:=isAgg316
 z53:=sizeOf316
 v53:=zeroValue316
 t55:=underlying256
 a55:=isAgg256
 z55:=sizeOf256
 v55:=zeroValue256
 t66:=underlying334
 a66:=isAgg334
 z66:=sizeOf334
 v66:=zeroValue334
 t70:=underlying338
 a70:=isAgg338
 z70:=sizeOf338
 v70:=zeroValue338
 t76:=underlying348
 a76:=isAgg348
 z76:=sizeOf348
 v76:=zeroValue348
 t77:=underlying349
 a77:=isAgg349
 z77:=sizeOf349
 v77:=zeroValue349 }
end Go.Proofs
namespace Go.Proofs.YtbpmnjieoncbcaaGreatDoor
variable{g:FuncId}{T et kt:TypeId}{N c cap i j k m n:Nat}{x:Operand}{P:Program}{l:List Int}{y:Rat}{w:World}{F F':Gs}{a b:Rat×Rat}{A seen u:List Nat}{f:Rat->Rat->Rat}{α:Type}{β:Nat->Nat}
section
open Go.RowKit Ig Go.Sort
def ntd:ZW:=⟨⟨⟨0,none,0,0⟩,⟨1,none,0,0⟩⟩,⟨none,0,0⟩,(0,[])⟩
def QED(F:Gs):ju F ntd:=⟨⟨XD.small F wu wu,XD.small F wu wu⟩,⟨by simp[Qx,ntd],rfl,aY _⟩⟩
def PW.nil:PW []:=⟨λ_ h=>(by cases h),wz⟩
abbrev uT(F:Gs):={t:ZW // ju F t/\PW t.t.2}
instance(F:Gs):Inhabited (uT F):=⟨⟨ntd,QED F,PW.nil⟩⟩
def B5(F:Gs):uT F->List Value:=λt=>V8 t.1
def cfT(F:Gs):uT F->uT F->Int:=λx y=>Gd x.1.t.2 y.1.t.2
def ltT(x y:uT F):ltOf (cfT F) x y=before x.1.t.2 y.1.t.2:=(Br _ _).symm
def Sc{a b c:List Int}(h:before a b=false)(k:before b c=false):before a c=false:=by
 cases hb:before a c with
 |false=>rfl
 |true =>
  rcases G2 b c with e | e | e
  ·subst e;rw[h]at hb;cases hb
  ·rw[k]at e;cases e
  rw[before_trans hb e]at h;cases h
theorem QDj(F:Gs):SWO (ltOf (cfT F)) where
 irrefl:=λx=>by rw[ltT];exact before_irrefl _
 trans:=λx y z h k=>by rw[ltT]at h k ⊢;exact before_trans h k
 ntrans:=λx y z h k=>by rw[ltT]at h k ⊢;exact Sc h k
def qN(w:World)(F:Gs)(W:World):Gs:=λb=>if b<w.heap.size then F b else match W.heap[b]? with | some (.cells c T _)=>if T=256 then some (c,256)else none | _=>none
def GL{W:World}{b:Nat}(h:b<w.heap.size):qN w F W b=F b:=if_pos h
theorem CE{W:World}(hF:Fits F w):Gs.le F (qN w F W):=λb x hb=>by rw[GL (hF.lt hb)];exact hb
theorem TD{W:World}{Hy:Nat}{c':Array Value}{fr':Nat×Nat}(hF:Fits F w)(hn:F Hy=none)(hT:T≠256)(h1:∀b,b<w.heap.size->b≠Hy->W.heap[b]?=w.heap[b]?)(h2:W.heap[Hy]?=some (.cells c' T fr')):Fits (qN w F W) W:=by
 refine⟨λb c T hb=>?_,λb c fr hb=>?_⟩
 ·by_cases hlt:b<w.heap.size
  ·rw[GL hlt]at hb;obtain⟨fr,e⟩:=hF.row b c T hb;have hne:b≠Hy:=by rintro rfl;rw[hn]at hb;cases hb
   exact⟨fr,by rw[h1 b hlt hne];exact e⟩
  unfold qN at hb;rw[if_neg hlt]at hb;split at hb
  ·rename_i c' T' fr heq;split at hb
   ·rename_i hT;cases hb;exact⟨fr,by rw[heq,hT]⟩
   cases hb
  cases hb
 by_cases hlt:b<w.heap.size
 ·rw[GL hlt];by_cases hne:b=Hy
  ·subst hne;rw[h2]at hb;cases hb;exact absurd rfl hT
  rw[h1 b hlt hne]at hb;exact hF.all b c fr hb
 unfold qN;rw[if_neg hlt,hb];simp
theorem pX{w':World}(h1:Below w.heap.size w w')(h2:w.drawn<=w'.drawn):w'=grow (w.drewN (w'.drawn-w.drawn)) (w'.heap.extract w.heap.size w'.heap.size):=by
 have hh:w'.heap=w.heap++w'.heap.extract w.heap.size w'.heap.size:=by
  apply ew;intro i;rw[bH];split
  ·rename_i h;exact h1.block i h
  rename_i h;rw[Array.getElem?_extract];have:=h1.size;by_cases g:i<w'.heap.size
  ·rw[if_pos O];congr 1;omega
  rw[if_neg O,bS O]
 obtain⟨e1,e2,e3,_,_⟩:=h1;cases w' with
 |mk heap tape drawn os output =>
  simp only at hh e1 e2 e3 h2;unfold grow World.drewN;simp only[World.mk.injEq];exact⟨hh,e2,O,e1,e3⟩
section
variable{α:Type}[Inhabited α]{enc:α->List Value}{k:Nat}{w:World}{Hy m:Nat}{dk:Array α}{os:Array Obj}{c:Array Value}{T:TypeId}{fr:Nat×Nat}
def D3(b:Nat)(hb:b<w.heap.size)(hne:b≠Hy):(sortWorldK enc k w Hy 0 m dk os).heap[b]?=w.heap[b]?:=by
 show((w.heap.modify Hy _)++os)[b]?=_;rw[bH,if_pos (by simpa using hb),fg,if_neg (Ne.symm hne)]
theorem xb(h:w.heap[Hy]?=some (.cells c T fr)):(sortWorldK enc k w Hy 0 m dk os).heap[Hy]?=some (.cells (putCells id 0 (flatK enc k dk) c) T fr):=by
 have hb:Hy<w.heap.size:=by
  rcases bG Hy w.heap.size with g | g
  ·exact g
  rw[bS g]at h;cases h
 show((w.heap.modify Hy _)++os)[Hy]?=_;rw[bH,if_pos (by simpa using hb),fg,if_pos rfl,h];rfl
theorem L4(hk:∀x,(enc x).length=k)(d:Array α):flatK enc k d=(d.toList.flatMap enc).toArray:=by
 have hl:(d.toList.flatMap enc).length=d.size*k:=by
  generalize hd:d.toList=l;have:d.size=l.length:=by rw[<-hd];simp
  rw[this];clear this hd
  induction l with
  |nil=>simp
  |cons x l ih=>rw[bD,aj,ih,hk,ar,fB];omega
 apply ew;intro t;by_cases ht:t<d.size*k
 ·have hk0:0<k:=fH λe=>by rw[e]at ht;simp at ht
  have h1:t/k<d.size:=(Nat.div_lt_iff_lt_mul hk0).2 ht;have h2:t%k<k:=Nat.mod_lt _ hk0;have h3:t%k<(enc d[t/k]!).length:=by rw[hk];exact h2
  have e1:(flatK enc k d)[t]?=some ((enc d[t/k]!)[t%k]!):=by
   rw[Array.getElem?_eq_getElem (by rw[size_flatK];exact ht)];have:=get_flatK enc k d t ht;rw[getElem!_pos _ t (by rw[size_flatK];exact ht)]at this;rw[this]
  rw[e1,aS];have h4:el d.toList (t/k)=d[t/k]!:=by simp[el,h1]
  have:=JQ (f:=enc) hk (l:=d.toList) (i:=t/k) (j:=t%k) (u:=(enc d[t/k]!)[t%k]!) (by simpa using h1) (by rw[h4,av h3,getElem!_pos (enc d[t/k]!) (t%k) h3]);rw[ix,Nat.div_add_mod]at this;exact this.symm
 rw[bS (by rw[size_flatK];omega),aS,bc O]
theorem UB{a b rest:List Value}(h:b.length=a.length):putCells id 0 b.toArray (a++rest).toArray=(b++rest).toArray:=by
 apply ew;intro i;unfold putCells;rw[Array.getElem?_mapIdx,aS,aS,fq,fq];by_cases hi:i<a.length
 ·have hi':i<b.length:=O;rw[if_pos hi,if_pos hi',av hi,av hi'];simp[hi']
 have hi':¬i<b.length:=O;rw[if_neg hi,if_neg hi',h];have e:¬(0<=i/\i<0+b.toArray.size):=w6;cases rest[i-a.length]? with
 |none=>rfl
 |some x=>simp only[Option.map_some];rw[if_neg e]
end
def jU(g:FuncId):Prop:=Enters prog g/\∀(w:World) (F:Gs) (a b:ZW),Fits F w->ju F a->ju F b->PW a.t.2->PW b.t.2->@QV ⟨True⟩ prog g [jf a,jf b] w F Unit (λ_=>.int .i64 (Gd a.t.2 b.t.2)) λ_ _=>True
theorem jU.lays(hg:jU g){w:World}{F:Gs}{Hy size:Nat}{c:Array Value}{T:TypeId}{fr:Nat×Nat}(hF:Fits F w)(hn:F Hy=none)(hT:T≠256)(hb:w.heap[Hy]?=some (.cells c T fr)):CmpLays prog g #[] (B5 F) 5 (cfT F) Hy 0 size w:=λm os dk _ x y=>by
 have hf:=TD (W:=sortWorldK (B5 F) 5 w Hy 0 m dk os) hF hn hT (λb h1 h2=>D3 b h1 h2) (xb hb);have hle:=CE (W:=sortWorldK (B5 F) 5 w Hy 0 m dk os) hF;have:=(hg.2 _ _ x.1 y.1 hf (x.2.1.le hle) (y.2.1.le hle) x.2.2 y.2.2).2;refine this.mono ?_;rintro e w' ⟨_,F',rfl,hx,_⟩;exact⟨rfl,_,_,pX (@Se.toBelow ⟨True⟩ _ _ hx) (@Se.dr ⟨True⟩ _ _ hx trivial)⟩
def QGi(x:uT F):∀v∈B5 F x,v.oneCell'=true:=by
 intro v hv;unfold B5 V8 at hv;simp only[ay,aI,or_false]at hv;rcases hv with rfl | rfl | rfl | rfl | rfl<;>rfl
variable[Dr]{w0:World}{F0:Gs}{bs:List (Nat×Obj)}{G:Gs->Prop}
theorem QD5(hg:jU g){b n cap lim:Nat}{ts:List ZW}{rest:List Value}(hG:∀F,G F->W8 F ts)(hp:∀t∈ts,PW t.t.2)(hl:ts.length=n)(hn:n<4611686018427387904)(hlim:lim<4611686018427387904):
  XI prog 249 [.slice (some ⟨b,0,none⟩) n cap,.int .i64 0,.int .i64 (n:Nat),.int .i64 (lim:Nat),.func (.func g) #[] #[]] ⟨w0,F0,(b,.cells (ts.flatMap V8++rest).toArray 227 (0,0))::bs,G⟩ (λ(_:List ZW)=>.tuple #[])
   (λts'=>⟨w0,F0,(b,.cells (ts'.flatMap V8++rest).toArray 227 (0,0))::bs,λF=>G F/\ts'.Perm ts/\ts'.Pairwise λx y=>before y.t.2 x.t.2=false⟩):=by
 refine⟨enters_of func249 wy rfl,λw hw=>?_⟩;obtain⟨F,h⟩:=hw;obtain⟨hb1,hb2,hb3⟩:=h.bx (b,_) aB;have hts:=hG F h.hG;have hblt:b<w.heap.size:=(Array.getElem?_eq_some_iff.1 hb1).1;have hT:(227:TypeId)≠256:=wu;obtain⟨d,hd⟩:∃d:Array (uT F),d.toList.map (·.1)=ts:=by
  refine⟨(ts.attach.map λt=>(⟨t.1,hts t.1 t.2,hp t.1 t.2⟩:uT F)).toArray,?_⟩;simp[ir,Function.comp_def]
 have hds:d.size=n:=by rw[<-hl,<-hd];simp
 have hfl:∀d:Array (uT F),flatK (B5 F) 5 d=((d.toList.map (·.1)).flatMap V8).toArray:=λd=>by
  rw[L4 (enc:=B5 F) (k:=5) (λ_=>rfl),List.flatMap_map];rfl
 have hH:HoldsK (B5 F) 5 w b 0 d:=by
  intro j hj;rw[hfl,hd]at hj ⊢;have hj':j<(ts.flatMap V8).length:=by simpa using hj
  rw[bM];refine⟨?_,by simp[World.frozen?,hb1]⟩;simp only[World.cell?,hb1,Option.isSome_none,Bool.false_eq_true,if_false,aS];rw[List.getElem?_append_left hj',av hj'];show some _=some ((ts.flatMap V8).toArray[j]!);rw[getElem!_pos (ts.flatMap V8).toArray j (by simpa using hj')];simp
 have hR:RowK (B5 F) 5 w b 0 d:=⟨λ_=>rfl,λx=>QGi x,hH,hblt⟩;have eg:=hg.1;have hcmp:=hg.lays (size:=d.size) h.fits hb3 hT hb1;have hs:=AnyQ.pdqsortCmpFunc_all cB 5 (Tn Xu) (Ky Xu) (B5 F) (cfT F) g #[] (QDj F) b 0 cap d w eg hcmp hR (d.size+1) 0 d.size lim d w O rfl (SWK.start hH) (au _) (aY _) O hlim (Or.inl I);have hpl:=pdq_sorts (ltOf (cfT F)) (QDj F) d 0 d.size lim true true (au _) (aY _) (Or.inl I);generalize pdq (ltOf (cfT F)) d 0 d.size lim true true=d' at hs hpl;obtain⟨⟨hp1,_,hp2⟩,hso⟩:=hpl;rw[hds]at hs;refine hs.mono ?_;rintro e w' ⟨rfl,m,os,rfl⟩;have hbk:=xb (enc:=B5 F) (k:=5) (m:=m) (dk:=d') (os:=os) hb1;have hfit:=TD (W:=sortWorldK (B5 F) 5 w b 0 m d' os) h.fits hb3 hT (λb h1 h2=>D3 b h1 h2) hbk;have hle:=CE (W:=sortWorldK (B5 F) 5 w b 0 m d' os) h.fits;have hperm:(d'.toList.map (·.1)).Perm ts:=by
  rw[<-hd];refine List.Perm.map _ ?_;have e1:(d'.extract 0 d.size).toList=d'.toList:=by rw[<-hp1];simp
  have e2:(d.extract 0 d.size).toList=d.toList:=wz;rw[e1,e2]at hp2;exact hp2
 have hcells:putCells id 0 (flatK (B5 F) 5 d') (ts.flatMap V8++rest).toArray=((d'.toList.map (·.1)).flatMap V8++rest).toArray:=by
  rw[hfl];refine UB ?_;have:=(eV V8 hperm).length_eq;exact this
 rw[hcells]at hbk;have hsz:w.heap.size<=(sortWorldK (B5 F) 5 w b 0 m d' os).heap.size:=by
  show _<=((w.heap.modify b _)++os).size;simp
 refine⟨d'.toList.map (·.1),rfl,qN w F (sortWorldK (B5 F) 5 w b 0 m d' os),?_⟩;refine⟨Gs.le_trans h.le hle,λk hk=>?_,hfit,⟨⟨?_,?_,?_,?_,?_⟩,?_⟩,λk hk=>?_,h.nd,λF' hF'=>⟨h.g F' (Gs.le_trans hle hF'),hperm,?_⟩⟩
 ·have:k<w.heap.size:=fI hk h.ext.size;rw[GL this];exact h.old k hk
 ·exact h.ext.os
 ·exact h.ext.tape
 ·exact h.ext.output
 ·exact aT h.ext.size hsz
 ·intro k hk;have h1:k<w.heap.size:=fI hk h.ext.size;have h2:k≠b:=by rintro rfl;exact absurd hk (Nat.not_lt.2 hb2)
  rw[D3 k h1 h2];exact h.ext.block k hk
 ·intro hd;exact aT (h.ext.dr hd) (Nat.le_add_right _ _)
 ·rcases List.mem_cons.1 hk with rfl | hk
  ·exact⟨hbk,hb2,by rw[GL hblt];exact hb3⟩
  obtain⟨g1,g2,g3⟩:=h.bx k (aq _ hk);have h1:k.1<w.heap.size:=(Array.getElem?_eq_some_iff.1 g1).1;have h2:k.1≠b:=by
   have:=h.nd;simp only[af]at this;have:=(List.nodup_cons.1 this).1;rintro e;exact this (e ▸ aa (f:=(·.1)) hk)
  exact⟨by rw[D3 k.1 h1 h2];exact g1,g2,by rw[GL h1];exact g3⟩
 rw[eF,List.pairwise_iff_getElem];intro i j hi hj hij;have hi':i<d'.size:=by simpa using hi
 have hj':j<d'.size:=by simpa using hj
 have:=hso i j (au _) hij O;rw[ltT,getElem!_pos _ i hi',getElem!_pos _ j hj']at this;simpa using this
end
open Go.RowKit Ig
section
variable[Dr]{w0:World}{F0:Gs}{bs:List (Nat×Obj)}{G:Gs->Prop}
theorem jB(hF:Fits F w){n:Nat}(h:n<4611686018427387904):Qg prog 250 [.int .u64 (n:Nat)] w F (.int .i64 (Lib.bitLen n:Nat)) :=
 QV.same (enters_of func250 wy rfl) hF (by
  have:=bits_Len (n:Nat) w O O
  rwa [Int.toNat_natCast]at this)
theorem yx:∀ {ts:List ZW},ts.flatMap V8=[]->ts=[]
 |[],_=>rfl
 |t::l,h=>by rw[bD]at h;simp[V8]at h
theorem QA8(hg:jU g){n lim:Nat}{v:Value}{ts:List ZW}{ob:List (Nat×Obj)}(hr:Q9 227 5 v n (ts.flatMap V8) ob)(hG:∀F,G F->W8 F ts)(hp:∀t∈ts,PW t.t.2)(hl:ts.length=n)(hn:n<4611686018427387904)(hlim:lim<4611686018427387904):
  XI prog 249 [v,.int .i64 0,.int .i64 (n:Nat),.int .i64 (lim:Nat),.func (.func g) #[] #[]] ⟨w0,F0,ob++bs,G⟩ (λ(_:List ZW×List (Nat×Obj))=>.tuple #[])
   (λc=>⟨w0,F0,c.2++bs,λF=>G F/\Q9 227 5 v n (c.1.flatMap V8) c.2/\c.1.Perm ts/\c.1.Pairwise λx y=>before y.t.2 x.t.2=false⟩):=by
 generalize hcs:ts.flatMap V8=cs at hr;cases hr with
 |nil =>
  have:=yx hcs;subst this;refine⟨enters_of func249 wy rfl,λw hw=>?_⟩;refine(AnyF.pdqsortCmpFunc_none cB none 0 (lim:Nat) (.func (.func g) #[] #[]) w).mono ?_;rintro e w' ⟨rfl,rfl⟩;exact⟨([],[]),rfl,hw.B3 λF h=>⟨h,.nil,aK _,bY⟩⟩
 |some h1 h2 h3 h4 =>
  rename_i b cap rest;subst hcs;have h:=QD5 (w0:=w0) (F0:=F0) (bs:=bs) (G:=G) hg (b:=b) (n:=n) (cap:=cap) (lim:=lim) (ts:=ts) (rest:=rest) hG hp hl hn hlim;refine⟨h.1,λw hw=>(h.2 w hw).mono ?_⟩;rintro e w' ⟨ts',rfl,hw'⟩;refine⟨(ts',[(b,.cells (ts'.flatMap V8++rest).toArray 227 (0,0))]),rfl,hw'.B3 λF ⟨hG',hpm,hpw⟩=>⟨hG',?_,hpm,hpw⟩⟩;have hlen:(ts'.flatMap V8).length=(ts.flatMap V8).length:=(eV V8 hpm).length_eq;exact .some (by rw[hlen];exact h1) (by rw[hlen];exact h2) h3 h4
theorem QAn(hg:jU g){n:Nat}{v:Value}{ts:List ZW}{ob:List (Nat×Obj)}(hr:Q9 227 5 v n (ts.flatMap V8) ob)(hG:∀F,G F->W8 F ts)(hp:∀t∈ts,PW t.t.2)(hl:ts.length=n)(hn:n<4611686018427387904):
  XI prog 225 [v,.func (.func g) #[] #[]] ⟨w0,F0,ob++bs,G⟩ (λ(_:List ZW×List (Nat×Obj))=>.tuple #[])
   (λc=>⟨w0,F0,c.2++bs,λF=>G F/\Q9 227 5 v n (c.1.flatMap V8) c.2/\c.1.Perm ts/\c.1.Pairwise λx y=>before y.t.2 x.t.2=false⟩):=by
 refine XI.intro func225 rfl wy rfl rfl<|wR rfl<|QA (O6 rfl hr Yp)<|wQ rfl<|QB<|QH0 rfl<|QH0 rfl<|QH0 rfl<|QA (O7 rfl QDY cS O)<|QI rfl (λ_ _ f _=>jB f hn) λ_=>QH0 rfl<|XW rfl (aK _) (QA8 hg hr (λF h=>hG F h.1) hp hl hn (Nat.lt_of_le_of_lt (Lib.bitLen_le n 62 O O) O)) λc=>QE<|Mk ?_
 exact Y1 (c) rfl .nil (rfl) λw h=>h.B3 λF h=>⟨h.1.1,h.2⟩
end
theorem MO:∀(n:Nat) (l:List Nat),l.Nodup->(∀j∈l,j<n)->l.length<=n
 |0,l,_,h=>by
  cases l with
  |nil=>exact aY _
  |cons x l=>exact absurd (h x aB) (fZ _)
 |n+1,l,hn,h=>by
  have h1:=MO n (l.erase n) (hn.erase n) λj hj=>by
   have h2:=(hn.mem_erase_iff).1 hj;have h3:=h j h2.2;have h4:=h2.1;omega
  rw[List.length_erase]at h1;split at h1<;>omega
theorem C4{l:List Nat}(hn:l.Nodup)(h:∀j∈l,j<n)(hj:j<n)(hjn:j∉l):(l++[j]).Nodup/\(∀i∈l++[j],i<n)/\l.length<n:=by
 have h1:(l++[j]).Nodup:=by
  rw[List.nodup_append];exact⟨hn,wz,λa ha b hb=>by rw[List.mem_singleton.1 hb];rintro rfl;exact hjn ha⟩
 have h2:∀i∈l++[j],i<n:=λi hi=>by
  rcases List.mem_append.1 hi with hi | hi
  ·exact h i hi
  rw[List.mem_singleton.1 hi];exact hj
 have h3:=MO n _ h1 h2;rw[aj]at h3;exact⟨h1,h2,by simp at h3;omega⟩
theorem xy{l:List Nat}(hn:l.Nodup)(h:∀j∈l,j<n)(ha:∀j,j<n->j∈l):l.Perm (ai n) :=
 (eX hn List.nodup_range).2 λa=>by rw[List.mem_range];exact⟨h a,ha a⟩
theorem UK[Inhabited α](l:List α):(ai l.length).map (el l)=l:=by
 apply List.ext_getElem?;intro i;by_cases h:i<l.length
 ·rw[fJ,List.getElem?_range h,av h];simp[JW h]
 rw[bc w6,bc O]
def XR(F:Gs)(s:Sr)(ts:List ZW)(p:List Tm):Prop:=Qx F s.q s.n 5 (ts.flatMap V8)/\W8 F ts/\J4 ts=p/\s.n<=s.cap/\ts.length=s.n
def XR.le{s:Sr}{ts:List ZW}{p:List Tm}(h:XR F s ts p)(k:Gs.le F F'):XR F' s ts p:=⟨h.1.le k,h.2.1.le k,h.2.2⟩
def CB(ts:List ZW):List ZW:=ts.filter λt=>decide (t.t.1≠0)
def Aw(ts:List ZW)(t:ZW):CB (ts++[t])=CB ts++(if t.t.1≠0 then[t]else[]):=by
 unfold CB;rw[List.filter_append];congr 1;by_cases h:t.t.1=0
 ·simp[h]
 simp[h]
structure QE3(ts:List ZW) where
 seen:List Nat
 v:Value
 n:Nat
 ob:List (Nat×Obj)
 hr:Q9 227 5 v n ((CB (seen.map (el ts))).flatMap V8) ob
 nd:seen.Nodup
 lt:∀j∈seen,j<ts.length
 hn:(CB (seen.map (el ts))).length=n
def CK(ts:List ZW):(Hc ts).length=ts.length:=by simp[Hc]
theorem kR:jU 226:=⟨enters_of func226 wy rfl,λw F a b hF hA hB pa pb=>@dQ ⟨True⟩ w F a b hF hA hB pa pb⟩
def xp{r:Rat}:MG r.num=0↔r=0:=by
 unfold MG;constructor
 ·intro h;apply Rat.num_eq_zero.1;split at h
  ·omega
  split at h<;>omega
 rintro rfl;rfl
def xe{ts os:List ZW}{l:List Tm}(hI:V3 ts l)(hn:seen.Nodup)(hlt:∀j∈seen,j<ts.length)(hall:∀j,j<ts.length->j∈seen)(hp:os.Perm (CB (seen.map (el ts))))(hs:os.Pairwise λx y=>before y.t.2 x.t.2=false):J4 os=Xv l:=by
 have h1:os.Perm (CB ts):=by
  refine hp.trans ?_;unfold CB;refine List.Perm.filter _ ?_;have:=(xy hn hlt hall).map (el ts)
  rwa [UK]at this
 have h2:(J4 os).Perm ((J4 ts).filter λt=>decide (t.1≠0)):=by
  have:=h1.map ZW.t;unfold CB at this;have e:(ts.filter λt=>decide (t.t.1≠0)).map ZW.t=(ts.map ZW.t).filter λt=>decide (t.1≠0):=by
   rw[List.filter_map];rfl
  rw[e]at this;exact this
 refine hI.gV.norm h2 ?_;have hnd:((J4 os).map (·.2)).Nodup:=by
  have h3:((J4 os).map (·.2)).Perm (((J4 ts).filter λt=>decide (t.1≠0)).map (·.2)):=h2.map _;rw[h3.nodup_iff];exact(List.filter_sublist.map _).nodup hI.gV.nd
 unfold J4 at hnd ⊢;rw[eF];rw[ir]at hnd;have hnd2:=List.pairwise_map.1 hnd;refine(hs.and hnd2).imp ?_;rintro x y ⟨h1,h2⟩;rcases G2 x.t.2 y.t.2 with e | e | e
 ·exact absurd e h2
 ·exact e
 rw[h1]at e;cases e
def Ls{ts:List ZW}(hlt:∀j∈seen,j<ts.length){t:ZW}(h:t∈CB (seen.map (el ts))):t∈ts:=by
 have:=(List.mem_filter.1 h).1;obtain⟨j,hj,e⟩:=List.mem_map.1 this;rw[<-e];exact Qv (hlt j hj)
def yD{ts:List ZW}{t:ZW}(e:el ts j=t)(h:t.t.1≠0):CB ((seen++[j]).map (el ts))=CB (seen.map (el ts))++[t]:=by
 rw[aL,af,fe,e,Aw,if_pos h]
def cI{ts:List ZW}{t:ZW}(e:el ts j=t)(h:t.t.1=0):CB ((seen++[j]).map (el ts))=CB (seen.map (el ts)):=by
 rw[aL,af,fe,e,Aw,if_neg (not_not_intro h),eU]
def dV(t:ZW):∀v∈V8 t,v.oneCell'=true:=by
 intro v hv;unfold V8 at hv;simp only[ay,aI,or_false]at hv;rcases hv with rfl | rfl | rfl | rfl | rfl<;>rfl
section
variable{w0:World}{F0:Gs}{bs:List (Nat×Obj)}{G:Gs->Prop}
theorem BY{ts:List ZW}{l:List Tm}(hI:V3 ts l)(hlen:ts.length<=1000000000)(hG:∀F,G F->W8 F ts):
  XI prog 184 [.map (some m)] ⟨w0,F0,(m,Z0 tx (Hc ts))::bs,G⟩ (λ(c:Sr×List ZW)=>c.1.v) (λc=>⟨w0,F0,(m,Z0 tx (Hc ts))::bs,λF=>G F/\XR F c.1 c.2 (Xv l)⟩):=by
 refine XI.intro func184 rfl wy rfl rfl<|Uu hG<|QI7<|wQ rfl<|QI7<|wQ rfl<|QG<|wR rfl<|IX rfl RR .here λb7=>QHz<|QW<|JV (ι:=QE3 ts) [(7,_)] (λi=>[(3,i.v)]) (λi=>(b7,jj m (Hc ts).length i.seen)::(m,Z0 tx (Hc ts))::(i.ob++bs)) (λi F=>True) (λi=>ts.length-i.seen.length) (⟨[],_,0,[],.nil,ef,(λ_ h=>by cases h),rfl⟩) wS wS QIM w8 λi=>?_
 simp only[ab,ag];have hn0:i.n<=i.seen.length:=by rw[<-i.hn];exact aT (List.length_filter_le _ _) wz
 refine QI7<|OS (kv:=Hc ts) (K:=tx) (b:=m) rfl .here .u1 λx hx=>QA (QX I (QEC x))<|QHz<|QG ?_
 refine QR I (λhc=>?_) λhc=>?_
 ·obtain⟨j,rfl⟩:∃j,x=some j:=by
   cases x with
   |none=>cases hc
   |some j=>exact⟨j,rfl⟩
  obtain⟨hj,hjn⟩:=hx;rw[CK]at hj;obtain⟨hs1,hs2,hs3⟩:=C4 i.nd i.lt hj hjn;have htm:=Qv hj;have hkj:(Hc ts)[j]?=some (KR (el ts j).t.2,jf (el ts j)):=by rw[Hc,fJ,av hj,JW hj];rfl
  generalize hte:el ts j=t at htm hkj;refine QJL 5 I<|QA (dG (kv:=Hc ts) (K:=tx) (p:=(KR t.t.2,jf t)) I .here .u1 hkj)<|wB 1 I<|Qc GD λb5=>QU (vs:=[_,_,_,_,_]) I I I Xu I .here .h5 wW<|QHz<|QI7<|QA (QH I Wn QN)<|QA (wJ I QN .here)<|QI I (λ_ _ f k=>Ub f ((k.1.2 t htm).1)) λ_=>QJK 3 I ?_
  refine QR I (λhc=>?_) λhc=>?_
  ·have hnz:t.t.1≠0:=λe=>by rw[e]at hc;cases hc
   refine wA 2 I<|QA (QJ (vs:=[_,_,_,_,_]) I Xu .here .h5 rfl)<|Qb I (Q4 Yp) Xu GD I I λb18=>Ze (bs':=(_::_::_::bs)++i.ob) (.cons _ (.cons _ (.cons _ bI))) ?_
   refine KB (ob:=i.ob) (k:=1) (sz:=5) (news:=V8 t) rfl rfl Yp Xu GD I QBx i.hr (Src.row (off:=0) tB (λj v hv=>by rw[bM];show((V8 t).toArray)[j]?=some v;rw[aS];exact hv) rfl) O O (dV t) (λv19 ob19 hr19=>?_);refine Ze (bs':=_::_::_::(ob19++bs)) (.cons _ (.cons _ (.cons _ bI)))<|wB 2 I<|Qk ?_
   exact Qm (⟨i.seen++[j],v19,i.n+1,ob19,by rw[yD hte hnz,aW];simpa using hr19,hs1,hs2,by rw[yD hte hnz,aj,i.hn];rfl⟩) (by show _-(i.seen++[j]).length<_;rw[aj];simp only[ee];omega) wT (.cons _ QIM) λF h=>⟨h.1.1.1,trivial⟩
  have hz:t.t.1=0:=xp.1 (by simpa using hc);refine QO<|Qk ?_
  exact Qm (⟨i.seen++[j],i.v,i.n,i.ob,by rw[cI hte hz];exact i.hr,hs1,hs2,by rw[cI hte hz];exact i.hn⟩) (by show _-(i.seen++[j]).length<_;rw[aj];simp only[ee];omega) wT (.cons _ QIM) λF h=>⟨h.1.1,trivial⟩
 obtain rfl:x=none:=by
  cases x with
  |none=>rfl
  |some j=>cases hc
 rw[show nxP (Hc ts).length i.seen none=∀j,j<(Hc ts).length->j∈i.seen from rfl,CK]at hx;refine Qz ?_
 repeat first|refine QZ ?_|refine QQ wy ?_
 refine Qa<|QC<|wR I<|XW I (List.perm_middle.trans (.cons _ eN)).symm (QAn kR i.hr (λF ⟨⟨hG0,hT⟩,_⟩ t ht=>hT t (Ls i.lt ht)) (λt ht=>hI.pw t (Ls i.lt ht)) i.hn (wk<|MO _ _ i.nd i.lt)) λc=>JM _ (λ_ _ f h=>h.2) λhso=>?_
 obtain⟨r,hv,hrn,hrc,hfix⟩:=Q9.fix (w0:=w0) (F0:=F0) (bs1:=(b7,jj m (Hc ts).length (nxS i.seen none))::(m,Z0 tx (Hc ts))::bs) (G:=_) hso.1;refine Ze bI<|YS hfix ?_
 rw[hv];refine QJK 9 I ?_;exact Y1 (⟨r,c.1⟩) I (wN I) (rfl) λw h=>St.imp h (.cons _ QIM) λF h9=>⟨h9.1.1.1.1,by rw[hrn];exact h9.2,λt ht=>h9.1.1.1.2 t (Ls i.lt (hso.2.1.mem_iff.1 ht)),xe hI i.nd i.lt hx hso.2.1 hso.2.2,by rw[hrn];exact hrc,hso.2.1.length_eq.trans (i.hn.trans hrn.symm)⟩
end
section
variable[Dr][df:Df]{P:Program}{N:Nat}{m:Sl}{w0:World}{F0:Gs}{bs:List (Nat×Obj)}{G:Gs->Prop}
theorem dF{yT ty e:TypeId}{y:Operand}{q:Option Addr}{Y:World->Prop}(hx:ev m x=some (.slice q n c))(hy:ev m y=some (.slice none 0 0))(hT:G9 P T=some e):Qt P N m Y (.binOp .eql T x y yT) ty (.bool q.isNone):=λa w _ _ _ _ ha _=>by
 have:=Lib.run_eql_slice_nil (P:=P) w T e q n c 0 0 (Q4 hT);simp[execOp,ha.ev hx,ha.ev hy,eqGuard,this]
theorem Src.QDt{sz:Nat}{a:Addr}{news:List Value}(hr:∀F,G F->Qx F (some a) k sz news)(hl:news.length=k*sz):Src ⟨w0,F0,bs,G⟩ sz (.slice (some a) k c) k news:=by
 refine⟨hl,.inr ⟨a,c,rfl,λw hw j v hv=>?_⟩⟩;have hk:0<k:=by
  rcases eD k with h | h
  ·rw[h,fi]at hl;rw[List.length_eq_zero_iff.1 hl]at hv;simp at hv
  exact h
 obtain⟨F,h⟩:=id hw;obtain⟨b,off,_,_,e,_,_⟩:=(hr F h.hG).2 hk;cases e;rw[BS];exact Ws hw hr hk hv
theorem Src.QGX{q:Option Addr}{sz:Nat}{news:List Value}(h0:q=none->k=0)(hr:∀F,G F->Qx F q k sz news)(hl:news.length=k*sz):Src ⟨w0,F0,bs,G⟩ sz (.slice q k c) k news:=by
 cases q with
 |some a=>exact .QDt hr hl
 |none =>
  have h:=h0 rfl;subst h;rw[fi,List.length_eq_zero_iff]at hl;subst hl;exact .nil
theorem z6(h:XF F ⟨none,n,c⟩ l):Q9 3 1 (.slice none 0 0) n (l.map Jr) []:=by
 obtain⟨⟨_,h1⟩,h2,_⟩:=h;have h0:n=0:=by
  rcases eD n with h | h
  ·exact h
  obtain⟨_,_,_,_,e,_⟩:=h1 h;cases e
 subst h0;rw[List.length_eq_zero_iff.1 h2];exact .nil
theorem pU(l:List Int):∀v∈l.map Jr,v.oneCell'=true:=by
 intro v hv;obtain⟨x,_,rfl⟩:=List.mem_map.1 hv;rfl
end
section
variable{w0:World}{F0:Gs}{bs:List (Nat×Obj)}{G:Gs->Prop}
theorem Um{r:Sr}(hG:∀F,G F->XF F r l)(hn:l.length=r.n)(hl:l.length<=1000000000):
  XI prog 182 [r.v] ⟨w0,F0,bs,G⟩ (λ(c:Value×List (Nat×Obj))=>c.1) (λc=>⟨w0,F0,bs++c.2,λF=>G F/\Q9 3 1 c.1 r.n (l.map Jr) c.2⟩):=by
 obtain⟨q,n,c⟩:=r;dsimp only[Sr.v]at hn ⊢;refine XI.intro func182 rfl wy rfl rfl<|Uu hG<|QI7<|wQ rfl<|QG<|wR rfl<|QA (dF rfl rfl JC)<|QE<|QC ?_
 refine QR I (λhc=>?_) λhc=>?_
 ·obtain rfl:q=none:=by
   cases q with
   |none=>rfl
   |some a=>cases hc
  refine wA 6 I ?_;exact Y1 (⟨.slice none 0 0,[]⟩) I (wN I) (rfl) λw h=>St.imp h wz λF h9=>⟨h9.1,z6 h9.2⟩
 obtain⟨a,rfl⟩:∃a,q=some a:=by
  cases q with
  |none=>cases hc
  |some a=>exact⟨a,rfl⟩
 refine QJL 4 I<|Ev (Q4 JC) JO λb5=>QH0 I<|Ze (bs':=bs++[(b5,.cells ([]++[]:List Value).toArray 3 (0,0))]) (bI (l₁:=[_]))<|KB (ob:=[(b5,.cells ([]++[]:List Value).toArray 3 (0,0))]) (n:=0) (k:=n) (sz:=1) (news:=l.map Jr) rfl rfl JC JO SP I OM (.some rfl rfl (aY _) wu) (Src.QDt (λF hG=>hG.2.1) (by simp[hn])) O O (pU l) λv7 ob7 hr7=>?_
 rw[bM,ag]at hr7;refine wQ I<|QY ?_
 exact Y1 (⟨v7,ob7⟩) I (wN I) (rfl) λw h=>St.imp h QIM λF h9=>⟨h9.1,hr7⟩
end
structure E6 where
 f:List UInt8
 r:Sr
 k:List Int
variable{ps:List E6}
instance :Inhabited E6:=⟨⟨[],⟨none,0,0⟩,[]⟩⟩
def DM(t:E6):List Value:=[tx t.f,.slice t.r.q t.r.n t.r.cap]
def Wt(t:E6):(DM t).length=2:=rfl
def VT(F:Gs)(ts:List E6):Prop:=∀t∈ts,XF F t.r t.k
def VT.le{ts:List E6}(h:VT F ts)(k:Gs.le F F'):VT F' ts:=λt ht=>(h t ht).le k
def vZ(t:E6):Tm:=(Qo t.f,t.k)
structure QE1(ps:List E6) where
 i:Nat
 ts:List ZW
 le:i<=ps.length
 hI:V3 ts ((ps.take i).map vZ)
def xW(l:List Tm)(i:Nat):KD (l.take i)<=KD l:=by
 have:=Zb (l.take i) (l.drop i);rw[aR]at this;omega
theorem Nl{l:List Tm}{t:Tm}(h:t∈l):JU t.1<=KD l:=by
 induction l with
 |nil=>cases h
 |cons x l ih =>
  have e:KD (x::l)=JU x.1+1+KD l:=by unfold KD;rw[af,bR]
  rcases List.mem_cons.1 h with rfl | h
  ·omega
  have:=ih h;omega
section
variable{P:Program}{w:World}{F:Gs}{f:FuncId}{args:List Value}{γ:Type}{val:γ->Value}{fact:γ->Gs->Prop}
theorem uG{r:Sr}(hF:Fits F w)(hR:XF F r l)(hl:l.length<=1000000000):QV prog 182 [r.v] w F (λ(c:Sr)=>c.v) (λc F=>XF F c l):=by
 have h:=Um (w0:=w) (F0:=F) (bs:=[]) (G:=λF'=>Gs.le F F') (r:=r) (l:=l) (λF' h=>hR.le h) hR.2.1 hl;refine⟨h.1,(h.2 w (St.start hF λ_ h=>h)).mono ?_⟩;rintro e w' ⟨⟨v,ob⟩,rfl,hw⟩;obtain⟨F1,h1⟩:=id hw;have ho:=(h1.hG).2;dsimp only at ho hw;obtain⟨s,hv,hsn,hsc,hfix⟩:=Q9.fix (w0:=w) (F0:=F) (bs1:=[]) ho;obtain⟨F',h'⟩:=hfix w' hw;exact⟨s,F',by rw[hv],h'.ext,h'.le,h'.old,h'.fits,λF'' hle=>⟨by rw[hsn];exact(h'.g F'' hle).2,by rw[hsn];exact hR.2.1,by rw[hsn];exact hsc⟩⟩
end
section
theorem dK{r:Sr}(hF:Fits F w)(hGl:JE F)(hR:Qx F r.q r.n 2 (ps.flatMap DM))(hP:VT F ps)(hn:ps.length=r.n)(hl:ps.length<=100000)(hv:∀t∈ps,Jk t.f=0/\t.f.length<=1000000/\PW t.k)(hz:KD (ps.map vZ)<=40000000):
  QV prog 115 [r.v] w F (λ(c:Sr×List ZW)=>c.1.v) (λc F=>XR F c.1 c.2 (Xv (ps.map vZ))):=by
 obtain⟨q,n,cap⟩:=r;dsimp only[Sr.v]at hn hR ⊢;refine QV.intro (G:=λF=>JE F/\Qx F q n 2 (ps.flatMap DM)/\VT F ps) func115 rfl wy rfl rfl hF (λF' hF'=>⟨hGl.le hF',hR.le hF',hP.le hF'⟩)<|QI7<|wQ rfl<|QI7<|G6 tx λm=>wQ rfl<|QG<|wR rfl<|QA (Qh rfl Kz)<|QH0 rfl<|QHz<|QW<|JV (ι:=QE1 ps) [(3,_),(7,_),(8,_)] (λi=>[(9,.int .i64 ((i.i:Nat):Int))]) (λi=>[(m,Z0 tx (Hc i.ts))]) (λi F=>W8 F i.ts) (λi=>ps.length-i.i) (⟨0,[],au _,V3.nil⟩) wU wS QIM (λ_ _ _ h=>by cases h) λi=>?_
 simp only[ab,ag];have hi:=i.le;refine wA 6 I ?_;refine QR I (λhc=>?_) λhc=>?_
 ·have hlt:i.i<ps.length:=wk<|QJG hc
  have hv1:=hv _ (Qv hlt);have hz1:=xW (ps.map vZ) i.i;rw[<-List.map_take]at hz1;have hz2:JU (vZ (el ps i.i)).1<=KD (ps.map vZ):=Nl (aa (Qv hlt));dsimp only[vZ]at hz2;have hl1:=hv1.2.2.2;refine QJL 6 I<|QA (Q3 (n:=n) i.i (λF h9=>h9.1.2.1) rfl rfl Kz VA O)<|QA (JK (n:=n) (vs:=[tx (el ps i.i).f,.slice (el ps i.i).r.q (el ps i.i).r.n (el ps i.i).r.cap]) ((i.i)*2) (λF h9=>h9.1.2.1) O rfl VA I λj v hv=>JQ (f:=DM) (l:=ps) Wt O hv)<|Qc Dv λb5=>QU (vs:=[_,_]) I I I VA I .here .h2 wT<|QHz<|JH (.cons_cons _ (.cons _ .slnil)) mixed wm<|QK (QD I)<|QK (QH I Rk JP)<|QK (Qf I JP .here .h1)<|QP I (λ_ _ f k=>Kj f k.1.1 ((XH (hv _ (Qv hlt)).1).1) (wk<|(hv _ (Qv hlt)).2.1)) λx16=>QK (QH I Gw Jz)<|QK (Qf I Jz .here (.skip .h1))<|QP I (λ_ _ f k=>uG f (r:=(el ps i.i).r) (k.1.1.2.2 _ (Qv hlt)) O) λc19=>Ic I (eM _ _ _) (D4 (r:=c19) (x:=x16) i.hI hv1.2.2 O O λF h9=>⟨h9.1.1.1.1,h9.1.1.2,h9.1.2,h9.2⟩) (λn w h=>St.imp h (.cons _ QIM) λF h=>h.1.1.1) λn20=>YU _ (λ_ _ f h=>h.2.2) λh20=>?_
  have hI2:V3 (addN i.ts n20) ((ps.take (i.i+1)).map vZ):=by
   have:=i.hI.add hv1.2.2 h20;rw[XU hlt,aL];exact this
  refine Q7<|Qk<|QC<|QB<|QA (Qw I I O)<|wB 2 I ?_
  exact Qm (⟨i.i+1,addN i.ts n20,hlt,hI2⟩) (by show ps.length-(i.i+1)<ps.length-i.i;omega) wV (.cons_cons _ (.cons _ .slnil)) λF h=>⟨h.1.1.1.1,h.2.1⟩
 have hge:i.i=ps.length:=wk<|QJH hc
 refine Qz ?_
 repeat first|refine QZ ?_|refine QQ wy ?_
 refine Qa<|QJM 4 I ?_
 have hI:=i.hI;rw[hge,aC]at hI;refine XW I (aK _) (BY hI (by have:=hI.ln;rw[bz]at this;omega) tB) (λc23=>wQ I<|QY ?_);exact QS (c23) rfl (wN I) (rfl) tB
end
abbrev WA:=Sr×List ZW
variable{ls:List WA}
instance :Inhabited WA:=⟨(⟨none,0,0⟩,[])⟩
def Nj(F:Gs)(ls:List WA):Prop:=∀e∈ls,XR F e.1 e.2 (J4 e.2)
def Nj.le(h:Nj F ls)(k:Gs.le F F'):Nj F' ls:=λe he=>(h e he).le k
def En(ls:List WA):List Tm:=ls.flatMap λe=>J4 e.2
structure QHO(ls:List WA) where
 i:Nat
 ts:List ZW
 le:i<=ls.length
 hI:V3 ts (En (ls.take i))
structure Ij(l0:List Tm)(te:List ZW) where
 j:Nat
 ts:List ZW
 le:j<=te.length
 hI:V3 ts (l0++J4 (te.take j))
def VC{te:List ZW}(h:j<te.length):J4 (te.take (j+1))=J4 (te.take j)++[(el te j).t]:=by unfold J4;rw[XU h,aL];rfl
def jF(h:i<ls.length):En (ls.take (i+1))=En (ls.take i)++J4 (el ls i).2:=by unfold En;rw[XU h,aW];simp
def uO(h:i<ls.length):KD (En (ls.take i)++J4 ((el ls i).2.take j))<=KD (En ls):=by
 have e1:En ls=En (ls.take i)++(J4 (el ls i).2++En (ls.drop (i+1))):=by
  have:ls=ls.take i++el ls i::ls.drop (i+1):=by rw[<-Bo h,aR]
  unfold En
  conv=>lhs;rw[this]
  rw[aW,bD]
 have e2:J4 (el ls i).2=J4 ((el ls i).2.take j)++J4 ((el ls i).2.drop j):=by unfold J4;rw[<-aL,aR]
 have h1:=congrArg KD e1;have h2:=congrArg KD e2;rw[Zb,Zb]at h1;rw[Zb]at h2;rw[Zb];omega
theorem QA9{p q:WA}(hF:Fits F w)(hGl:JE F)(hP:XR F p.1 p.2 (J4 p.2))(hQ:XR F q.1 q.2 (J4 q.2))(hp:(∀t∈p.2,PW t.t.2)/\∀t∈q.2,PW t.t.2)(hl:p.2.length<=400000000/\q.2.length<=400000000)(hz:KD (J4 p.2++J4 q.2)<=40000000):
  QV prog 237 [p.1.v,q.1.v] w F (λ(c:WA)=>c.1.v) (λc F=>XR F c.1 c.2 (Xv (J4 p.2++J4 q.2))):=by
 have hpw:∀e∈[p,q],(∀t∈e.2,PW t.t.2)/\e.2.length<=400000000/\e.2.length=e.1.n:=by
  intro e he;simp only[ay,aI,or_false]at he;rcases he with rfl | rfl
  ·exact⟨hp.1,hl.1,hP.2.2.2.2⟩
  exact⟨hp.2,hl.2,hQ.2.2.2.2⟩
 have hall:En [p,q]=J4 p.2++J4 q.2:=by simp[En]
 rw[<-hall]at hz ⊢;dsimp only[Sr.v];refine QV.intro (G:=λF=>JE F/\Nj F [p,q]) func237 rfl wy rfl rfl hF (λF' hF'=>⟨hGl.le hF',Nj.le (by intro e he;simp only[ay,aI,or_false]at he;rcases he with rfl | rfl;exact hP;exact hQ) hF'⟩)<|QI7<|wQ rfl<|QI7<|G6 tx λm=>wQ rfl<|QG<|wR rfl<|QH0 rfl<|Qb rfl (Q4 YW) YI U8 rfl rfl λb13=>QA (Qh rfl YW)<|QH0 rfl<|QHz<|QW<|JV (ι:=QHO [p,q]) [(5,_),(13,_),(14,_)] (λi=>[(15,.int .i64 ((i.i:Nat):Int))]) (λi=>[(m,Z0 tx (Hc i.ts))]) (λi F=>W8 F i.ts) (λi=>2-i.i) (⟨0,[],au _,V3.nil⟩) wU wS QIM (λ_ _ _ h=>by cases h) λi=>?_
 simp only[ab,ag];have hi:=i.le;simp only[ar,bX]at hi;refine wA 6 I ?_;refine QR I (λhc=>?_) λhc=>?_
 ·have hlt:i.i<[p,q].length:=by have:=QJG hc;simp only[ar,bX];omega
  have hem:=Qv hlt;have hpe:=hpw _ hem;have hln:=hpe.2.2;have hln2:=hpe.2.1;refine QJL 6 I<|QA (Q3 (n:=2) i.i (λF h9=>Qx.of (n:=2) (sz:=1) (cs:=[p,q].map λe=>e.1.v) h9.1.2 I) rfl rfl YW YI (by simpa using hlt))<|QA (Q5 (n:=2) (i.i*1) (λF h9=>Qx.of (n:=2) (sz:=1) (cs:=[p,q].map λe=>e.1.v) h9.1.2 I) wu rfl YI (XL (f:=λe:WA=>e.1.v) (l:=[p,q]) hlt))<|QJK 6 I<|QA (Qh I Yp)<|QJK 4 I<|JV (ι:=Ij (En ([p,q].take i.i)) (el [p,q] i.i).2) [(5,_),(13,_),(14,_),(15,_),(19,_),(20,_)] (λi2=>[(21,.int .i64 ((i2.j:Nat):Int))]) (λi2=>[(m,Z0 tx (Hc i2.ts))]) (λi2 F=>W8 F i2.ts) (λi2=>(el [p,q] i.i).2.length-i2.j) (⟨0,i.ts,au _,by simpa[J4]using i.hI⟩) wX wS QIM tB λi2=>?_
  simp only[ab,ag];have hj:=i2.le;refine wA 6 I ?_;refine QR I (λhc=>?_) λhc=>?_
  ·have hlt2:i2.j<(el [p,q] i.i).2.length:=wk<|QJG hc
   have htm:=Qv hlt2;have hz1:=uO (j:=i2.j) hlt;have hz2:JU (el (el [p,q] i.i).2 i2.j).t.1<=KD (En [p,q]):=Nl (List.mem_flatMap.2 ⟨_,hem,aa htm⟩);refine QJL 6 I<|QA (Q3 (n:=(el [p,q] i.i).1.n) (i2.j) (λF h9=>(h9.1.1.1.2 _ hem).1) rfl rfl Yp Xu O)<|QA (JK (n:=(el [p,q] i.i).1.n) (vs:=[.int .i64 (el (el [p,q] i.i).2 (i2.j)).x.n.s,.slice (el (el [p,q] i.i).2 (i2.j)).x.n.q (el (el [p,q] i.i).2 (i2.j)).x.n.n (el (el [p,q] i.i).2 (i2.j)).x.n.cap,.int .i64 (el (el [p,q] i.i).2 (i2.j)).x.d.s,.slice (el (el [p,q] i.i).2 (i2.j)).x.d.q (el (el [p,q] i.i).2 (i2.j)).x.d.n (el (el [p,q] i.i).2 (i2.j)).x.d.cap,.slice (el (el [p,q] i.i).2 (i2.j)).r.q (el (el [p,q] i.i).2 (i2.j)).r.n (el (el [p,q] i.i).2 (i2.j)).r.cap]) ((i2.j)*5) (λF h9=>(h9.1.1.1.2 _ hem).1) O rfl Xu I λj v hv=>JQ (f:=V8) (l:=(el [p,q] i.i).2) Bf O hv)<|Qc GD λb9=>QU (vs:=[_,_,_,_,_]) I I I Xu I .here .h5 wW<|QJK 4 I<|QA (QH I Wn QN)<|QA (wJ I QN .here)<|QA (QH I Vp Jz)<|QA (Qf I Jz .here (.skip (.skip (.skip (.skip .h1)))))<|XW I (eM _ _ _) (D4 (r:=(el (el [p,q] i.i).2 i2.j).r) (x:=(el (el [p,q] i.i).2 i2.j).x) i2.hI (hpe.1 _ htm) O O λF h9=>⟨h9.1.1.1.1,h9.2,((h9.1.1.1.2 _ hem).2.1 _ htm).1,((h9.1.1.1.2 _ hem).2.1 _ htm).2⟩) λn30=>JM _ (λ_ _ f h=>h.2.2) λh30=>QE<|Qk<|QC<|QB<|QA (Qw I I O) ?_
   refine wB 2 I ?_;exact Qm (⟨i2.j+1,addN i2.ts n30,hlt2,by rw[VC hlt2,<-bQ];exact i2.hI.add (hpe.1 _ htm) h30⟩) (by show _-(i2.j+1)<_-i2.j;omega) wY (.cons_cons _ (.cons _ .slnil)) λF h=>⟨h.1.1,h.2.1⟩
  have hge2:i2.j=(el [p,q] i.i).2.length:=wk<|QJH hc
  refine Qz ?_
  repeat first|refine QZ ?_|refine QQ wy ?_
  refine Qa<|Qk<|QC<|QB<|QA (Qw I I O)<|wB 2 I ?_
  exact Qm (⟨i.i+1,i2.ts,hlt,by rw[jF hlt];have:=i2.hI;rw[hge2,aC]at this;exact this⟩) (by show 2-(i.i+1)<2-i.i;simp only[ar,bX]at hlt;omega) wV QIM λF h=>⟨h.1.1,h.2⟩
 have hge:i.i=[p,q].length:=by have:=QJH hc;simp only[ar,bX];omega
 refine Qz ?_
 repeat first|refine QZ ?_|refine QQ wy ?_
 refine Qa<|QJM 4 I ?_
 have hI:=i.hI;rw[hge,aC]at hI;refine XW I (aK _) (BY hI (by have:=hI.ln;rw[hall,aj]at this;simp only[J4,bz]at this;omega) tB) (λc34=>wQ I<|QY ?_);exact QS (c34) rfl (wN I) (rfl) tB
section
variable{P:Program}{Q:Exit->Act->World->Prop}{N:Nat}{m:Sl}{E0:Env}{ops:Array Oper}{l:List Oper}{w0:World}{F0:Gs}{bs:List (Nat×Obj)}{G:Gs->Prop}
theorem Y4[Dr]{bs':List (Nat×Obj)}(hp:bs.Perm bs')(k:JD P ops Q E0 l N m ⟨w0,F0,bs',G⟩):JD P ops Q E0 l N m ⟨w0,F0,bs,G⟩:=λhE a w ha hw=>k (λw h=>hE w (h.perm hp.symm)) a w ha (hw.perm hp)
end
abbrev Pt:=List (List UInt8×List Int)
def YG(ts:List E6):Pt:=ts.map λt=>(t.f,t.k)
abbrev SD:=Sr×List E6
def Q9.pos{sz:Nat}{v:Value}{cs:List Value}{ob:List (Nat×Obj)}(h:Q9 T sz v n cs ob)(hn:0<n):∃b cap rest,v = .slice (Option.some ⟨b,0,Option.none⟩) n cap/\ob=[(b,.cells (cs++rest).toArray T (0,0))]/\cs.length=n*sz/\cs.length+rest.length=cap*sz/\n<=cap/\cap<=maxLen:=by
 cases h with
 |nil=>omega
 |some h1 h2 h3 h4=>exact⟨_,_,_,rfl,rfl,h1,h2,h3,h4⟩
structure PmO(p q:List ZW) where
 i:Nat
 ts:List ZW
 le:i<=p.length
 hI:V3 ts (Zs (J4 (p.take i)) (J4 q))
structure PmJ(l0:List Tm)(s:Tm)(q:List ZW) where
 j:Nat
 ts:List ZW
 le:j<=q.length
 hI:V3 ts (l0++K2 s (J4 (q.take j)))
structure PmK(n:Nat)(a b:List Int) where
 k:Nat
 L:List Int
 v:Value
 ob:List (Nat×Obj)
 le:k<=b.length
 hr:Q9 3 1 v n (L.map Jr) ob
 hL:L=Wa (a.take k) (b.take k)++a.drop k
def jK{a b:List Int}(h1:k<a.length)(h2:k<b.length):(Wa (a.take k) (b.take k)++a.drop k).set k (Qn a k+Qn b k)=Wa (a.take (k+1)) (b.take (k+1))++a.drop (k+1):=by
 have hl:(Wa (a.take k) (b.take k)).length=k:=by unfold Wa;rw[fC,aQ,aQ];omega
 have hs:Wa (a.take (k+1)) (b.take (k+1))=Wa (a.take k) (b.take k)++[Qn a k+Qn b k]:=by
  rw[XU h1,XU h2,Yr h1,Yr h2];unfold Wa;rw[List.zipWith_append (by rw[aQ,aQ];omega)];rfl
 rw[hs,Bo h1,List.set_append_right _ _ O,hl,iw];simp
def IN{a b:List Int}(h1:k<a.length)(h2:k<b.length):Qn (Wa (a.take k) (b.take k)++a.drop k) k=Qn a k:=by
 have hl:(Wa (a.take k) (b.take k)).length=k:=by unfold Wa;rw[fC,aQ,aQ];omega
 have h3:k<(Wa (a.take k) (b.take k)++a.drop k).length:=by rw[aj,hl,List.length_drop];omega
 rw[Yr h3,Yr h1,JW h3,JW h1,List.getElem_append_right O];simp[hl]
def RF{p q:List ZW}(h:i<p.length):Zs (J4 (p.take (i+1))) (J4 q)=Zs (J4 (p.take i)) (J4 q)++K2 (el p i).t (J4 q):=by
 rw[VC h,ED];congr 1;simp[Zs]
def zV{p q:List ZW}(h:i<p.length):KD (Zs (J4 (p.take i)) (J4 q)++K2 (el p i).t (J4 (q.take j)))<=KD (Zs (J4 p) (J4 q)):=by
 have e1:J4 p=J4 (p.take (i+1))++J4 (p.drop (i+1)):=by unfold J4;rw[<-aL,aR]
 have e2:J4 q=J4 (q.take j)++J4 (q.drop j):=by unfold J4;rw[<-aL,aR]
 have h1:KD (Zs (J4 p) (J4 q))=KD (Zs (J4 (p.take (i+1))++J4 (p.drop (i+1))) (J4 q)):=by rw[<-e1]
 rw[ED,RF h,Zb,Zb]at h1;have h2:KD (K2 (el p i).t (J4 q))=KD (K2 (el p i).t (J4 (q.take j)++J4 (q.drop j))):=by rw[<-e2]
 rw[DA,Zb]at h2;rw[Zb];omega
def qH(p q:List Tm):(Zs p q).length=p.length*q.length:=by
 induction p with
 |nil=>simp[Zs]
 |cons s p ih=>rw[Lh,aj,ih,ar,fB];simp[K2];omega
def QBK{a b:Nat}(h:a<=10000)(k:b<=10000):a*b<=100000000:=aX h k
theorem QA3{p q:WA}(hF:Fits F w)(hGl:JE F)(hP:XR F p.1 p.2 (J4 p.2))(hQ:XR F q.1 q.2 (J4 q.2))(hw:(∀t∈p.2,t.t.2.length=N)/\∀t∈q.2,t.t.2.length=N)(hN:N<=1000)(hl:p.2.length<=10000/\q.2.length<=10000)
  (hpw:(∀t∈p.2,PW t.t.2)/\(∀t∈q.2,PW t.t.2)/\∀s∈p.2,∀t∈q.2,PW (Wa s.t.2 t.t.2)) (hz1:KD (J4 p.2)<=20000000/\KD (J4 q.2)<=20000000) (hz:KD (Zs (J4 p.2) (J4 q.2))<=40000000) :
  QV prog 238 [p.1.v,q.1.v] w F (λ(c:WA)=>c.1.v) (λc F=>XR F c.1 c.2 (Xv (Zs (J4 p.2) (J4 q.2)))):=by
 have hpn:=hP.2.2.2.2;have hqn:=hQ.2.2.2.2;dsimp only[Sr.v];refine QV.intro (G:=λF=>JE F/\XR F p.1 p.2 (J4 p.2)/\XR F q.1 q.2 (J4 q.2)) func238 rfl wy rfl rfl hF (λF' hF'=>⟨hGl.le hF',hP.le hF',hQ.le hF'⟩)<|QI7<|wQ rfl<|QI7<|G6 tx λm=>wQ rfl<|QG<|wR rfl<|QA (Qh rfl Yp)<|QH0 rfl<|QHz<|QW<|JV (ι:=PmO p.2 q.2) [(1,_),(5,_),(14,_),(15,_)] (λi=>[(16,.int .i64 ((i.i:Nat):Int))]) (λi=>[(m,Z0 tx (Hc i.ts))]) (λi F=>W8 F i.ts) (λi=>p.2.length-i.i) (⟨0,[],au _,V3.nil⟩) wV wS QIM (λ_ _ _ h=>by cases h) λi=>?_
 simp only[ab,ag];have hi:=i.le;refine wA 6 I ?_;refine QR I (λhc=>?_) λhc=>?_
 ·have hlt:i.i<p.2.length:=wk<|QJG hc
  have hta:=Qv hlt;have hna:=hw.1 _ hta;have hra:=(hP.2.1 _ hta).2.2.1;refine QJL 6 I<|QA (Q3 (n:=p.1.n) i.i (λF h9=>(h9.1.2.1).1) rfl rfl Yp Xu O)<|QA (JK (n:=p.1.n) (vs:=[.int .i64 (el p.2 i.i).x.n.s,.slice (el p.2 i.i).x.n.q (el p.2 i.i).x.n.n (el p.2 i.i).x.n.cap,.int .i64 (el p.2 i.i).x.d.s,.slice (el p.2 i.i).x.d.q (el p.2 i.i).x.d.n (el p.2 i.i).x.d.cap,.slice (el p.2 i.i).r.q (el p.2 i.i).r.n (el p.2 i.i).r.cap]) ((i.i)*5) (λF h9=>(h9.1.2.1).1) O rfl Xu I λj v hv=>JQ (f:=V8) (l:=p.2) Bf O hv)<|Qc GD λb7=>QU (vs:=[_,_,_,_,_]) I I I Xu I .here .h5 wW<|QJK 5 I<|QA (Qh I Yp)<|QJK 4 I<|JV (ι:=PmJ (Zs (J4 (p.2.take i.i)) (J4 q.2)) (el p.2 i.i).t q.2) [(1,_),(5,_),(7,_),(14,_),(15,_),(16,_),(20,_),(21,_)] (λi2=>[(22,.int .i64 ((i2.j:Nat):Int))]) (λi2=>[(b7,.cells (V8 (el p.2 i.i)).toArray 227 (0,0)),(m,Z0 tx (Hc i2.ts))]) (λi2 F=>W8 F i2.ts) (λi2=>q.2.length-i2.j) (⟨0,i.ts,au _,by simpa[J4,K2]using i.hI⟩) wZ wS QIM tB λi2=>?_
  simp only[ab,ag];have hj:=i2.le;refine wA 6 I ?_;refine QR I (λhc=>?_) λhc=>?_
  ·have hlt2:i2.j<q.2.length:=wk<|QJG hc
   have htb:=Qv hlt2;have hnb:=hw.2 _ htb;have hrb:=(hQ.2.1 _ htb).2.2.1;have hzz:=zV (q:=q.2) (j:=i2.j) hlt;have hza:JU (el p.2 i.i).t.1<=KD (J4 p.2):=Nl (aa hta);have hzb:JU (el q.2 i2.j).t.1<=KD (J4 q.2):=Nl (aa htb);refine QJL 6 I<|QA (Q3 (n:=q.1.n) (i2.j) (λF h9=>(h9.1.1.2.2).1) rfl rfl Yp Xu O)<|QA (JK (n:=q.1.n) (vs:=[.int .i64 (el q.2 (i2.j)).x.n.s,.slice (el q.2 (i2.j)).x.n.q (el q.2 (i2.j)).x.n.n (el q.2 (i2.j)).x.n.cap,.int .i64 (el q.2 (i2.j)).x.d.s,.slice (el q.2 (i2.j)).x.d.q (el q.2 (i2.j)).x.d.n (el q.2 (i2.j)).x.d.cap,.slice (el q.2 (i2.j)).r.q (el q.2 (i2.j)).r.n (el q.2 (i2.j)).r.cap]) ((i2.j)*5) (λF h9=>(h9.1.1.2.2).1) O rfl Xu I λj v hv=>JQ (f:=V8) (l:=q.2) Bf O hv)<|Qc GD λb9=>QU (vs:=[_,_,_,_,_]) I I I Xu I .here .h5 wW<|QHz<|QI7<|QA (QH I Vp Jz)<|QA (Qf I Jz .u1 (.skip (.skip (.skip (.skip .h1)))))<|XW I (aK _) (Um (r:=(el p.2 i.i).r) (l:=(el p.2 i.i).t.2) (λF h9=>(h9.1.1.2.1.2.1 _ hta).2) hra O) λc28=>JM _ (λ_ _ f h=>h.2) λh28=>QJK 6 I<|QA (QH I Vp Jz) ?_
   refine QA (Qf I Jz .here (.skip (.skip (.skip (.skip .h1)))))<|QA (Qh I JC)<|QJK 4 I<|JV (ι:=PmK (el p.2 i.i).r.n (el p.2 i.i).t.2 (el q.2 i2.j).t.2) [(1,_),(5,_),(7,_),(9,_),(14,_),(15,_),(16,_),(20,_),(21,_),(22,_),(30,_),(31,_)] (λi3=>[(10,i3.v),(32,.int .i64 ((i3.k:Nat):Int))]) (λi3=>[(b9,.cells (V8 (el q.2 i2.j)).toArray 227 (0,0)),(b7,.cells (V8 (el p.2 i.i)).toArray 227 (0,0)),(m,Z0 tx (Hc i2.ts))]++i3.ob) (λi3 F=>True) (λi3=>(el q.2 i2.j).t.2.length-i3.k) (⟨0,(el p.2 i.i).t.2,c28.1,c28.2,au _,h28,by simp[Wa]⟩) wj wT QIM w8 λi3=>?_
   simp only[ab,ag];have hk:=i3.le;refine wA 6 I ?_;refine QR I (λhc=>?_) λhc=>?_
   ·obtain⟨k,L,v,ob,hk0,hr,hL⟩:=i3;dsimp only at hk hc ⊢;have hlt3:k<(el q.2 i2.j).t.2.length:=wk<|QJG hc
    have hka:k<(el p.2 i.i).t.2.length:=O;have hLn:L.length=(el p.2 i.i).t.2.length:=by rw[hL];unfold Wa;simp;omega
    have hb1:=(hpw.1 _ hta).el hka;have hb2:=(hpw.2.1 _ htb).el hlt3;obtain⟨b,cap,rest,rfl,rfl,e1,e2,e3,e4⟩:=Q9.pos hr O;have hdL:Qn L k=Qn (el p.2 i.i).t.2 k:=by rw[hL];exact IN hka hlt3
    refine QJL 7 I<|QA (Q3 (n:=(el q.2 i2.j).r.n) k (λF h9=>(h9.1.1.1.1.2.2.2.1 _ htb).2.1) rfl rfl JC JO O)<|QA (Q5 (n:=(el q.2 i2.j).r.n) (k*1) (λF h9=>(h9.1.1.1.1.2.2.2.1 _ htb).2.1) O rfl JO (J6 (o:=(el q.2 i2.j).t.2) O))<|QJK 7 I<|QA (JJ (i:=k) rfl rfl JC JO O)<|QA (Vl (c:=(L).map Jr++rest) (T':=3) rfl JO .u3 (V9 (by first | omega | (simp only[aZ];omega))))<|QH0 I<|QA (Qw I I O)<|QA (JJ (i:=k) rfl rfl JC JO O)<|QU (vs:=[_]) I I I JO I .u3 (DF (by first | omega | (simp only[aZ];omega)) ((Qn (L) (k)+Qn (el q.2 i2.j).t.2 k))) wS<|QE<|Qk<|QC ?_
    refine QB<|QA (Qw I I O)<|wB 2 I ?_
    exact Qm (⟨k+1,_,_,_,hlt3,Q9.some (by simpa using e1) (by simpa using e2) e3 e4,by rw[hL,IN hka hlt3];exact jK hka hlt3⟩) (by show(el q.2 i2.j).t.2.length-(k+1)<(el q.2 i2.j).t.2.length-k;omega) ⟨rfl,rfl,rfl,rfl,rfl,rfl,rfl,rfl,rfl,rfl,rfl,rfl,rfl,rfl,trivial⟩ QIM λF h=>⟨h.1,trivial⟩
   have hge3:i3.k=(el q.2 i2.j).t.2.length:=wk<|QJH hc
   have hLe:i3.L=Wa (el p.2 i.i).t.2 (el q.2 i2.j).t.2:=by
    have h1:=i3.hL;rw[hge3,aC]at h1;rw[h1,bT O,ax O,eU]
   have hLn:(Wa (el p.2 i.i).t.2 (el q.2 i2.j).t.2).length=(el p.2 i.i).r.n:=by rw[IM O];exact hra
   refine Qz ?_
   repeat first|refine QZ ?_|refine QQ wy ?_
   refine Qa<|QJM 3 I<|QA (QH I Wn QN)<|QA (wJ I QN .u1)<|QA (QH I Wn QN)<|QA (wJ I QN .here)<|QI I (λ_ _ f k=>W5 f ((k.1.1.1.1.2.1.2.1 _ hta).1) ((k.1.1.1.1.2.2.2.1 _ htb).1) O O) λx50=>QH0 I ?_
   obtain⟨r,hv,hrn,hrc,hfix⟩:=Q9.fix (w0:=w) (F0:=F) (bs1:=[(b9,.cells (V8 (el q.2 i2.j)).toArray 227 (0,0)),(b7,.cells (V8 (el p.2 i.i)).toArray 227 (0,0)),(m,Z0 tx (Hc i2.ts))]) (G:=_) i3.hr;refine YS hfix ?_;rw[hv];refine Ze (eN (l₁:=[_,_]) (l₂:=[]))<|XW I (aK _) (D4 (r:=r) (x:=x50) i2.hI (hpw.2.2 _ hta _ htb) (wk<|Yt (el p.2 i.i).t.1 (el q.2 i2.j).t.1) O λF h9=>⟨h9.1.1.1.1.1.1.1,h9.1.1.1.1.2,⟨h9.1.2.1,h9.1.2.2⟩,by rw[hrn,<-hLe];exact h9.2,by rw[hrn];exact hLn,by rw[hrn];exact hrc⟩) λn52=>JM _ (λ_ _ f h=>h.2.2) λh52=>Ze (bs':=[_,_,_]) (eN (l₁:=[_,_]) (l₂:=[])).symm<|QE<|Qk<|QC<|QB<|QA (Qw I I O)<|wB 2 I ?_
   exact Qm (⟨i2.j+1,addN i2.ts n52,hlt2,by rw[VC hlt2,DA,<-bQ];exact i2.hI.add (hpw.2.2 _ hta _ htb) h52⟩) (by show q.2.length-(i2.j+1)<q.2.length-i2.j;omega) we (.cons _ QIM) λF h=>⟨h.1.1.1.1.1.1,h.2.1⟩
  have hge2:i2.j=q.2.length:=wk<|QJH hc
  refine Qz ?_
  repeat first|refine QZ ?_|refine QQ wy ?_
  refine Qa<|Qk<|QC<|QB<|QA (Qw I I O)<|wB 2 I ?_
  exact Qm (⟨i.i+1,i2.ts,hlt,by rw[RF hlt];have:=i2.hI;rw[hge2,aC]at this;exact this⟩) (by show p.2.length-(i.i+1)<p.2.length-i.i;omega) wW (.cons _ QIM) λF h=>⟨h.1.1,h.2⟩
 have hge:i.i=p.2.length:=wk<|QJH hc
 refine Qz ?_
 repeat first|refine QZ ?_|refine QQ wy ?_
 refine Qa<|QJM 4 I ?_
 have hI:=i.hI;rw[hge,aC]at hI;refine XW I (aK _) (BY hI (by have h1:=hI.ln;rw[qH]at h1;simp only[J4,bz]at h1;have h2:=QBK hl.1 hl.2;omega) tB) (λc56=>wQ I<|QY ?_);exact QS (c56) rfl (wN I) (rfl) tB
def Ye(ts:List ZW):(J4 ts).length=ts.length:=by simp[J4]
def BO(v:Int):Int:=if decide (v<0)=true\/decide (v>24)=true then 3 else 0
def Bp(v:Int):BO v=0↔0<=v/\v<=24:=by unfold BO;simp only[decide_eq_true_eq];split<;>omega
def qz{v:Int}(h:¬v<0):BO v=if decide (v>24)=true then 3 else 0:=by unfold BO;simp[h]
def GB(l:List Int):Int:=(l.map λk=>if 13<k then 13 else k).sum
def Y6(f:List UInt8)(l:List Int)(v:Int):Int :=
 if(l.length:Int)≠v+1 then 2 else if l.any (λk=>decide (k<0))=true then 3 else Qu [if decide (GB l>12)=true then 4 else 0,Jk f]
def Ix(h:i<l.length):GB (l.take (i+1))=GB (l.take i)+(if 13<Qn l i then 13 else Qn l i):=by
 unfold GB;rw[XU h,aL,eT,Yr h];simp
theorem Mc(l:List Int)(h:∀k∈l,0<=k):0<=GB l/\GB l<=13*l.length:=by
 induction l with
 |nil=>simp[GB]
 |cons x l ih =>
  have h1:=ih λk hk=>h k (by simp[hk]);have h2:=h x wz;have e:GB (x::l)=(if 13<x then 13 else x)+GB l:=by unfold GB;rw[af,bR]
  rw[e,ar];split<;>omega
structure QFr(l:List Int) where
 i:Nat
 le:i<=l.length
 nn:∀k∈l.take i,0<=k
def j6(h:i<l.length)(hn:Qn l i<0):l.any (λk=>decide (k<0))=true:=by
 rw[eO];exact⟨el l i,Qv h,by rw[<-Yr h];exact decide_eq_true hn⟩
def uL(h:∀k∈l,0<=k):¬l.any (λk=>decide (k<0))=true:=by
 rw[eO];rintro⟨k,hk,e⟩;have:=QJG e;have:=h k hk;omega
theorem qy{v:Int}(hF:Fits F w):Qg prog 186 [.int .i64 v] w F (.int .i64 (BO v)):=by
 refine QV.intro (G:=λF=>True) func186 rfl wy rfl rfl hF w8<|QI7<|wQ rfl<|wR rfl<|QA (QT rfl rfl rfl)<|QH0 rfl ?_
 refine Ql (t:=5) rfl (λhb5=>?_) λhb5=>?_
 ·refine wB 3 I<|QI I (λ_ _ f _=>Pn f ) λ_=>wQ I<|QY ?_
  exact QJO I I (congrArg (aA .i64) (by unfold BO;simp_all)) w8
 refine wB 5 I<|QI I (λ_ _ f _=>Pn f ) λ_=>wQ I<|QY ?_
 exact QJO I I (congrArg (aA .i64) (qz (QJH hb5))) w8
theorem p5{f:List UInt8}{q:Option Addr}{v:Int}(hF:Fits F w)(hGl:JE F)(hR:XF F ⟨q,n,cap⟩ l)(hf:f.length<=1000000)(hl:l.length<=1000000)(hv : -1000000<=v/\v<=1000000):Qg prog 235 [.agg #[tx f,.slice q n cap],.int .i64 v] w F (.int .i64 (Y6 f l v)):=by
 have hln:l.length=n:=hR.2.1;refine QV.intro (G:=λF=>JE F/\XF F ⟨q,n,cap⟩ l) func235 rfl wy rfl rfl hF (λF' hF'=>⟨hGl.le hF',hR.le hF'⟩)<|QI7<|Qs rfl (vs:=[_,_]) rfl λb2=>wQ rfl<|QG<|QI7<|QA (QH rfl Gw Jz)<|QA (Qf rfl Jz .here (.skip .h1))<|QA (Qh rfl JC)<|QH0 rfl<|QA (Qw rfl rfl O)<|QA (QT rfl rfl rfl)<|QE<|QC ?_
 refine QR I (λhc=>?_) λhc=>?_
 ·have hne:=bne_iff_ne.1 hc;refine wA 6 I ?_;exact QJO I I (congrArg (aA .i64) (by unfold Y6;rw[if_pos (by rw[hln];exact hne)])) w8
 have heq:=bne_eq_false_iff_eq.1 hc;refine QJL 10 I<|QA (QH I Gw Jz)<|QA (Qf I Jz .here (.skip .h1))<|QA (Qh I JC)<|QJK 4 I<|XK (ι:=QFr l) [(2,_),(15,_),(16,_)] (λi=>[(5,.int .i64 (GB (l.take i.i))),(17,.int .i64 ((i.i:Nat):Int))]) (λi=>l.length-i.i) (⟨0,au _,wz⟩) wU wT λi=>?_
 simp only[ab,ag];have hi:=i.le;have hb:=Mc _ i.nn;rw[aQ]at hb;refine wA 6 I ?_;refine QR I (λhc=>?_) λhc=>?_
 ·have hlt:i.i<l.length:=wk<|QJG hc
  refine QJL 6 I<|QA (Q3 (n:=n) i.i (λF h9=>(h9.2).1) rfl rfl JC JO O)<|QA (Q5 (n:=n) ((i.i)*1) (λF h9=>(h9.2).1) O rfl JO (J6 (o:=l) O))<|QJK 10 I ?_
  refine QR I (λhc=>?_) λhc=>?_
  ·have hng:=QJG hc;refine wA 6 I ?_
   repeat first|refine Q6 ?_|refine Qy ?_
   exact QJO I I (congrArg (aA .i64) (by unfold Y6;rw[if_neg (by rw[hln];exact λh=>h heq),if_pos (j6 hlt hng)])) w8
  have hng:=QJH hc;refine QJL 5 I<|QA (vr I I)<|QA (Qw I I O)<|wB 2 I<|Qk<|QC<|QB<|QA (Qw I I O)<|wB 2 I ?_
  exact Qm (⟨i.i+1,hlt,by intro k hk;rw[XU hlt]at hk;rcases List.mem_append.1 hk with hk | hk;exact i.nn k hk;rw[List.mem_singleton.1 hk,<-Yr hlt];omega⟩) (by show l.length-(i.i+1)<l.length-i.i;omega) ⟨rfl,rfl,rfl,(congrArg (λz:Int=>some (aA .i64 z)) (Ix hlt).symm),rfl,trivial⟩ QIM w9
 have hge:i.i=l.length:=wk<|QJH hc
 refine Qz ?_
 repeat first|refine QZ ?_|refine QQ wy ?_
 refine Qa<|QC<|QG<|JH QIM mixed wm ?_
 rw[hge,aC];have hnn:=i.nn;rw[hge,aC]at hnn;refine QK (QD I)<|QK (QT I I I)<|QP I (λ_ _ f k=>Pn f ) λ_=>QK (QH I Rk JP)<|QK (Qf I JP .here .h1)<|QP I (λ_ _ f k=>Ek f k.1.1 (hf)) λ_=>?_
 refine Qp I (Q4 ZJ) YV Hz I I (λb34=>?_) (λw h=>h.imp tC λF h=>h.1.1);refine QP I (λ_ _ g k=>CR g (Qx.of (cs:=fp Jr [if decide (GB l>12)=true then 4 else 0,Jk f]) k.2 I) wu) (λ_=>QK (QF I)<|Q7<|QC<|QY ?_);exact QJO I I (congrArg (aA .i64) (by unfold Y6;rw[if_neg (by rw[hln];exact λh=>h heq),if_neg (uL hnn)])) w8
theorem Rf{a b:Int}(h:Qu [a,b]=0):a=0/\b=0:=by
 unfold Qu at h;by_cases g:a=0
 ·rw[if_pos g]at h;unfold Qu at h;by_cases k:b=0
  ·exact⟨g,k⟩
  rw[if_neg k]at h;exact⟨g,h⟩
 rw[if_neg g]at h;exact absurd h g
def GA(p:Pt)(v:Int)(i:Nat):Int :=
 let e:=Qu [Y6 (el p i).1 (el p i).2 v,if((el p i).1==[48])=true then 6 else 0]
 if e=0/\0<i/\0<=Gd (el p (i-1)).2 (el p i).2 then 11 else e
def Za(p:Pt)(v:Int):Int:=if decide ((p.length:Int)>64)=true then 5 else Qu ((ai p.length).map (GA p v))
def ZD(h:i<n):el (ai n) i=i:=by rw[JW (by simpa using h)];simp
def IK{ts:List E6}(h:i<ts.length):el (YG ts) i=((el ts i).f,(el ts i).k):=by rw[JW (by simpa[YG]using h),JW h];simp[YG]
theorem OL(h:∀k∈l,0<=k)(hc:GB l<=12):∀k∈l,k<=12:=by
 induction l with
 |nil=>intro k hk;cases hk
 |cons x l ih =>
  have hl:∀k∈l,0<=k:=λk hk=>h k (by simp[hk]);have h1:=(Mc l hl).1;have h2:=h x wz;have e:GB (x::l)=(if 13<x then 13 else x)+GB l:=by unfold GB;rw[af,bR]
  rw[e]at hc;intro k hk;rcases List.mem_cons.1 hk with rfl | hk
  ·split at hc<;>omega
  refine ih hl ?_ k hk;split at hc<;>omega
theorem Wi{f:List UInt8}{v:Int}(h:Y6 f l v=0):(l.length:Int)=v+1/\(∀k∈l,0<=k/\k<=12)/\GB l<=12/\Jk f=0:=by
 unfold Y6 at h;split at h
 ·omega
 rename_i h1;split at h
 ·omega
 rename_i h2;have hn:∀k∈l,0<=k:=λk hk=>by
  rcases fk k 0 with g | g
  ·exact absurd (List.any_eq_true.2 ⟨k,hk,decide_eq_true g⟩) h2
  exact g
 obtain⟨g1,g2⟩:=Rf h;have hc:GB l<=12:=by
  rcases fk 12 (GB l)with g | g
  ·rw[if_pos (decide_eq_true g)]at g1;omega
  exact g
 exact⟨O,λk hk=>⟨hn k hk,OL hn hc k hk⟩,hc,g2⟩
theorem W3{f:List UInt8}{v:Int}(h:Y6 f l v=0)(hv:v<=24):PW l:=by
 obtain⟨h1,h2,_⟩:=Wi h;exact⟨λk hk=>wk<|h2 k hk,O⟩
theorem Pb{p:Pt}{v:Int}(h:GA p v i=0):Y6 (el p i).1 (el p i).2 v=0/\(el p i).1≠[48]/\(0<i->Gd (el p (i-1)).2 (el p i).2<0):=by
 unfold GA at h;dsimp only at h;by_cases g:Qu [Y6 (el p i).1 (el p i).2 v,if((el p i).1==[48])=true then 6 else 0]=0/\0<i/\0<=Gd (el p (i-1)).2 (el p i).2
 ·rw[if_pos g]at h;omega
 rw[if_neg g]at h;obtain⟨h1,h2'⟩:=Rf h;have h2:(el p i).1≠[48]:=by
  intro q;rw[if_pos (by rw[q];rfl)]at h2';omega
 refine⟨h1,h2,λhi=>?_⟩;rcases fk (Gd (el p (i-1)).2 (el p i).2) 0 with q | q
 ·exact q
 exact absurd ⟨h,hi,q⟩ g
structure jr(p:Pt)(v:Int)(n:Nat) where
 i:Nat
 le:i<=n
 z:∀j,j<i->GA p v j=0
def jr.scan{p:Pt}{v:Int}{n:Nat}(s:jr p v n):ZO (ai n) (GA p v):=⟨s.i,by rw[eH];exact s.le,by
 have key:∀i,i<=n->(∀j,j<i->GA p v j=0)->Qu ((ai n).map (GA p v))=Qu (((ai n).map (GA p v)).drop i):=by
  intro i
  induction i with
  |zero=>intro _ _;rfl
  |succ i ih =>
   intro hi hz;rw[ih O (λj hj=>hz j O),Wm w6 (by simp;exact hz i O)]
 exact key s.i s.le s.z⟩
def DP{p:Pt}{v x:Int}{n:Nat}(hn:p.length=n)(hp:¬(n:Int)>64)(s:jr p v n)(h:s.i<n)(hs:GA p v s.i=x)(hx:x≠0):Za p v=x:=by
 unfold Za;rw[hn,if_neg (by rw[decide_eq_true_eq];exact hp),s.scan.hit (by rw[eH];exact h) (by rw[show s.scan.i=s.i from rfl,ZD h,hs];exact hx),show s.scan.i=s.i from rfl,ZD h,hs]
def Oj{p:Pt}{v:Int}{n:Nat}(hn:p.length=n)(hp:¬(n:Int)>64)(s:jr p v n)(h:n<=s.i):Za p v=0:=by
 unfold Za;rw[hn,if_neg (by rw[decide_eq_true_eq];exact hp),s.scan.stop (by rw[eH];exact h)]
def step_eq{v E:Int}(h:i<ps.length)(hE:Qu [Y6 (el ps i).f (el ps i).k v,if((el ps i).f==[48])=true then 6 else 0]=E):GA (YG ps) v i=if E=0/\0<i/\0<=Gd (el ps (i-1)).k (el ps i).k then 11 else E:=by
 unfold GA;rw[IK h,IK (show i-1<ps.length by omega)];dsimp only;rw[hE]
theorem y8{q:Option Addr}{v:Int}(hF:Fits F w)(hGl:JE F)(hR:Qx F q n 2 (ps.flatMap DM))(hP:VT F ps)(hln:ps.length=n)(hf:∀t∈ps,t.f.length<=1000000/\t.k.length<=1000000)(hl:ps.length<=1000000)(hv:0<=v/\v<=24):Qg prog 187 [.slice q n cap,.int .i64 v] w F (.int .i64 (Za (YG ps) v)):=by
 have hal:(YG ps).length=n:=by unfold YG;rw[bz];exact hln
 refine QV.intro (G:=λF=>JE F/\Qx F q n 2 (ps.flatMap DM)/\VT F ps) func187 rfl wy rfl rfl hF (λF' hF'=>⟨hGl.le hF',hR.le hF',hP.le hF'⟩)<|QI7<|wQ rfl<|QG<|wR rfl<|QA (Qh rfl Kz)<|QA (QT rfl rfl rfl)<|QE<|QC ?_
 refine QR I (λhc=>?_) λhc=>?_
 ·have hbig:=hc;refine wA 6 I ?_;exact QJO I I (congrArg (aA .i64) (by unfold Za;rw[hal,if_pos hbig])) w8
 have hbig:=QJH hc;refine QJL 6 I<|QA (Qh I Kz)<|QJK 4 I<|XK (ι:=jr (YG ps) v n) [(0,_),(1,_),(11,_),(12,_)] (λi=>[(13,.int .i64 ((i.i:Nat):Int))]) (λi=>n-i.i) (⟨0,au _,λj hj=>absurd hj (fZ _)⟩) wV wS λi=>?_
 simp only[ab,ag];have hi:=i.le;refine wA 6 I ?_;refine QR I (λhc=>?_) λhc=>?_
 ·have hlt:i.i<n:=wk<|QJG hc
  have htm:el ps i.i∈ps:=Qv O;refine QJL 7 I<|QA (Q3 (n:=n) i.i (λF h9=>h9.2.1) rfl rfl Kz VA O)<|QA (JK (n:=n) (vs:=[tx (el ps i.i).f,.slice (el ps i.i).r.q (el ps i.i).r.n (el ps i.i).r.cap]) ((i.i)*2) (λF h9=>h9.2.1) O rfl VA I λj v hv=>JQ (f:=DM) (l:=ps) Wt O hv)<|Qc Dv λb6=>QH1 I<|QU (vs:=[_,_]) I I I VA I .here .h2 wT<|QHz<|QG<|JH QIM mixed wm<|QK (wH I VA .here)<|QK (QD I)<|QP I (λ_ _ g h=>p5 g (h.1) (f:=(el ps i.i).f) (l:=(el ps i.i).k) (h.2.2 _ htm) ((hf _ htm).1) ((hf _ htm).2) O) λ_=>QK (QH I Rk JP)<|QK (Qf I JP .here .h1)<|QK (K6 I I)<|QP I (λ_ _ f k=>Pn f ) λ_=>?_
  refine Qp I (Q4 ZJ) YV Hz I I (λb25=>?_) (λw h=>h.imp tC λF h=>h.1.1);refine QP I (λ_ _ g h=>CR g (Qx.of (cs:=fp Jr [Y6 (el ps i.i).f (el ps i.i).k v,if((el ps i.i).f==[48])=true then 6 else 0]) h.2 I) wu) (λ_=>QK (QF I)<|Q7<|QJM 3 I<|JH QIM mixed wm ?_);generalize hE:Qu [Y6 (el ps i.i).f (el ps i.i).k v,if((el ps i.i).f==[48])=true then 6 else 0]=E;have hst:=step_eq (v:=v) (show i.i<ps.length by omega) hE;refine QK (QD I)<|QK (QT I I I)<|QK (QD I) ?_
  refine BV (t:=29) rfl (λhb29=>?_) λhb29=>?_
  ·refine J1 I I<|QK (QD I)<|J1 I I<|QK (QT I I I)<|QK (Qe I I I)<|QK (QD I) ?_
   refine BV (t:=33) rfl (λhb33=>?_) λhb33=>?_
   ·refine J1 I I<|QK (QD I)<|J1 I I<|QK (QD I)<|J1 I I<|QK (X3 I I O)<|J1 I I ?_
    have hi0:0<i.i:=wk<|QJG hb33
    refine QK (Q3 (n:=n) ((i.i-1)) (λF h9=>h9.1.1.1.1.2.1) rfl wM Kz VA O)<|J1 I I<|QK (QH I Gw Jz)<|J1 I I<|QK (Q5 (n:=n) (((i.i-1))*2+1) (λF h9=>h9.1.1.1.1.2.1) O rfl Jz (JQ (f:=DM) (l:=ps) Wt O rfl))<|J1 I I<|QK (QH I Gw Jz)<|J1 I I<|QK (Qf I Jz .here (.skip .h1))<|J1 I I ?_
    have hz0:=(Pb (i.z (i.i-1) O)).1;rw[IK (show i.i-1<ps.length by omega)]at hz0;have hE0:E=0:=eq_of_beq hb29;obtain⟨hz1,_⟩:=Rf (hE.trans hE0);have htm0:el ps (i.i-1)∈ps:=Qv O;refine QP I (λ_ _ f k=>RJ f (ra:=(el ps (i.i-1)).r) (rb:=(el ps i.i).r) (k.1.1.1.1.2.2 _ htm0) (k.1.1.1.1.2.2 _ htm) (W3 hz0 hv.2) (W3 hz1 hv.2)) (λ_=>J1 I I<|QK (QT I I I)<|QK (Qe I I I)<|Q7<|QC ?_);refine QR I (λhc=>?_) λhc=>?_
    ·have h44:=QJG hc;refine QJL 10 I ?_;refine QR I (λhc=>?_) λhc=>?_
     ·refine wA 7 I ?_
      repeat first|refine Q6 ?_|refine Qy ?_
      exact QJO I I (congrArg (aA .i64) (DP hal hbig i hlt (by first | (rw[hst];exact if_pos ⟨eq_of_beq hb29,wk<|QJG hb33,h44⟩) | (rw[hst];exact if_neg λh=>h44 h.2.2) | (rw[hst];exact if_neg λh=>wk<|QJH hb33) | (rw[hst];exact if_neg λh=>by rw[h.1]at hb29;cases hb29)) (bne_iff_ne.1 hc))) w8
     refine QO<|Qk<|QC<|QB<|QA (Qw I I O)<|wB 2 I ?_
     exact Qm (⟨i.i+1,hlt,λj hj=>by
      rcases bG j i.i with g | g
      ·exact i.z j g
      rw[show j=i.i from by omega];first | exact absurd hc wu | (rw[hst,if_neg (λh=>h44 h.2.2)];exact bne_eq_false_iff_eq.1 hc) | (rw[hst,if_neg (λh=>wk<|QJH hb33)];exact bne_eq_false_iff_eq.1 hc) | (rw[hst,if_neg (λh=>by rw[h.1]at hb29;cases hb29)];exact bne_eq_false_iff_eq.1 hc)⟩) (by show n-(i.i+1)<n-i.i;omega) wW (.cons _ .slnil) λF h=>h.1.1.1.1.1
    have h44:=QJH hc;refine QJL 8 I ?_;refine QR I (λhc=>?_) λhc=>?_
    ·refine wA 7 I ?_
     repeat first|refine Q6 ?_|refine Qy ?_
     exact QJO I I (congrArg (aA .i64) (DP hal hbig i hlt (by first | (rw[hst];exact if_pos ⟨eq_of_beq hb29,wk<|QJG hb33,h44⟩) | (rw[hst];exact if_neg λh=>h44 h.2.2) | (rw[hst];exact if_neg λh=>wk<|QJH hb33) | (rw[hst];exact if_neg λh=>by rw[h.1]at hb29;cases hb29)) (bne_iff_ne.1 hc))) w8
    refine QO<|Qk<|QC<|QB<|QA (Qw I I O)<|wB 2 I ?_
    exact Qm (⟨i.i+1,hlt,λj hj=>by
     rcases bG j i.i with g | g
     ·exact i.z j g
     rw[show j=i.i from by omega];first | exact absurd hc wu | (rw[hst,if_neg (λh=>h44 h.2.2)];exact bne_eq_false_iff_eq.1 hc) | (rw[hst,if_neg (λh=>wk<|QJH hb33)];exact bne_eq_false_iff_eq.1 hc) | (rw[hst,if_neg (λh=>by rw[h.1]at hb29;cases hb29)];exact bne_eq_false_iff_eq.1 hc)⟩) (by show n-(i.i+1)<n-i.i;omega) wW (.cons _ .slnil) λF h=>h.1.1.1.1.1
   refine Jw I I I<|Jw I I I<|Jw I I I<|Jw I I I<|Jw I I I<|Jw I I I<|Jw I I I<|Jw I I I<|Jw I I I<|Jw I I I<|QK (Qd I I I)<|Q7<|QC<|Yv I<|QJL 8 I ?_
   refine QR I (λhc=>?_) λhc=>?_
   ·refine wA 7 I ?_
    repeat first|refine Q6 ?_|refine Qy ?_
    exact QJO I I (congrArg (aA .i64) (DP hal hbig i hlt (by first | (rw[hst];exact if_pos ⟨eq_of_beq hb29,wk<|QJG hb33,h44⟩) | (rw[hst];exact if_neg λh=>h44 h.2.2) | (rw[hst];exact if_neg λh=>wk<|QJH hb33) | (rw[hst];exact if_neg λh=>by rw[h.1]at hb29;cases hb29)) (bne_iff_ne.1 hc))) w8
   refine QO<|Qk<|QC<|QB<|QA (Qw I I O)<|wB 2 I ?_
   exact Qm (⟨i.i+1,hlt,λj hj=>by
     rcases bG j i.i with g | g
     ·exact i.z j g
     rw[show j=i.i from by omega];first | exact absurd hc wu | (rw[hst,if_neg (λh=>h44 h.2.2)];exact bne_eq_false_iff_eq.1 hc) | (rw[hst,if_neg (λh=>wk<|QJH hb33)];exact bne_eq_false_iff_eq.1 hc) | (rw[hst,if_neg (λh=>by rw[h.1]at hb29;cases hb29)];exact bne_eq_false_iff_eq.1 hc)⟩) (by show n-(i.i+1)<n-i.i;omega) wW (.cons _ .slnil) λF h=>h.1.1.1.1
  refine Jw I I I<|Jw I I I<|QK (Qd I I I)<|QK (QD I)<|Jw I I I<|Jw I I I<|Jw I I I<|Jw I I I<|Jw I I I<|Jw I I I<|Jw I I I<|Jw I I I<|Jw I I I<|Jw I I I<|QK (Qd I I I)<|Q7<|QC<|Yv I<|QJL 7 I ?_
  refine QC ?_;refine QR I (λhc=>?_) λhc=>?_
  ·refine wA 7 I ?_
   repeat first|refine Q6 ?_|refine Qy ?_
   exact QJO I I (congrArg (aA .i64) (DP hal hbig i hlt (by first | (rw[hst];exact if_pos ⟨eq_of_beq hb29,wk<|QJG hb33,h44⟩) | (rw[hst];exact if_neg λh=>h44 h.2.2) | (rw[hst];exact if_neg λh=>wk<|QJH hb33) | (rw[hst];exact if_neg λh=>by rw[h.1]at hb29;cases hb29)) (bne_iff_ne.1 hc))) w8
  refine QO<|Qk<|QC<|QB<|QA (Qw I I O)<|wB 2 I ?_
  exact Qm (⟨i.i+1,hlt,λj hj=>by
     rcases bG j i.i with g | g
     ·exact i.z j g
     rw[show j=i.i from by omega];first | exact absurd hc wu | (rw[hst,if_neg (λh=>h44 h.2.2)];exact bne_eq_false_iff_eq.1 hc) | (rw[hst,if_neg (λh=>wk<|QJH hb33)];exact bne_eq_false_iff_eq.1 hc) | (rw[hst,if_neg (λh=>by rw[h.1]at hb29;cases hb29)];exact bne_eq_false_iff_eq.1 hc)⟩) (by show n-(i.i+1)<n-i.i;omega) wW (.cons _ .slnil) λF h=>h.1.1.1.1
 have hge:n<=i.i:=wk<|QJH hc
 refine Qz ?_
 repeat first|refine QZ ?_|refine QQ wy ?_
 refine Qa<|QJM 7 I ?_
 exact QJO I I (congrArg (aA .i64) (Oj hal hbig i hge)) w8
def HZ(p:Pt)(v:Int):Int:=if BO v=0 then Za p v else BO v
theorem Gy{q:Option Addr}{v:Int}(hF:Fits F w)(hGl:JE F)(hR:Qx F q n 2 (ps.flatMap DM))(hP:VT F ps)(hln:ps.length=n)(hf:∀t∈ps,t.f.length<=1000000/\t.k.length<=1000000)(hl:ps.length<=1000000):Qg prog 113 [.slice q n cap,.int .i64 v] w F (.int .i64 (HZ (YG ps) v)):=by
 refine QV.intro (G:=λF=>JE F/\Qx F q n 2 (ps.flatMap DM)/\VT F ps) func113 rfl wy rfl rfl hF (λF' hF'=>⟨hGl.le hF',hR.le hF',hP.le hF'⟩)<|QI7<|wQ rfl<|QG<|wR rfl<|QI rfl (λ_ _ f k=>qy f ) λ_=>wQ rfl<|wR rfl<|QA (QT rfl rfl rfl)<|QE<|QC ?_
 refine QR I (λhc=>?_) λhc=>?_
 ·have hc0:=bne_iff_ne.1 hc;refine wA 7 I ?_;exact QJO I I (congrArg (aA .i64) (by unfold HZ;rw[if_neg hc0])) w8
 have hc0:=bne_eq_false_iff_eq.1 hc;have hv:=(Bp v).1 hc0;refine QJL 6 I<|QI I (λ_ _ f k=>y8 f (k.1.1) (k.1.2.1) (k.1.2.2) (hln) (hf) (hl) (hv)) λ_=>wQ I<|QY ?_
 exact QJO I I (congrArg (aA .i64) (by unfold HZ;rw[if_pos hc0])) w8
instance :Inhabited SD:=⟨(⟨none,0,0⟩,[])⟩
section
variable[Dr][df:Df]{P:Program}{N:Nat}{m:Sl}{S:World->Prop}{ty:TypeId}
theorem K5{cap:Array Operand}{vs:List Value}(hv:E3 m cap.toList=some vs):Qt P N m S (.makeFunc (.func g) #[] cap) ty (.func (.func g) #[] vs.toArray):=λa w _ _ _ _ ha _=>by
 have:=ha.E3 hv;have e:cap.map a.eval=vs.toArray:=by rw[<-this];apply fF;simp
 simp[execOp,Instr.makeFunc,e]
end
def Ii(F:Gs)(ls:List SD):Prop:=∀e∈ls,Qx F e.1.q e.1.n 2 (e.2.flatMap DM)/\VT F e.2
def Ii.le{ls:List SD}(h:Ii F ls)(k:Gs.le F F'):Ii F' ls:=λe he=>⟨(h e he).1.le k,(h e he).2.le k⟩
def Uq(e:SD):Prop:=e.2.length=e.1.n/\(∀t∈e.2,t.f.length<=1000000/\t.k.length<=1000000)/\e.2.length<=1000000
def X9(p:Pt):List Tm:=p.map λx=>(Qo x.1,x.2)
def AQ(ts:List E6):ts.map vZ=X9 (YG ts):=by simp[X9,YG,vZ]
theorem QAl{l:List Tm}(h:∀t∈l,JU t.1<=k):KD l<=l.length*(k+1):=by
 induction l with
 |nil=>simp[KD]
 |cons x l ih =>
  have e:KD (x::l)=JU x.1+1+KD l:=by unfold KD;rw[af,bR]
  have h1:=ih λt ht=>h t (by simp[ht]);have h2:=h x wz;rw[e,ar,fB];omega
def Sb{a b:List Int}(h:Gd a b<0):before a b=true:=by rw[Br];exact decide_eq_true h
theorem GK[Inhabited α]{R:α->α->Prop}(ht:∀a b c,R a b->R b c->R a c):∀(l:List α),(∀i,0<i->i<l.length->R (el l (i-1)) (el l i))->l.Pairwise R
 |[],_=>bY
 |x::l,h=>by
  have ih:=GK ht l λi h0 hi=>by
   have:=h (i+1) O w6;have e1:el (x::l) (i+1)=el l i:=rfl;have e2:el (x::l) (i+1-1)=el l (i-1):=by
    obtain⟨j,rfl⟩:∃j,i=j+1:=⟨i-1,O⟩;rfl
   rw[e1,e2]at this;exact this
  refine List.pairwise_cons.2 ⟨?_,ih⟩;cases l with
  |nil=>intro y hy;cases hy
  |cons z l =>
   have hz:R x z:=h 1 O wz;intro y hy;rcases List.mem_cons.1 hy with rfl | hy
   ·exact hz
   exact ht _ _ _ hz ((List.pairwise_cons.1 ih).1 y hy)
structure Dk(p:Pt)(v:Int):Prop where
 len:p.length<=64
 term:∀x∈p,Y6 x.1 x.2 v=0
 can:Canon (X9 p)
theorem H9{p:Pt}{v:Int}(h:Za p v=0):Dk p v:=by
 unfold Za at h;split at h
 ·omega
 rename_i hl;have hl':p.length<=64:=by rw[decide_eq_true_eq]at hl;omega
 have hz:∀i,i<p.length->GA p v i=0:=by
  have key:∀(l:List Int),Qu l=0->∀x∈l,x=0:=by
   intro l
   induction l with
   |nil=>intro _ x hx;cases hx
   |cons a l ih =>
    intro h x hx;unfold Qu at h;by_cases g:a=0
    ·rw[if_pos g]at h;rcases List.mem_cons.1 hx with rfl | hx
     ·exact g
     exact ih h x hx
    rw[if_neg g]at h;exact absurd h g
  intro i hi;exact key _ h _ (List.mem_map.2 ⟨i,by simpa using hi,rfl⟩)
 have hs:=λi hi=>Pb (hz i hi);have hel:∀x∈p,∃i,i<p.length/\el p i=x:=λx hx=>by
  obtain⟨i,hi,e⟩:=fD hx;exact⟨i,hi,by rw[JW hi];exact e⟩
 refine⟨hl',λx hx=>?_,⟨?_,λt ht=>?_⟩⟩
 ·obtain⟨i,hi,rfl⟩:=hel x hx;exact(hs i hi).1
 ·unfold X9;rw[eF];refine GK (R:=λa b:List UInt8×List Int=>before a.2 b.2=true) (λa b c h k=>before_trans h k) p λi h0 hi=>?_;exact Sb ((hs i hi).2.2 h0)
 unfold X9 at ht;obtain⟨x,hx,rfl⟩:=List.mem_map.1 ht;obtain⟨i,hi,rfl⟩:=hel x hx;have h1:=(Wi (hs i hi).1).2.2.2;have h2:=(hs i hi).2.1;intro e;have h3:=(XH h1).1;have e':Qo (el p i).1=0:=e;rw[e']at h3;exact h2 (h3.trans Ak)
theorem Dk.sz{p:Pt}{v:Int}(h:Dk p v):∀t∈X9 p,JU t.1<=2400:=λt ht=>by
 unfold X9 at ht;obtain⟨x,hx,rfl⟩:=List.mem_map.1 ht;exact Yf (Wi (h.term x hx)).2.2.2
def Dk.KD{p:Pt}{v:Int}(h:Dk p v):YtbpmnjieoncbcaaGreatDoor.KD (X9 p)<=160000:=by
 have h1:=QAl h.sz;have h2:(X9 p).length<=64:=by unfold X9;rw[bz];exact h.len
 have:=fA 2401 h2;omega
theorem Nr{a:SD}{v:Int}(hF:Fits F w)(hGl:JE F)(hR:Qx F a.1.q a.1.n 2 (a.2.flatMap DM))(hP:VT F a.2)(ht:Uq a)(ho:Dk (YG a.2) v)(hv:0<=v/\v<=24):
  QV prog 115 [a.1.v] w F (λ(c:WA)=>c.1.v) (λc F=>XR F c.1 c.2 (X9 (YG a.2))):=by
 have hs:=ho.KD;have h:=dK hF hGl (r:=a.1) (ps:=a.2) hR hP ht.1 (by have:=ho.len;simp[YG]at this;omega) (λt htm=>?_) (by rw[AQ];omega)
 ·rw[AQ,RP ho.can]at h;exact h
 have h1:=ho.term (t.f,t.k) (List.mem_map.2 ⟨t,htm,rfl⟩);exact⟨(Wi h1).2.2.2,(ht.2.1 t htm).1,W3 h1 hv.2⟩
def XR.len{s:Sr}{ts:List ZW}{p:List Tm}(h:XR F s ts p):ts.length=p.length:=by rw[<-h.2.2.1];simp[J4]
def Od{ts:List ZW}{p:List Tm}{Q:Tm->Prop}(h:J4 ts=p)(hq:∀t∈p,Q t):∀t∈ts,Q t.t:=λt ht=>hq _ (h ▸ aa ht)
def qt(v:Nat)(t:Tm):List Tm:=if 0<Qn t.2 v then[(t.1*((Qn t.2 v:Int):Rat),t.2.set v (Qn t.2 v-1))]else[]
def Yz(v:Nat)(l:List Tm):List Tm:=l.flatMap (qt v)
structure QHK(v:Nat)(ps:List ZW) where
 i:Nat
 ts:List ZW
 le:i<=ps.length
 hI:V3 ts (Yz v (J4 (ps.take i)))
def TW{v:Nat}{ps:List ZW}(h:i<ps.length):Yz v (J4 (ps.take (i+1)))=Yz v (J4 (ps.take i))++qt v (el ps i).t:=by
 rw[VC h];unfold Yz;rw[aW];simp
def uB(v:Nat)(ps:List ZW)(i:Nat):KD (Yz v (J4 (ps.take i)))<=KD (Yz v (J4 ps)):=by
 have e:J4 ps=J4 (ps.take i)++J4 (ps.drop i):=by unfold J4;rw[<-aL,aR]
 have h:KD (Yz v (J4 ps))=KD (Yz v (J4 (ps.take i)++J4 (ps.drop i))):=by rw[<-e]
 unfold Yz at h ⊢;rw[aW,Zb]at h;omega
theorem PW.set(h:PW l){v:Nat}(hk:0<Qn l v):PW (l.set v (Qn l v-1)):=by
 refine⟨λx hx=>?_,by rw[aZ];exact h.2⟩;rcases List.mem_or_eq_of_mem_set hx with hx | rfl
 ·exact h.1 x hx
 by_cases hv:v<l.length
 ·have:=h.el hv;omega
 have:Qn l v=0:=by simp[Qn,List.getD];intro h;exact absurd h hv
 omega
theorem Og{x:Int}(h:0<=x/\x<=1000000):sz x<=64:=aT (KX (b:=1000000) O) wu
def kH(v:Nat)(l:List Tm):(Yz v l).length<=l.length:=by
 unfold Yz
 induction l with
 |nil=>simp
 |cons t l ih =>
  rw[bD,aj,ar];have:(qt v t).length<=1:=by unfold qt;split<;>simp
  omega
theorem Lk{p:WA}{v:Nat}(hF:Fits F w)(hGl:JE F)(hP:XR F p.1 p.2 (J4 p.2))(hp:∀t∈p.2,PW t.t.2/\v<t.t.2.length)(hl:p.2.length<=100000)(hzt:∀t∈p.2,JU t.t.1<=20000000)(hz:KD (Yz v (J4 p.2))<=40000000):
  QV prog 111 [p.1.v,.int .i64 (v:Nat)] w F (λ(c:WA)=>c.1.v) (λc F=>XR F c.1 c.2 (Xv (Yz v (J4 p.2)))):=by
 have hpn:=hP.2.2.2.2;dsimp only[Sr.v];refine QV.intro (G:=λF=>JE F/\XR F p.1 p.2 (J4 p.2)) func111 rfl wy rfl rfl hF (λF' hF'=>⟨hGl.le hF',hP.le hF'⟩)<|QI7<|wQ rfl<|QG<|QB ?_
 refine G6 tx (λm=>?_);refine QJK 7 I<|QA (Qh I Yp)<|QJK 4 I ?_
 refine JV (ι:=QHK v p.2) [(1,_),(5,_),(11,_),(12,_)] (λi=>[(13,.int .i64 ((i.i:Nat):Int))]) (λi=>[(m,Z0 tx (Hc i.ts))]) (λi F=>W8 F i.ts) (λi=>p.2.length-i.i) (⟨0,[],au _,V3.nil⟩) wV wS QIM (λ_ _ _ h=>by cases h) (λi=>?_);simp only[ab,ag];have hi:=i.le;refine wA 6 I ?_;refine QR I (λhc=>?_) λhc=>?_
 ·have hlt:i.i<p.2.length:=wk<|QJG hc
  have htm:=Qv hlt;have hp1:=hp _ htm;have hra:=(hP.2.1 _ htm).2.2.1;have hdl:=uB v p.2 i.i;have hzz:=hzt _ htm;have hb1:=hp1.1.el hp1.2;have hl2:=hp1.1.2;refine QJL 6 I<|QA (Q3 (n:=p.1.n) i.i (λF h9=>(h9.1.2).1) rfl rfl Yp Xu O)<|QA (JK (n:=p.1.n) (vs:=[.int .i64 (el p.2 i.i).x.n.s,.slice (el p.2 i.i).x.n.q (el p.2 i.i).x.n.n (el p.2 i.i).x.n.cap,.int .i64 (el p.2 i.i).x.d.s,.slice (el p.2 i.i).x.d.q (el p.2 i.i).x.d.n (el p.2 i.i).x.d.cap,.slice (el p.2 i.i).r.q (el p.2 i.i).r.n (el p.2 i.i).r.cap]) ((i.i)*5) (λF h9=>(h9.1.2).1) O rfl Xu I λj v hv=>JQ (f:=V8) (l:=p.2) Bf O hv) ?_
  refine Qc GD (λb7=>?_);refine QU (vs:=[_,_,_,_,_]) I I I Xu I .here .h5 wW<|QHz<|QI7<|QA (QH I Vp Jz)<|QA (Qf I Jz .here (.skip (.skip (.skip (.skip .h1)))))<|QH0 I<|QA (Q3 (n:=(el p.2 i.i).r.n) (v) (λF h9=>((h9.1.2.2.1 _ htm).2).1) rfl rfl JC JO O)<|QA (Q5 (n:=(el p.2 i.i).r.n) ((v)*1) (λF h9=>((h9.1.2.2.1 _ htm).2).1) O rfl JO (J6 (o:=(el p.2 i.i).t.2) O))<|QJK 9 I ?_
  refine QR I (λhc=>?_) λhc=>?_
  ·have hkp:=QJG hc;refine QI7<|QA (QH I Vp Jz)<|QA (Qf I Jz .here (.skip (.skip (.skip (.skip .h1))))) ?_
   refine XW I (aK _) (Um (r:=(el p.2 i.i).r) (l:=(el p.2 i.i).t.2) (λF h9=>(h9.1.2.2.1 _ htm).2) hra O) (λc26=>?_);refine JM _ (λ_ _ f h=>h.2) (λh26=>?_);obtain⟨v26,ob26⟩:=c26;dsimp only at h26 ⊢;obtain⟨bb,cap,rest,rfl,rfl,e1,e2,e3,e4⟩:=Q9.pos h26 O;refine QJK 7 I<|QA (JJ (i:=v) rfl rfl JC JO O)<|QA (Vl (c:=((el p.2 i.i).t.2).map Jr++rest) (T':=3) rfl JO .u2 (V9 (by first | omega | (simp only[aZ];omega))))<|QA (X3 I I O)<|QA (JJ (i:=v) rfl rfl JC JO O)<|QU (vs:=[_]) I I I JO I .u2 (DF (by first | omega | (simp only[aZ];omega)) ((Qn ((el p.2 i.i).t.2) (v)-1))) wS<|QE<|QC ?_
   obtain⟨r,hv,hrn,hrc,hfix⟩:=Q9.fix (w0:=w) (F0:=F) (bs1:=[(b7,.cells (V8 (el p.2 i.i)).toArray 227 (0,0)),(m,Z0 tx (Hc i.ts))]) (G:=_) (Q9.some (T:=3) (sz:=1) (b:=bb) (n:=(el p.2 i.i).r.n) (cap:=cap) (l:=((el p.2 i.i).t.2.set v (Qn (el p.2 i.i).t.2 v-1)).map Jr) (rest:=rest) (by simpa using e1) (by simpa using e2) e3 e4);refine jc hfix ?_;rw[hv];refine JH (.cons_cons _ (.cons _ .slnil)) mixed wm<|QK (QD I)<|QK (QH I Wn QN)<|QK (wJ I QN .here)<|QK (QD I) ?_
   refine QP I (λ_ _ f k=>TO f O O) (λx37=>?_);refine QP I (λw F hF ⟨⟨⟨⟨⟨hGl,hP⟩,hT⟩,_⟩,hrow⟩,⟨h37,h37_⟩⟩=>W5 hF ((hP.2.1 _ htm).1) ⟨by assumption,by assumption⟩ O (by have h2:=Gh (Qn (el p.2 i.i).t.2 v);have h3:sz (Qn (el p.2 i.i).t.2 v)<=64:=Og hb1;omega)) (λx38=>?_);refine QK (QD I) ?_;refine Ic I (eM _ _ _) (D4 (r:=r) (x:=x38) i.hI (hp1.1.set hkp) (by have h1:=Yt (el p.2 i.i).t.1 ((Qn (el p.2 i.i).t.2 v:Int):Rat);have h2:=Gh (Qn (el p.2 i.i).t.2 v);have h3:sz (Qn (el p.2 i.i).t.2 v)<=64:=Og hb1;omega) O λF h9=>⟨h9.1.1.1.1.1.1,h9.1.1.1.1.2,⟨h9.2.1,h9.2.2⟩,by rw[hrn];exact h9.1.1.2,by rw[hrn,aZ];exact hra,by rw[hrn];exact hrc⟩) (λn w h=>St.imp h (.cons _ QIM) λF h=>h.1.1.1) (λn40=>?_);refine YU _ (λ_ _ f h=>h.2.2) (λh40=>?_);have hI2:V3 (addN i.ts n40) (Yz v (J4 (p.2.take (i.i+1)))):=by
    rw[TW hlt,show qt v (el p.2 i.i).t=[((el p.2 i.i).t.1*((Qn (el p.2 i.i).t.2 v:Int):Rat),(el p.2 i.i).t.2.set v (Qn (el p.2 i.i).t.2 v-1))]from if_pos hkp];exact i.hI.add (hp1.1.set hkp) h40
   refine Q7<|Qk<|QC<|QB<|QA (Qw I I O)<|wB 2 I ?_
   exact Qm (⟨i.i+1,addN i.ts n40,hlt,hI2⟩) (by show p.2.length-(i.i+1)<p.2.length-i.i;omega) wW (.cons_cons _ (.cons _ .slnil)) λF h=>⟨h.1.1.1.1.1.1,h.2.1⟩
  have hkp:=QJH hc;refine QO<|Qk<|QC<|QB<|QA (Qw I I O)<|wB 2 I ?_
  exact Qm (⟨i.i+1,i.ts,hlt,by rw[TW hlt,show qt v (el p.2 i.i).t=[]from if_neg hkp,eU];exact i.hI⟩) (by show p.2.length-(i.i+1)<p.2.length-i.i;omega) wW (.cons _ QIM) λF h=>⟨h.1,h.2⟩
 have hge:i.i=p.2.length:=wk<|QJH hc
 refine Qz ?_
 repeat first|refine QZ ?_|refine QQ wy ?_
 refine Qa<|QJM 4 I ?_
 have hI:=i.hI;rw[hge,aC]at hI;refine XW I (aK _) (BY hI (by have h1:=hI.ln;have h2:=kH v (J4 p.2);rw[Ye]at h2;omega) tB) (λc43=>?_);refine wQ I<|QY ?_
 exact QS (c43) rfl (wN I) (rfl) tB
def Nu{a z v r:List Value}(h:z.length=v.length):K8 (a++(z++r)) a.length v (a++(v++r)):=by
 have:=K8.mk' a.length (a++(z++r)) v (by simp only[aj];omega);rw[List.take_left,fP,ax O,ag,Nat.add_sub_cancel_left,fP,ax O,ag,<-h,iw,List.drop_zero,bQ]at this;exact this
def R8(F:Gs)(xs:List (Fr×Rat)):Prop:=∀p∈xs,JN F p.1 p.2
def R8.le{xs:List (Fr×Rat)}(h:R8 F xs)(k:Gs.le F F'):R8 F' xs:=λp hp=>(h p hp).le k
def Fo(xs:List (Fr×Rat)):List Value:=xs.flatMap λp=>Kl p.1
instance :Inhabited Fr:=⟨⟨⟨0,none,0,0⟩,⟨1,none,0,0⟩⟩⟩
instance :Inhabited (Fr×Rat):=⟨(default,0)⟩
theorem Sg{B:Nat}:∀(l:List Rat) (s:Rat×Rat),JU s.1<=B->JU s.2<=B->(∀x∈l,JU x<=B)->JU (l.foldl ZI s).1<=B/\JU (l.foldl ZI s).2<=B
 |[],s,h1,h2,_=>⟨h1,h2⟩
 |x::l,s,h1,h2,h=>by
  have hx:=h x wz;exact Sg l (ZI s x) (by unfold ZI;dsimp only;split<;>assumption) (by unfold ZI;dsimp only;split<;>assumption) λy hy=>h y (by simp[hy])
def yw(x y:Fr):∀v∈Kl x++Kl y,v.oneCell'=true:=by
 intro v hv;simp only[Kl,ab,ag,ay,aI,or_false]at hv;rcases hv with rfl | rfl | rfl | rfl | rfl | rfl | rfl | rfl<;>rfl
def WX(c:Rat×Rat)(bs:List (Rat×Rat))(ks:List Int)(i:Nat):Rat×Rat:=(ai i).foldl (λa j=>if Qn ks j>0 then Jg a (Vm (el bs j) (Qn ks j))else a) c
def GF(c:Rat×Rat)(bs:List (Rat×Rat))(ks:List Int)(i:Nat):WX c bs ks (i+1)=if Qn ks i>0 then Jg (WX c bs ks i) (Vm (el bs i) (Qn ks i))else WX c bs ks i:=by
 unfold WX;rw[List.range_succ,fK];rfl
def Vv(a b:Rat×Rat):Rat×Rat:=(a.1+b.1,a.2+b.2)
def XM(bs:List (Rat×Rat))(l:List Tm):Rat×Rat:=l.foldl (λa t=>Vv a (WX (t.1,t.1) bs t.2 t.2.length)) (0,0)
def XN(a:Rat×Rat)(k:Nat):Prop:=JU a.1<=k/\JU a.2<=k
def XN.mono{l:Nat}(h:XN a k)(g:k<=l):XN a l:=⟨aT h.1 g,aT h.2 g⟩
def NI{r:Rat}{l:List Rat}(h:JU r<=k)(hl:∀x∈l,JU x<=k):XN (Y3 r l) k:=Sg l (r,r) h h hl
theorem KV(ha:XN a m)(hb:XN b n):XN (Jg a b) (m+n):=by
 have h:∀x y:Rat,JU x<=m->JU y<=n->JU (x*y)<=m+n:=λx y h1 h2=>wk<|Yt x y
 unfold Jg;refine NI (h _ _ ha.1 hb.1) λx hx=>?_;simp only[ay,aI,or_false]at hx;rcases hx with rfl | rfl | rfl
 ·exact h _ _ ha.1 hb.2
 ·exact h _ _ ha.2 hb.1
 exact h _ _ ha.2 hb.2
def Q8(s:List UInt8×List UInt8):Rat×Rat:=(Qo s.1,Qo s.2)
def Xp(x:Sp):List Value:=Kl x.lo++Kl x.hi
def UP(m x:Rat):Rat:=if Yb x m<0 then x else m
def N2(m x:Rat):Rat:=if Yb x m>0 then x else m
theorem ZN(r:Rat)(l:List Rat):Y3 r l=(l.foldl UP r,l.foldl N2 r):=by
 have:∀(l:List Rat) (a b:Rat),l.foldl ZI (a,b)=(l.foldl UP a,l.foldl N2 b):=by
  intro l
  induction l with
  |nil=>intro a b;rfl
  |cons x l ih=>intro a b;rw[bL,bL,bL];exact ih _ _
 exact this l r r
theorem MV(hf:∀m x,f m x=m\/f m x=x){P:Rat->Prop}:∀(l:List Rat) (r:Rat),P r->(∀x∈l,P x)->P (l.foldl f r)
 |[],_,h,_=>h
 |x::l,r,h,hl=>MV hf l (f r x) (by rcases hf r x with e | e<;>rw[e];exact h;exact hl x wz) λy hy=>hl y (by simp[hy])
def QBP(m x:Rat):UP m x=m\/UP m x=x:=by unfold UP;split<;>simp
def QBq(m x:Rat):N2 m x=m\/N2 m x=x:=by unfold N2;split<;>simp
structure LgI(f:Rat->Rat->Rat)(r:Rat)(l:List Rat) where
 i:Nat
 x:Fr
 s:Rat
 le:i<=l.length
 h:s=(l.take i).foldl f r
def LgI.step{r:Rat}{l:List Rat}(s:LgI f r l)(h:s.i<l.length):f s.s (el l s.i)=(l.take (s.i+1)).foldl f r:=by
 rw[XU h,fK,<-s.h];rfl
def LgI.end_{r:Rat}{l:List Rat}(s:LgI f r l)(h:s.i=l.length):s.s=l.foldl f r:=by
 rw[s.h,h,aC]
theorem Vo{x:Fr}{r:Rat}{q:Option Addr}{ps:List (Fr×Rat)}(hF:Fits F w)(h:JN F x r)(hR:Qx F q n 4 (ps.flatMap λe=>Kl e.1))(hP:∀p∈ps,JN F p.1 p.2)(hn:ps.length=n)(hb:n<=1000000)(hz:JU r<=100000000/\∀p∈ps,JU p.2<=100000000):
  X0 prog 169 [x.v,.slice q n c] w F ((ps.map (·.2)).foldl UP r):=by
 have hml:(ps.map (·.2)).length=n:=by simpa using hn
 dsimp only[Fr.v];refine QV.intro (G:=λF=>JN F x r/\Qx F q n 4 (ps.flatMap λe=>Kl e.1)/\(∀p∈ps,JN F p.1 p.2)) func169 rfl wy rfl rfl hF (λF' hF'=>⟨h.le hF',hR.le hF',λp hp=>(hP p hp).le hF'⟩)<|QI7<|Qs rfl (vs:=[_,_,_,_]) rfl λb2=>Qc Jy λb4=>QHz<|QG<|wR rfl<|QA (Qh rfl XZ)<|QH0 rfl<|QHz<|QW<|JV (ι:=LgI UP r (ps.map (·.2))) [(2,_),(4,_),(7,_),(8,_)] (λi=>[(9,.int .i64 ((i.i:Nat):Int))]) (λi=>[(b4,.cells [.int .i64 0,.slice none 0 0,.int .i64 0,.slice none 0 0].toArray 118 (0,0)),(b2,.cells [.int .i64 i.x.n.s,.slice i.x.n.q i.x.n.n i.x.n.cap,.int .i64 i.x.d.s,.slice i.x.d.q i.x.d.n i.x.d.cap].toArray 118 (0,0))]) (λi F=>JN F i.x i.s) (λi=>n-i.i) (⟨0,x,r,au _,rfl⟩) wV wS QIM tA λi=>?_
 simp only[ab,ag];have hi:=i.le;have hsz:JU i.s<=100000000:=by rw[i.h];exact MV (P:=λy=>JU y<=100000000) QBP _ _ hz.1 λy hy=>by obtain⟨p,hp,rfl⟩:=List.mem_map.1 (ei hy);exact hz.2 p hp
 refine wA 6 I ?_;refine QR I (λhc=>?_) λhc=>?_
 ·have hlt:i.i<ps.length:=wk<|QJG hc
  have hem:=Qv hlt;have hze:=hz.2 _ hem;have hel:el (ps.map (·.2)) i.i=(el ps i.i).2:=by rw[JW (by simpa using hlt),JW hlt];simp
  refine QJL 6 I<|QA (Q3 (n:=n) i.i (λF h9=>h9.1.2.1) rfl rfl XZ QN O)<|QA (JK (n:=n) (vs:=[.int .i64 (el ps i.i).1.n.s,.slice (el ps i.i).1.n.q (el ps i.i).1.n.n (el ps i.i).1.n.cap,.int .i64 (el ps i.i).1.d.s,.slice (el ps i.i).1.d.q (el ps i.i).1.d.n (el ps i.i).1.d.cap]) ((i.i)*4) (λF h9=>h9.1.2.1) O rfl QN I λj v hv=>JQ (f:=(λe=>Kl e.1)) (l:=ps) (λ_=>rfl) O hv)<|Qc Jy λb6=>QU (vs:=[_,_,_,_]) I I I QN I .here .h4 wV<|QHz<|QI7<|QA (wJ I QN .here)<|QA (wJ I QN .u2)<|QI I (λ_ _ f k=>Gv (x:=(el ps i.i).1) (y:=i.x) (r:=(el ps i.i).2) (s:=i.s) f (k.1.2.2 _ hem) k.2 hze hsz) λ_=>QJK 3 I ?_
  refine QR I (λhc=>?_) λhc=>?_
  ·have hc16:=QJG hc;refine QB<|QA (wJ I QN .here)<|QU (vs:=[_,_,_,_]) I I I QN I .u2 .h4 wV<|QE<|Qk<|QC<|QB<|QA (Qw I I O)<|wB 2 I ?_
   exact Qm (⟨i.i+1,(el ps i.i).1,(el ps i.i).2,O,by rw[<-i.step O,hel];unfold UP;rw[if_pos hc16]⟩) (by show n-(i.i+1)<n-i.i;omega) wW (.cons _ QIM) λF ⟨⟨⟨hX,hR,hP⟩,hS⟩,_⟩=>⟨⟨hX,hR,hP⟩,hP _ hem⟩
  have hc16:=QJH hc;refine QO<|Qk<|QC<|QB<|QA (Qw I I O)<|wB 2 I ?_
  exact Qm (⟨i.i+1,i.x,i.s,O,by rw[<-i.step O,hel];unfold UP;rw[if_neg hc16]⟩) (by show n-(i.i+1)<n-i.i;omega) wW (.cons _ QIM) λF ⟨⟨⟨hX,hR,hP⟩,hS⟩,_⟩=>⟨⟨hX,hR,hP⟩,hS⟩
 have hge:i.i=(ps.map (·.2)).length:=wk<|QJH hc
 refine Qz ?_
 repeat first|refine QZ ?_|refine QQ wy ?_
 refine Qa<|QC<|QI7<|QA (wJ I QN .u1)<|QU (vs:=[_,_,_,_]) I I I QN I .here .h4 wV<|QHz<|QY ?_
 exact QS (i.x) rfl (.JX (c:=[_,_,_,_]) I QN .here .nil) (rfl) λF h=>by rw[<-i.end_ hge];exact h.2
theorem Xm{x:Fr}{r:Rat}{q:Option Addr}{ps:List (Fr×Rat)}(hF:Fits F w)(h:JN F x r)(hR:Qx F q n 4 (ps.flatMap λe=>Kl e.1))(hP:∀p∈ps,JN F p.1 p.2)(hn:ps.length=n)(hb:n<=1000000)(hz:JU r<=100000000/\∀p∈ps,JU p.2<=100000000):
  X0 prog 100 [x.v,.slice q n c] w F ((ps.map (·.2)).foldl N2 r):=by
 have hml:(ps.map (·.2)).length=n:=by simpa using hn
 dsimp only[Fr.v];refine QV.intro (G:=λF=>JN F x r/\Qx F q n 4 (ps.flatMap λe=>Kl e.1)/\(∀p∈ps,JN F p.1 p.2)) func100 rfl wy rfl rfl hF (λF' hF'=>⟨h.le hF',hR.le hF',λp hp=>(hP p hp).le hF'⟩)<|QI7<|Qs rfl (vs:=[_,_,_,_]) rfl λb2=>Qc Jy λb4=>QHz<|QG<|wR rfl<|QA (Qh rfl XZ)<|QH0 rfl<|QHz<|QW<|JV (ι:=LgI N2 r (ps.map (·.2))) [(2,_),(4,_),(7,_),(8,_)] (λi=>[(9,.int .i64 ((i.i:Nat):Int))]) (λi=>[(b4,.cells [.int .i64 0,.slice none 0 0,.int .i64 0,.slice none 0 0].toArray 118 (0,0)),(b2,.cells [.int .i64 i.x.n.s,.slice i.x.n.q i.x.n.n i.x.n.cap,.int .i64 i.x.d.s,.slice i.x.d.q i.x.d.n i.x.d.cap].toArray 118 (0,0))]) (λi F=>JN F i.x i.s) (λi=>n-i.i) (⟨0,x,r,au _,rfl⟩) wV wS QIM tA λi=>?_
 simp only[ab,ag];have hi:=i.le;have hsz:JU i.s<=100000000:=by rw[i.h];exact MV (P:=λy=>JU y<=100000000) QBq _ _ hz.1 λy hy=>by obtain⟨p,hp,rfl⟩:=List.mem_map.1 (ei hy);exact hz.2 p hp
 refine wA 6 I ?_;refine QR I (λhc=>?_) λhc=>?_
 ·have hlt:i.i<ps.length:=wk<|QJG hc
  have hem:=Qv hlt;have hze:=hz.2 _ hem;have hel:el (ps.map (·.2)) i.i=(el ps i.i).2:=by rw[JW (by simpa using hlt),JW hlt];simp
  refine QJL 6 I<|QA (Q3 (n:=n) i.i (λF h9=>h9.1.2.1) rfl rfl XZ QN O)<|QA (JK (n:=n) (vs:=[.int .i64 (el ps i.i).1.n.s,.slice (el ps i.i).1.n.q (el ps i.i).1.n.n (el ps i.i).1.n.cap,.int .i64 (el ps i.i).1.d.s,.slice (el ps i.i).1.d.q (el ps i.i).1.d.n (el ps i.i).1.d.cap]) ((i.i)*4) (λF h9=>h9.1.2.1) O rfl QN I λj v hv=>JQ (f:=(λe=>Kl e.1)) (l:=ps) (λ_=>rfl) O hv)<|Qc Jy λb6=>QU (vs:=[_,_,_,_]) I I I QN I .here .h4 wV<|QHz<|QI7<|QA (wJ I QN .here)<|QA (wJ I QN .u2)<|QI I (λ_ _ f k=>Gv (x:=(el ps i.i).1) (y:=i.x) (r:=(el ps i.i).2) (s:=i.s) f (k.1.2.2 _ hem) k.2 hze hsz) λ_=>QJK 3 I ?_
  refine QR I (λhc=>?_) λhc=>?_
  ·have hc16:=QJG hc;refine QB<|QA (wJ I QN .here)<|QU (vs:=[_,_,_,_]) I I I QN I .u2 .h4 wV<|QE<|Qk<|QC<|QB<|QA (Qw I I O)<|wB 2 I ?_
   exact Qm (⟨i.i+1,(el ps i.i).1,(el ps i.i).2,O,by rw[<-i.step O,hel];unfold N2;rw[if_pos hc16]⟩) (by show n-(i.i+1)<n-i.i;omega) wW (.cons _ QIM) λF ⟨⟨⟨hX,hR,hP⟩,hS⟩,_⟩=>⟨⟨hX,hR,hP⟩,hP _ hem⟩
  have hc16:=QJH hc;refine QO<|Qk<|QC<|QB<|QA (Qw I I O)<|wB 2 I ?_
  exact Qm (⟨i.i+1,i.x,i.s,O,by rw[<-i.step O,hel];unfold N2;rw[if_neg hc16]⟩) (by show n-(i.i+1)<n-i.i;omega) wW (.cons _ QIM) λF ⟨⟨⟨hX,hR,hP⟩,hS⟩,_⟩=>⟨⟨hX,hR,hP⟩,hS⟩
 have hge:i.i=(ps.map (·.2)).length:=wk<|QJH hc
 refine Qz ?_
 repeat first|refine QZ ?_|refine QQ wy ?_
 refine Qa<|QC<|QI7<|QA (wJ I QN .u1)<|QU (vs:=[_,_,_,_]) I I I QN I .here .h4 wV<|QHz<|QY ?_
 exact QS (i.x) rfl (.JX (c:=[_,_,_,_]) I QN .here .nil) (rfl) λF h=>by rw[<-i.end_ hge];exact h.2
structure Mi{α:Type}(l:List α)(p:α->Bool) where
 i:Nat
 le:i<=l.length
 z:∀x∈l.take i,p x=false
section
variable{α:Type}[Inhabited α]{l:List α}{p:α->Bool}
def Mi.start(l:List α)(p:α->Bool):Mi l p:=⟨0,au _,wz⟩
def Mi.next(s:Mi l p)(h:s.i<l.length)(e:p (el l s.i)=false):Mi l p:=⟨s.i+1,h,λx hx=>by
 rw[XU h]at hx;rcases List.mem_append.1 hx with hx | hx
 ·exact s.z x hx
 rw[List.mem_singleton.1 hx];exact e⟩
theorem Mi.stop(s:Mi l p)(h:l.length<=s.i):¬l.any p=true:=by
 rw[eO];rintro⟨x,hx,e⟩;have:=s.z x (by rw[bT h];exact hx);rw[this]at e;cases e
end
structure k7(p q:List Tm)(N:Nat):Prop where
 wp:∀t∈p,t.2.length=N
 wq:∀t∈q,t.2.length=N
 lp:p.length<=10000
 lq:q.length<=10000
 pp:∀t∈p,PW t.2
 pq:∀t∈q,PW t.2
 pm:∀s∈p,∀t∈q,PW (Wa s.2 t.2)
 zp:KD p<=20000000
 zq:KD q<=20000000
 zm:KD (Zs p q)<=40000000
theorem ze{p q:WA}(hF:Fits F w)(hGl:JE F)(hP:XR F p.1 p.2 (J4 p.2))(hQ:XR F q.1 q.2 (J4 q.2))(hN:N<=1000)(h:k7 (J4 p.2) (J4 q.2) N):
  QV prog 238 [p.1.v,q.1.v] w F (λ(c:WA)=>c.1.v) (λc F=>XR F c.1 c.2 (Xv (Zs (J4 p.2) (J4 q.2)))) :=
 QA3 hF hGl hP hQ ⟨λt ht=>h.wp _ (aa ht),λt ht=>h.wq _ (aa ht)⟩ hN ⟨by have:=h.lp;rwa [Ye]at this,by have:=h.lq;rwa [Ye]at this⟩
  ⟨λt ht=>h.pp _ (aa ht),λt ht=>h.pq _ (aa ht),λs hs t ht=>h.pm _ (aa hs) _ (aa ht)⟩ ⟨h.zp,h.zq⟩ h.zm
structure vJ(p q:List Tm):Prop where
 pp:∀t∈p,PW t.2
 pq:∀t∈q,PW t.2
 lp:p.length<=400000000
 lq:q.length<=400000000
 zs:KD (p++q)<=40000000
theorem zr{p q:WA}(hF:Fits F w)(hGl:JE F)(hP:XR F p.1 p.2 (J4 p.2))(hQ:XR F q.1 q.2 (J4 q.2))(h:vJ (J4 p.2) (J4 q.2)):
  QV prog 237 [p.1.v,q.1.v] w F (λ(c:WA)=>c.1.v) (λc F=>XR F c.1 c.2 (Xv (J4 p.2++J4 q.2))) :=
 QA9 hF hGl hP hQ ⟨λt ht=>h.pp _ (aa ht),λt ht=>h.pq _ (aa ht)⟩ ⟨by have:=h.lp;rwa [Ye]at this,by have:=h.lq;rwa [Ye]at this⟩ h.zs
def jd(ws:List WA):List (List Tm):=ws.map λe=>J4 e.2
theorem QBv(h:∀x∈l,0<=x)(v:Nat):0<=Qn l v:=by
 by_cases g:v<l.length
 ·rw[YM g];exact h _ (List.getElem_mem g)
 rw[Ma O];exact Int.le_refl _
def xP{ts:List ZW}(h:i<ts.length):(el ts i).t=el (J4 ts) i:=by rw[JW h,JW (by simpa[J4]using h)];simp[J4]
structure Open(F:Fence):Prop where
 fn:∀f,F.fn f
 depth:F.depth=none
 calls:∀ {n:Nat} {P:Program} {f:FuncId} {args:Array Value} {w:World} {R:Ending->World->Prop},Calls P f args w R->CallsIn F n P f args w R
 rows:∀ {n:Nat} {P:Program} {row:String} {args:Array Value} {w:World} {R:Value->World->Prop},Rows P row args w R->RowsIn F n P row args w R
theorem TB:Open bN where
 fn:=λ_=>trivial
 depth:=rfl
 calls:=λh=>callsIn_wide.2 h
 rows:=λh c cs _=>by
  obtain⟨v,w',h1,h2⟩:=h c cs;exact⟨v,w',h1,stepsIn_wide.2 h2⟩
def RN(l:Nat):Open (Fence.wide.inRound l) where
 fn:=λ_=>trivial
 depth:=rfl
 calls:=λh=>(callsIn_wide.2 h:CallsIn bN _ _ _ _ _ _)
 rows:=λh=>TB.rows h
section
variable{F:Fence}{P:Program}
theorem Open.op(hF:Open F){o:Oper}(hnd:∀c,o.op≠.defer c){a:Act}{w:World}{K K':Act->World->Prop}{Q1 Q:Exit->Act->World->Prop}(hp:∀c a w,Q1 (.panic c) a w->Q (.panic c) a w)(hl:∀a w,Q1 .outgrown a w->Q .outgrown a w)(hK:∀a w,K a w->K' a w)(h:o.wp P a w K Q1):o.wpIn F 0 P a w K' Q:=by
 unfold Oper.wp at h;unfold Oper.wpIn;refine⟨λf _=>hF.fn f,?_⟩;rw[fS F a.eval o hnd];generalize (execOp a.eval o).run P w=r at *
 have hd:F.depth.isSome=true->1<=0:=λe=>by rw[hF.depth]at e;cases e
 cases r with
 |ok x w' =>
  cases x<;>simp only[Oper.upon,iz]at h ⊢ <;>
   first
    |exact hK _ _ h
    |exact⟨hd,hF.calls (h.mono λe w'' he=>by
      cases e with
      |returned u=>exact hK _ _ he
      |panicked c=>exact hp _ _ _ he
      |outgrown=>obtain⟨a,w,h⟩:=he;exact⟨a,w,hl _ _ h⟩)⟩
    |exact⟨hd,hF.rows (h.mono λ_ _ he=>hK _ _ he)⟩
 |halt x w'=>cases x<;>simp only[Oper.upon,iz]at h ⊢<;>exact hp _ _ _ h
def Nx(l:List Oper):Bool:=l.all λo=>match o.op with | .defer _=>false | _=>true
def Lo{o:Oper}(h:(match o.op with | .defer _=>false | _=>true)=true):∀c,o.op≠.defer c:=λc e=>by rw[e]at h;cases h
theorem Open.list(hF:Open F){ops:Array Oper}{Q:Exit->Act->World->Prop}(hQ:¬LetsOut Q):∀(l:List Oper) (a:Act) (w:World),Nx l=true->wpList P ops Q l a w->wpListIn F 0 P ops Q l a w
 |[],_,_,_,h=>h
 |o::rest,a,w,hd,h=>by
  simp only[Nx,e8,ae]at hd;unfold wpList at h;unfold wpListIn;split
  ·rename_i hw;rw[if_pos hw]at h;rcases h with h | ⟨_,h⟩
   ·exact hF.op (Lo hd.1) (λ_ _ _ h=>h) (λ_ _ h=>h) (λa w h=>hF.list hQ rest a w hd.2 h) h
   exact absurd h hQ
  rename_i hw;rw[if_neg hw]at h;exact⟨λf _=>hF.fn f,hF.list hQ rest _ _ hd.2 h⟩
end
section
variable[Dr][df:Df]{F:Fence}{P:Program}{Q:Exit->Act->World->Prop}{N:Nat}{m:Sl}{E:Env}
def JI(F:Fence)(P:Program)(c:Code)(Q:Exit->Act->World->Prop)(N:Nat)(m:Sl)(E:Env):Prop:=∀a w,Ja N m a->St E w->c.wpIn F 0 P Q a w
theorem vD{id:Nat}{c:Code}(h:JI F P c (Exit.inBlock id Q) N m E):JI F P (.block id c) Q N m E:=λa w ha hw=>wpIn_block (h a w ha hw)
theorem Tg(hF:Open F){id:Nat}{l:List Oper}(hQ:¬LetsOut Q)(hd:Nx l=true)(h:JS P l.toArray Q l N m E):JI F P (.region id l.toArray false) Q N m E :=
 λa w ha hw=>wpIn_region_lit (hF.list hQ l a w hd (h a w ha hw))
section
variable{w0:World}{F0:Gs}{bs:List (Nat×Obj)}{G:Gs->Prop}{l:Nat}{r:Loop}{f:Obj->List (Nat×Obj)}
theorem St.put(h:St ⟨w0,F0,bs,G⟩ w){b:Nat}{o:Obj}(o':Obj)(ho:Own bs b o f)(hn:∀c fr,o'≠.cells c 256 fr):St ⟨w0,F0,f o',G⟩ (w.putObj b o'):=by
 obtain⟨pre,post,e1,e2⟩:=ho.split;subst e1;rw[e2];exact h.write pre ⟨rfl,rfl,rfl,rfl,rfl⟩ hn
theorem ua{body:Code}{Qr:Exit->Act->World->Prop}(ho:Own bs l (.loop r) f)(hr:r.state = .ready)(k:JI F P body Qr N m ⟨w0,F0,f (.loop { r with state:=.busy }),G⟩):
  Fin (Exit.then (λa₁ w₁=>∃w₂,(fM l).run P w₁ = .ok () w₂/\body.wpIn F 0 P Qr a₁ w₂) λ_ _ _=>False) .normal N m ⟨w0,F0,bs,G⟩ :=
 λa w ha hw=>⟨_,run_beginRound (hw.own ho) hr,k a _ ha (hw.put _ ho λc fr e=>by cases e)⟩
theorem uY{R:Ending->World->Prop}(ho:Own bs l (.loop r) f)(k:∀w,St ⟨w0,F0,f (.loop { r with state:=.ready,pending:=none }),G⟩ w->R (.returned (.bool true)) w):Fin (roundPost P l R) .normal N m ⟨w0,F0,bs,G⟩ :=
 λa w ha hw=>⟨_,_,run_endRound none (hw.own ho),k _ (hw.put _ ho λc fr e=>by cases e)⟩
end
end
section
variable[Dr]{P:Program}{w0:World}{F0:Gs}{bs:List (Nat×Obj)}{G:Gs->Prop}{l:Nat}{r:Loop}{f:Obj->List (Nat×Obj)}
def Tx(r:Loop)(vs:Array Value):Act:={ tmps:=(r.params.zip vs).foldl (λtmps (t,a)=>tmps.setIfInBounds t a) r.tmps,defers:=[] }
theorem LB{W:World}{vs:Array Value}{R:Ending->World->Prop}{m:Sl}(hst:St ⟨w0,F0,bs,G⟩ W)(ho:Own bs l (.loop r) f)(hsz:vs.size=r.params.size)(hsl:Ja N m (Tx r vs))
  (h:JI (Fence.wide.inRound l) P r.assign (Exit.then (λa₁ w₁=>∃w₂,(fM l).run P w₁ = .ok () w₂/\r.body.wpIn (Fence.wide.inRound l) 0 P (roundPost P l R) a₁ w₂) λ_ _ _=>False) N m ⟨w0,F0,bs,G⟩) :
  YieldAt bN 0 P l vs W R :=
 ⟨_,_,_,_,run_yield (hst.own ho) hsz,roundIn_of_wpIn trivial (h _ W hsl hst)⟩
end
section
variable[Dr][df:Df]{P:Program}{Q:Exit->Act->World->Prop}{N:Nat}{m:Sl}{E E0:Env}{ops:Array Oper}{l:List Oper}{w0:World}{F0:Gs}{bs:List (Nat×Obj)}{G:Gs->Prop}
def JSI(P:Program)(ops:Array Oper)(Q:Exit->Act->World->Prop)(l:List Oper)(N:Nat)(m:Sl)(E:Env):Prop:=∀a w,Ja N m a->St E w->wpListIn bN 0 P ops Q l a w
theorem QCF(hQ:¬LetsOut Q)(hd:Nx l=true)(h:JS P ops Q l N m E):JSI P ops Q l N m E:=λa w ha hw=>TB.list hQ l a w hd (h a w ha hw)
theorem jS{d r:Nat}{args:Array Operand}{tys:Array TypeId}{vs:List Value}{ty:TypeId}{pos:String}{aft:Array Edge}{ι:Type}{E':ι->Env}(hx:ev m x=some (.func (.yield r) #[] #[]))(hv:E3 m args.toList=some vs)
  (hy:∀w,St E w->YieldAt bN 0 P r vs.toArray w λe w'=>e = .returned (.bool true)/\∃s,St (E' s) w')
  (k:∀s,JSI P ops Q l N ((d,.bool true)::m) (E' s)) (hd:J5 N (some d)=true:=by rfl):JSI P ops Q (⟨some d,.call ⟨.value x,args,tys⟩,ty,pos,aft,none⟩::l) N m E:=by
 intro a w ha hw;refine wpListIn_plain rfl λK hK=>?_;obtain⟨fn,tmps,assign,body,hr,hR⟩:=hy w hw;refine⟨λf _=>trivial,?_⟩;have e2:args.map a.eval=vs.toArray:=by rw[<-ha.E3 hv];apply fF;simp
 have hrun:(execOp a.eval ⟨some d,.call ⟨.value x,args,tys⟩,ty,pos,aft,none⟩).run P w = .ok (.round r fn tmps assign body) w:=by
  simp only[execOp,resolve,ha.ev hx,Deferred.ofValue,bZ,fl,bP,invoke,e2];simpa using hr
 rw[fS bN a.eval _ (λc e=>by cases e),hrun];refine⟨λe=>(by cases e),hR.mono ?_⟩;rintro e w' ⟨rfl,s,hs⟩;exact hK _ _ (k s _ w' (ha.put hd (.bool true)) hs)
end
section
variable[Dr]{P:Program}{Q:Exit->Act->World->Prop}{N:Nat}{m:Sl}{w0:World}{F0:Gs}{bs:List (Nat×Obj)}{G:Gs->Prop}
structure k6(N:Nat)(m:Sl)(ps:Array Tmp)(assign body:Code)(r:Loop):Prop where
 state:r.state = .ready
 QIc:r.pending=none
 params:r.params=ps
 assign:r.assign=assign
 body:r.body=body
 QDo:Ja (df:=DI) N m { tmps:=r.tmps,defers:=[] }
theorem QV.QBk{f:FuncId}{fn:Func}{c:Code}{args:List Value}{γ:Type}{val:γ->Value}{fact:γ->Gs->Prop}{G:Gs->Prop}(hf:P.funcs[f]?=some fn)(hb:fn.body=some c)(hn:(fn.name == "runtime.NumGoroutine")=false)(hN:fn.ntmps=N)(hl:Nat.ble args.length N=true)
  (hw:Fits F w) (hg:∀F',Gs.le F F'->G F') (h:J (df:=DI) P c (bodyPostM bN 0 P fn (SO w F val fact)) N (Rz 0 args) ⟨w,F,[],G⟩):QV P f args w F val fact:=by
 refine⟨enters_of hf hn (by rw[hb];rfl),callsIn_wide.1 (callsIn_of_wp_marks hf hb trivial (wpIn_wide.2 (h _ w ⟨?_,rfl,λt v ht=>?_⟩ (St.start hw hg))))⟩
 ·have:=Nat.le_of_ble_eq_true hl;simp[hN];omega
 obtain⟨_,h2⟩:=Gr args 0 t v ht;have hlt:t<args.length:=by rcases bG t args.length with g | g;exact g;rw[eK,bc g]at h2;cases h2
 simp only[eK]at h2;rw[bH,if_pos (by simpa using hlt)];simpa using h2
end
section
variable{P:Program}{e:TypeId}
theorem equal_txs{t:TypeId}{f1 f2:Field}(ht:P.underlying t=some (.struct (P.fieldsOf t)))(hp:P.stoodInHeld t=false)(hf:(P.fieldsOf t).toList=[f1,f2])(h1:f1.name ≠ "_" /\ f1.offset=0/\P.underlying f1.type=some .string)(h2:f2.name ≠ "_" /\ f2.offset=1/\P.underlying f2.type=some .string)(w:World)(a b c d:List UInt8):
  (Op.equal t (.agg #[tx a,tx b]) (.agg #[tx c,tx d])).run P w = .ok (decide (a=c)&&decide (b=d)) w:=by
 have hs:∀(f:TypeId),P.underlying f=some .string->∀x y:List UInt8,(Op.equalIn 9999 f (tx x) (tx y)).run P w = .ok (decide (x=y)) w:=λf hf x y=>by
  rw[show(9999:Nat)=9998+1 from rfl,show tx x = .string ⟨x.toArray⟩from rfl,show tx y = .string ⟨y.toArray⟩from rfl,run_equalIn_string w 9998 f _ _ hf];congr 1;rw[e9,e9,ba];simp
 show(Op.equalIn (9999+1) t _ _).run P w=_;rw[run_equalIn_struct w 9999 t _ _ ht hp,hf];have p1:∀x y:List UInt8,(part f1.type #[tx x,tx y] 0).run P w = .ok (tx x) w:=λx y=>by simp[part,isAgg,run_underlying h1.2.2]
 have p2:∀x y:List UInt8,(part f2.type #[tx x,tx y] 1).run P w = .ok (tx y) w:=λx y=>by simp[part,isAgg,run_underlying h2.2.2]
 simp only[Op.eqFields,h1.1,h2.1,h1.2.1,h2.2.1,ne_eq,not_false_eq_true,if_true,bZ,p1,p2,hs f1.type h1.2.2,hs f2.type h2.2.2,bP];by_cases e1:a=c<;>by_cases e2:b=d<;>simp[e1,e2,p2,hs f2.type h2.2.2]
end
section
variable[Dr][df:Df]{P:Program}{Q:Exit->Act->World->Prop}{N:Nat}{m:Sl}{ops:Array Oper}{l:List Oper}{E E':Env}
theorem Ia{w0:World}{F0:Gs}{bs bs':List (Nat×Obj)}{G:Gs->Prop}{E0:Env}(hp:bs.Perm bs')(k:JD P ops Q E0 l N m ⟨w0,F0,bs',G⟩):JD P ops Q E0 l N m ⟨w0,F0,bs,G⟩:=λhE a w ha hw=>k (λw h=>hE w (h.perm hp.symm)) a w ha (hw.perm hp)
end
def LZ{m:Sl}{ps:Array Tmp}{assign body:Code}{r:Loop}(h:k6 N m ps assign body r):{ ({ r with state:=.busy }:Loop)with state:=.ready,pending:=none }=r:=by
 obtain⟨h1,h2,_,_,_,_⟩:=h;cases r;simp only at h1 h2;subst h1;subst h2;rfl
theorem C1:((prog.fieldsOf 38).toList.map λf=>(f.name,f.offset,f.type))=[("Low",0,27),("High",1,27)]:=wm
theorem LQ:prog.underlying 38=some (.struct (prog.fieldsOf 38)):=wm
theorem C0:prog.stoodInHeld 38=false:=wm
theorem LR:prog.eqGuardType prog.depth 38=false:=wm
theorem O3:prog.underlying 27=some .string:=wm
def LG{β:Type}{f:α->β}{l:List α}{x y:β}(h:l.map f=[x,y]):∃a b,l=[a,b]/\f a=x/\f b=y:=by
 match l,h with
 |[a,b],h=>simp only[af,fe,fu,and_true]at h;exact⟨a,b,rfl,h.1,h.2⟩
theorem equal_span(w:World)(a b c d:List UInt8):(Op.equal 38 (.agg #[tx a,tx b]) (.agg #[tx c,tx d])).run prog w = .ok (decide (a=c)&&decide (b=d)) w:=by
 obtain⟨f1,f2,hf,h1,h2⟩:=LG C1;simp only[eW]at h1 h2;exact equal_txs LQ C0 hf ⟨by rw[h1.1];decide,h1.2.1,by rw[h1.2.2];exact O3⟩ ⟨by rw[h2.1];decide,h2.2.1,by rw[h2.2.2];exact O3⟩ w a b c d
section
variable[Dr][df:Df]{N:Nat}{m:Sl}{S:World->Prop}{ty:TypeId}
theorem zN{yT:TypeId}{y:Operand}{a b c d:List UInt8}(hx:ev m x=some (.agg #[tx a,tx b]))(hy:ev m y=some (.agg #[tx c,tx d])):Qt prog N m S (.binOp .neq 38 x y yT) ty (.bool (!(decide (a=c)&&decide (b=d)))):=λac w _ _ _ _ ha _=>by
 have h1:=equal_span w a b c d;simp only[execOp,ha.ev hx,ha.ev hy,bZ];have h2:(eqGuard .neq 38 x y (.agg #[tx a,tx b]) (.agg #[tx c,tx d])).run prog w = .ok () w:=by
  simp[eqGuard,LR]
 rw[h2];simp[binOp,h1]
end
def yK(f:List UInt8)(b:Nat)(k:List Int):E6:=⟨f,⟨some ⟨b,0,none⟩,k.length,k.length⟩,k⟩
def vP(b:Nat)(ts:List E6):SD:=(⟨some ⟨b,0,none⟩,ts.length,ts.length⟩,ts)
def WG{b:Nat}{k:List Int}(h:F b=some ((k.map Jr).toArray,T)):XF F ⟨some ⟨b,0,none⟩,k.length,k.length⟩ k:=⟨Qx.of h wz,rfl,aY _⟩
def yL{b:Nat}{ts:List E6}(h:∀t∈ts,t.f.length<=1000000/\t.k.length<=1000000)(hl:ts.length<=1000000):Uq (vP b ts):=⟨rfl,h,hl⟩
section
theorem CG{b:Nat}{ts:List E6}(h:F b=some ((ts.flatMap DM).toArray,T)):Qx F (vP b ts).1.q (vP b ts).1.n 2 ((vP b ts).2.flatMap DM) :=
 Qx.of h (MW (f:=DM) Wt ts)
theorem uh{b:Nat}{ts:List E6}(P:Pt)(hP:YG ts=P)(hp:∀e∈P,e.1.length<=1000000/\e.2.length<=1000000)(hl:P.length<=1000000):Uq (vP b ts):=by
 refine yL (λt ht=>?_) ?_
 ·have:(t.f,t.k)∈YG ts:=List.mem_map.2 ⟨t,ht,rfl⟩;rw[hP]at this;exact hp _ this
 have:=congrArg List.length hP;simp only[YG,bz]at this;omega
def QEJ(a:List UInt8):Cb .neq (tx a) (tx a)=some (.bool false):=by simp[Cb,tx]
def QEt{t:E6}(h:XF F t.r t.k):VT F [t]:=λx hx=>by rw[List.mem_singleton.1 hx];exact h
theorem QEs{t:E6}{ts:List E6}(h:XF F t.r t.k)(hs:VT F ts):VT F (t::ts):=λx hx=>by
 rcases List.mem_cons.1 hx with rfl | hx
 ·exact h
 exact hs x hx
variable{w:World}{F:Gs}
end
def Ra(i:Nat):ZU i*((2^i:Int):Rat)=1:=by
 unfold ZU
 induction i with
 |zero=>decide +kernel
 |succ i ih =>
  have e:((2^(i+1):Int):Rat)=((2^i:Int):Rat)*2:=by rw[iy,fX];rfl
  rw[aN,e];have h2:aU 1 2*2=1:=wv;rw[show aU 1 2^i*aU 1 2*(((2^i:Int):Rat)*2)=(aU 1 2^i*((2^i:Int):Rat))*(aU 1 2*2)from by
   rw[bK,bK];congr 1;rw[<-bK,Rat.mul_comm (aU 1 2),bK],ih,h2,fz]
def N3(i:Nat):ZU i≠0:=λe=>qg i (by rw[e];rfl)
def Rt(x:Rat)(i:Nat):x/ZU i=x*((2^i:Int):Rat):=by
 have h:=Ra i;rw[iD];congr 1;have h1:=Rat.inv_mul_cancel (ZU i) (N3 i)
 calc (ZU i)⁻¹=(ZU i)⁻¹*(ZU i*((2^i:Int):Rat)):=by rw[h,fz]
  _=((ZU i)⁻¹*ZU i)*((2^i:Int):Rat):=by rw[bK]
  _=_:=by rw[h1,iB]
def FZ(n:Int)(i:Nat):aU n (2^i)=(n:Rat)*ZU i:=by
 have h:=Rt (((n:Int):Rat)*ZU i) i;have hne:=N3 i;rw[eI];have h2:((2^i:Int):Rat)≠0:=λe=>by have:=Ra i;rw[e,iu]at this;exact absurd this wu
 have h3:(ZU i)=(((2^i:Int):Rat))⁻¹:=by
  have h1:=Rat.mul_inv_cancel (((2^i:Int):Rat)) h2
  calc ZU i=ZU i*(((2^i:Int):Rat)*(((2^i:Int):Rat))⁻¹):=by rw[h1,fz]
   _=(ZU i*((2^i:Int):Rat))*(((2^i:Int):Rat))⁻¹:=by rw[bK]
   _=_:=by rw[Ra,iB]
 rw[h3,iD]
def RL(r:Rat×Rat)(b:Int):Z7 r b=(YK r.1 b.toNat,-YK (-r.2) b.toNat):=by
 unfold Z7 two YK;rw[FZ,FZ,Rt,Rt,Rat.intCast_neg,iC,iC]
theorem Hr(x y:Rat):Yb x y<=0↔x<=y:=by
 unfold Yb;by_cases h:x<y
 ·rw[if_pos h];exact⟨λ_=>fh h,λ_=>wu⟩
 rw[if_neg h];by_cases e:x=y
 ·rw[if_pos e,e];exact⟨λ_=>aD,λ_=>wu⟩
 rw[if_neg e];refine⟨λk=>absurd k wu,λk=>absurd (Rat.lt_of_le_of_ne k e) h⟩
theorem uC(x y:Rat):Yb x y>=0↔y<=x:=by
 unfold Yb;by_cases h:x<y
 ·rw[if_pos h];exact⟨λk=>absurd k wu,λk=>absurd k (Rat.not_le.2 h)⟩
 rw[if_neg h];refine⟨λ_=>Rat.not_lt.1 h,λ_=>?_⟩;split<;>decide
def Wp(x y:Rat):Yb x y<0↔x<y:=by
 rw[<-fG,<-uC];omega
def WV(x y:Rat):Yb x y>0↔y<x:=by
 rw[<-fG,<-Hr];omega
def Wx(x:Rat)(a:Rat×Rat):Prop:=a.1<=x/\x<=a.2
theorem xF(s:Rat×Rat)(x:Rat):(ZI s x).1<=s.1/\s.2<=(ZI s x).2/\Wx x (ZI s x)\/¬s.1<=s.2:=by
 by_cases h:s.1<=s.2
 ·left;unfold ZI Wx;dsimp only;by_cases h1:x<s.1
  ·rw[if_pos ((Wp x s.1).2 h1),if_neg (λk=>by have:=(WV x s.2).1 k;grind)]
   grind
  rw[if_neg (λk=>h1 ((Wp x s.1).1 k))];by_cases h2:s.2<x
  ·rw[if_pos ((WV x s.2).2 h2)];grind
  rw[if_neg (λk=>h2 ((WV x s.2).1 k))];grind
 exact .inr h
theorem NG:∀(l:List Rat) (s:Rat×Rat),s.1<=s.2->((l.foldl ZI s).1<=s.1/\s.2<=(l.foldl ZI s).2)/\∀y∈l,Wx y (l.foldl ZI s)
 |[],s,_=>⟨⟨aD,aD⟩,λy hy=>by cases hy⟩
 |x::l,s,h=>by
  rcases xF s x with ⟨h1,h2,h3⟩ | h1
  ·obtain⟨⟨g1,g2⟩,g3⟩:=NG l (ZI s x) (by unfold Wx at h3;grind);unfold Wx at h3;refine⟨⟨ao g1 h1,ao h2 g2⟩,λy hy=>?_⟩;rcases List.mem_cons.1 hy with rfl | hy
   ·exact⟨ao g1 h3.1,ao h3.2 g2⟩
   exact g3 y hy
  exact absurd h h1
def KA{r:Rat}{l:List Rat}(h:y∈r::l):Wx y (Y3 r l):=by
 obtain⟨h1,h2⟩:=NG l (r,r) aD;rcases List.mem_cons.1 h with rfl | h
 ·exact h1
 exact h2 y h
theorem ON(l:List Rat):∀(s:Rat×Rat),((l.foldl ZI s).1=s.1\/(l.foldl ZI s).1∈l)/\((l.foldl ZI s).2=s.2\/(l.foldl ZI s).2∈l):=by
 induction l with
 |nil=>intro s;exact⟨.inl rfl,.inl rfl⟩
 |cons x l ih =>
  intro s;obtain⟨h1,h2⟩:=ih (ZI s x);rw[bL];have w1:(ZI s x).1=s.1\/(ZI s x).1=x:=by unfold ZI;dsimp only;split;exact .inr rfl;exact .inl rfl
  have w2:(ZI s x).2=s.2\/(ZI s x).2=x:=by unfold ZI;dsimp only;split;exact .inr rfl;exact .inl rfl
  constructor
  ·rcases h1 with h1 | h1
   ·rw[h1];rcases w1 with w | w
    ·exact .inl w
    exact .inr (by rw[w];exact aB)
   exact .inr (aq _ h1)
  rcases h2 with h2 | h2
  ·rw[h2];rcases w2 with w | w
   ·exact .inl w
   exact .inr (by rw[w];exact aB)
  exact .inr (aq _ h2)
def NH(r:Rat)(l:List Rat):(Y3 r l).1∈r::l/\(Y3 r l).2∈r::l:=by
 obtain⟨h1,h2⟩:=ON l (r,r);unfold Y3;refine⟨?_,?_⟩
 ·rcases h1 with h | h
  ·rw[h];exact aB
  exact aq _ h
 rcases h2 with h | h
 ·rw[h];exact aB
 exact aq _ h
def ZK(a b:Rat×Rat):Prop:=b.1<=a.1/\a.1<=a.2/\a.2<=b.2
def xf(h1:Wx a.1 b)(h2:Wx a.2 b)(h:a.1<=a.2):ZK a b:=⟨h1.1,h,h2.2⟩
theorem MC(a b:Rat×Rat):(Jg a b).1<=(Jg a b).2:=by
 have:=KA (r:=a.1*b.1) (l:=[a.1*b.2,a.2*b.1,a.2*b.2]) aB;exact ao this.1 this.2
theorem GG{x:Rat}(hx:Wx x a)(hy:Wx y b):Wx (x*y) (Jg a b):=by
 have c11:Wx (a.1*b.1) (Jg a b):=KA wz;have c12:Wx (a.1*b.2) (Jg a b):=KA wz;have c21:Wx (a.2*b.1) (Jg a b):=KA wz;have c22:Wx (a.2*b.2) (Jg a b):=KA wz;generalize Jg a b=t at *
 obtain⟨x1,x2⟩:=hx;obtain⟨y1,y2⟩:=hy;unfold Wx at *
 have e1:Wx (a.1*y) t:=by
  rcases bF (a:=0) (b:=a.1)with h | h
  ·have:=ah y1 h;have:=ah y2 h;unfold Wx;grind
  have h':0<=-a.1:=by grind
  have:=ah y1 h';have:=ah y2 h';unfold Wx;grind
 have e2:Wx (a.2*y) t:=by
  rcases bF (a:=0) (b:=a.2)with h | h
  ·have:=ah y1 h;have:=ah y2 h;unfold Wx;grind
  have h':0<=-a.2:=by grind
  have:=ah y1 h';have:=ah y2 h';unfold Wx;grind
 unfold Wx at e1 e2;rcases bF (a:=0) (b:=y)with h | h
 ·have:=aM x1 h;have:=aM x2 h
  grind
 have h':0<=-y:=by grind
 have:=aM x1 h';have:=aM x2 h'
 grind
def Wx.sub{x:Rat}(h:Wx x a)(k:ZK a b):Wx x b:=⟨ao k.1 h.1,ao h.2 k.2.2⟩
def ZK.ends(k:ZK a b):Wx a.1 b/\Wx a.2 b:=⟨⟨k.1,ao k.2.1 k.2.2⟩,⟨ao k.1 k.2.1,k.2.2⟩⟩
def Hg{c d:Rat×Rat}(h:ZK a c)(k:ZK b d):ZK (Jg a b) (Jg c d):=by
 obtain⟨a1,a2⟩:=h.ends;obtain⟨b1,b2⟩:=k.ends;have all:∀z∈[a.1*b.1,a.1*b.2,a.2*b.1,a.2*b.2],Wx z (Jg c d):=λz hz=>by
  simp only[ay,aI,or_false]at hz;rcases hz with rfl | rfl | rfl | rfl
  ·exact GG a1 b1
  ·exact GG a1 b2
  ·exact GG a2 b1
  exact GG a2 b2
 obtain⟨h1,h2⟩:=NH (a.1*b.1) [a.1*b.2,a.2*b.1,a.2*b.2];exact xf (all _ h1) (all _ h2) (MC a b)
def Xz{x:Rat}(h0:0<=x)(h:x<=y):∀n:Nat,x^n<=y^n
 |0=>by rw[bj,bj];exact aD
 |n+1=>by
  have ih:=Xz h0 h n;have hx:0<=x^n:=bO h0;rw[aN,aN];have h1:=ah h hx;have h2:=aM ih (ao h0 h);exact ao h1 h2
theorem neg_pow(x:Rat):∀n:Nat,(-x)^(2*n)=x^(2*n)/\(-x)^(2*n+1) = -(x^(2*n+1))
 |0=>by
  refine⟨by rw[fj,bj,bj],?_⟩;rw[aN,aN,fj,bj,bj];grind
 |n+1=>by
  obtain⟨h1,h2⟩:=neg_pow x n;have e:(-x)^(2*(n+1))=x^(2*(n+1)):=by
   rw[show 2*(n+1)=2*n+1+1 by omega,aN,h2,aN x];grind
  exact⟨e,by rw[aN,e,aN x];grind⟩
theorem xt(x:Rat):MG x.num<0↔x<0:=by
 rw[Ip];by_cases h:x<0
 ·rw[if_pos h];exact⟨λ_=>h,λ_=>wu⟩
 rw[if_neg h];refine⟨λk=>?_,λk=>absurd k h⟩;split at k<;>omega
theorem Ot(x:Rat):MG x.num>0↔0<x:=by
 rw[Ip];by_cases h:x<0
 ·rw[if_pos h];refine⟨λk=>O,λk=>?_⟩;grind
 rw[if_neg h];by_cases e:x=0
 ·rw[if_pos e];refine⟨λk=>O,λk=>?_⟩;grind
 rw[if_neg e];refine⟨λ_=>?_,λ_=>wu⟩;grind
theorem RG{x:Rat}(hx:Wx x a){n:Int}(hn:0<=n):Wx (x^n.toNat) (Vm a n):=by
 have c1:Wx (a.1^n.toNat) (Y3 (a.1^n.toNat) [a.2^n.toNat]):=KA wz;have c2:Wx (a.2^n.toNat) (Y3 (a.1^n.toNat) [a.2^n.toNat]):=KA wz;unfold Vm;generalize Y3 (a.1^n.toNat) [a.2^n.toNat]=t at *
 obtain⟨m,hm⟩:∃m,n.toNat=2*m\/n.toNat=2*m+1:=⟨n.toNat/2,O⟩;obtain⟨x1,x2⟩:=hx;unfold Wx at c1 c2;by_cases hc:(decide (n>0)&&(decide (n%2=0)&&(decide (MG a.1.num<0)&&decide (MG a.2.num>0))))=true
 ·rw[if_pos hc];simp only[ae,decide_eq_true_eq]at hc;obtain⟨_,h2,h3,h4⟩:=hc;rcases hm with hm | hm
  ·rw[hm]at c1 c2 ⊢;refine⟨?_,?_⟩
   ·rcases bF (a:=0) (b:=x)with h | h
    ·exact bO h
    rw[<-(neg_pow x m).1];exact bO (by grind)
   rcases bF (a:=0) (b:=x)with h | h
   ·exact ao (Xz h x2 _) c2.2
   have:=Xz (x:=-x) (y:=-a.1) (by grind) (by grind) (2*m);rw[(neg_pow x m).1,(neg_pow a.1 m).1]at this;exact ao this c1.2
  omega
 rw[if_neg hc];rcases hm with hm | hm
 ·rw[hm]at c1 c2 ⊢;have hside:0<=a.1\/a.2<=0\/m=0:=by
   by_cases h3:a.1<0
   ·by_cases h4:0<a.2
    ·right;right;rcases eD m with g | g
     ·exact g
     exfalso;apply hc;simp only[ae,decide_eq_true_eq];exact⟨O,O,(xt _).2 h3,(Ot _).2 h4⟩
    right;left;grind
   left;grind
  rcases hside with h | h | h
  ·exact⟨ao c1.1 (Xz h x1 _),ao (Xz (ao h x1) x2 _) c2.2⟩
  ·have p1:=Xz (x:=-a.2) (y:=-x) (by grind) (by grind) (2*m);have p2:=Xz (x:=-x) (y:=-a.1) (by grind) (by grind) (2*m);rw[(neg_pow x m).1,(neg_pow a.2 m).1]at p1;rw[(neg_pow x m).1,(neg_pow a.1 m).1]at p2;exact⟨ao c2.1 p1,ao p2 c1.2⟩
  subst h;rw[fj,bj]at c1 ⊢;exact c1
 have odd:∀ {u v:Rat},u<=v->u^(2*m+1)<=v^(2*m+1):=λ{u v} huv=>by
  rcases bF (a:=0) (b:=u)with h | h
  ·exact Xz h huv _
  rcases bF (a:=0) (b:=v)with g | g
  ·have h1:0<=(-u)^(2*m+1):=bO (by grind);have h2:0<=v^(2*m+1):=bO g;rw[(neg_pow u m).2]at h1
   grind
  have:=Xz (x:=-v) (y:=-u) (by grind) (by grind) (2*m+1);rw[(neg_pow u m).2,(neg_pow v m).2]at this
  grind
 rw[hm]at c1 c2 ⊢;exact⟨ao c1.1 (odd x1),ao (odd x2) c2.2⟩
theorem zY(a:Rat×Rat)(h:a.1<=a.2){n:Int}(hn:0<=n):(∃x,Wx x a/\(Vm a n).1=x^n.toNat)/\(∃x,Wx x a/\(Vm a n).2=x^n.toNat):=by
 obtain⟨h1,h2⟩:=NH (a.1^n.toNat) [a.2^n.toNat];have key:∀z∈[a.1^n.toNat,a.2^n.toNat],∃x,Wx x a/\z=x^n.toNat:=λz hz=>by
  simp only[ay,aI,or_false]at hz;rcases hz with rfl | rfl
  ·exact⟨a.1,⟨aD,h⟩,rfl⟩
  exact⟨a.2,⟨h,aD⟩,rfl⟩
 unfold Vm;refine⟨?_,key _ h2⟩;dsimp only;split
 ·rename_i hc;simp only[ae,decide_eq_true_eq]at hc;have h3:=(xt _).1 hc.2.2.1;have h4:=(Ot _).1 hc.2.2.2;refine⟨0,⟨fh h3,fh h4⟩,?_⟩;obtain⟨m,hm⟩:∃m,n.toNat=m+1:=⟨n.toNat-1,O⟩;rw[hm,aN,iu]
 exact key _ h1
theorem dN(a:Rat×Rat)(h:a.1<=a.2){n:Int}(hn:0<=n):(Vm a n).1<=(Vm a n).2:=by
 have:=RG (x:=a.1) (a:=a) ⟨aD,h⟩ hn;exact ao this.1 this.2
theorem dL(h:ZK a b){n:Int}(hn:0<=n):ZK (Vm a n) (Vm b n):=by
 obtain⟨⟨x,hx,e1⟩,⟨y,hy,e2⟩⟩:=zY a h.2.1 hn;exact xf (by rw[e1];exact RG (hx.sub h) hn) (by rw[e2];exact RG (hy.sub h) hn) (dN a h.2.1 hn)
section
variable{xs:List Rat}{rs bs:List (Rat×Rat)}{ks:List Int}
theorem AH{r q:Rat×Rat}(hr:ZK r q)(hk:∀k∈ks,0<=k)(hx:∀i,i<rs.length->ZK (el rs i) (el bs i)):∀m,m<=rs.length->ZK (WX r rs ks m) (WX q bs ks m)
 |0,_=>hr
 |m+1,hm=>by
  have ih:=AH hr hk hx m O;have h0:=QBv hk m;rw[GF,GF];by_cases g:Qn ks m>0
  ·rw[if_pos g,if_pos g];exact Hg ih (dL (hx m O) h0)
  rw[if_neg g,if_neg g];exact ih
theorem Pg{l:List Tm}(hl:∀t∈l,t.2.length<=rs.length/\∀k∈t.2,0<=k)(hx:∀i,i<rs.length->ZK (el rs i) (el bs i)):ZK (XM rs l) (XM bs l):=by
 have key:∀(l:List Tm) (r q:Rat×Rat),(∀t∈l,t.2.length<=rs.length/\∀k∈t.2,0<=k)->ZK r q->ZK (l.foldl (λa t=>Vv a (WX (t.1,t.1) rs t.2 t.2.length)) r) (l.foldl (λa t=>Vv a (WX (t.1,t.1) bs t.2 t.2.length)) q):=by
  intro l
  induction l with
  |nil=>intro r q _ h;exact h
  |cons t l ih =>
   intro r q hl h;obtain⟨h1,h2⟩:=hl t aB;have hv:=AH (r:=(t.1,t.1)) (q:=(t.1,t.1)) ⟨aD,aD,aD⟩ h2 hx t.2.length h1;refine ih _ _ (λu hu=>hl u (aq _ hu)) ?_;unfold ZK Vv at *
   dsimp only at *
   grind
 exact key l (0,0) (0,0) hl ⟨aD,aD,aD⟩
end
abbrev J3:=Rat×Rat
def Hq(a b:List J3):List J3:=(ai a.length).map λk=>Vv (el a k) (el b k)
def Gc(a b:List J3)(k i:Nat):J3:=(ai i).foldl (λs j=>Vv s (Jg (el a j) (el b (k-j)))) (0,0)
def WD(a b:List J3):List J3:=(ai a.length).map λk=>Gc a b k (k+1)
def Hx(a:Rat)(n:Nat):List J3:=(a,a)::hJ n (0,0)
def Zy(t:J3):Nat->List J3
 |0=>[t]
 |n+1=>t::(1,1)::hJ n (0,0)
def DE(y b:List J3)(n:Nat):List J3:=(ai n).foldl (λy _=>WD y b) y
def Wl(c:Rat)(ks:List Int)(all:List (List J3))(n i:Nat):List J3:=(ai i).foldl (λy v=>DE y (el all v) (Qn ks v).toNat) (Hx c n)
def Kc(p:List Tm)(all:List (List J3))(n:Nat):List J3:=p.foldl (λs t=>Hq s (Wl t.1 t.2 all n all.length)) (Hx 0 n)
def Jb(rs:List (List Tm))(t:J3)(box:List J3):Nat->List (List J3)
 |0=>box.map λx=>[x]
 |k+1=>(ai box.length).map λi=>el (Jb rs t box k) i++[Jg (el (Kc (el rs i) (Zy t k::Jb rs t box k) k) k) ((((k+1:Nat):Int):Rat)⁻¹,(((k+1:Nat):Int):Rat)⁻¹)]
def MK(a b:List J3):(Hq a b).length=a.length:=by simp[Hq]
def MD(a b:List J3):(WD a b).length=a.length:=by simp[WD]
def GS(a:Rat)(n:Nat):(Hx a n).length=n+1:=by simp[Hx]
def GV(t:J3)(n:Nat):(Zy t n).length=n+1:=by cases n<;>simp[Zy]
def Gu{β:Type}{f:β->α->β}{P:β->Prop}(hf:∀b a,P b->P (f b a)):∀(l:List α) {b:β},P b->P (l.foldl f b)
 |[],_,h=>h
 |a::l,b,h=>Gu hf l (hf b a h)
theorem WI(y b:List J3)(n:Nat):(DE y b n).length=y.length :=
 Gu (P:=λz:List J3=>z.length=y.length) (λz _ h=>(MD z b).trans h) (ai n) rfl
theorem Zg(c:Rat)(ks:List Int)(all:List (List J3))(n i:Nat):(Wl c ks all n i).length=n+1 :=
 Gu (P:=λz:List J3=>z.length=n+1) (λz v h=>(WI z _ _).trans h) (ai i) (GS c n)
theorem Zq(p:List Tm)(all:List (List J3))(n:Nat):(Kc p all n).length=n+1 :=
 Gu (P:=λz:List J3=>z.length=n+1) (λz t h=>(MK z _).trans h) p (GS 0 n)
def Zp(rs:List (List Tm))(t:J3)(box:List J3)(k:Nat):(Jb rs t box k).length=box.length:=by
 cases k<;>simp[Jb]
def Yj[Inhabited α]{n i:Nat}(f:Nat->α)(h:i<n):el ((ai n).map f) i=f i:=by
 rw[JW (by simpa using h)];simp
theorem Zj(rs:List (List Tm))(t:J3)(box:List J3):∀(k:Nat) {i:Nat},i<box.length->(el (Jb rs t box k) i).length=k+1
 |0,i,h=>by
  show(el (box.map λx=>[x]) i).length=1;rw[JW (by simpa using h)];simp
 |k+1,i,h=>by
  rw[Jb,Yj _ h,aj,Zj rs t box k h];rfl
theorem SN{a b c d:J3}(h:ZK a c)(k:ZK b d):ZK (Vv a b) (Vv c d):=by
 obtain⟨h1,h2,h3⟩:=h;obtain⟨k1,k2,k3⟩:=k;refine⟨?_,?_,?_⟩<;>(unfold Vv;grind)
def ZK.self{a:J3}(h:a.1<=a.2):ZK a a:=⟨aD,h,aD⟩
def YR(a b:List J3):Prop:=a.length=b.length/\∀i,i<a.length->ZK (el a i) (el b i)
def YR.of{f g:Nat->J3}(h:∀i,i<n->ZK (f i) (g i)):YR ((ai n).map f) ((ai n).map g) :=
 ⟨wz,λi hi=>by
  have hi':i<n:=by simpa using hi
  rw[Yj _ hi',Yj _ hi'];exact h i hi'⟩
def Cl(Q d b:Nat)(x:Rat):Prop:=∃z:Int,x=aU z ((Q^d:Nat):Int)/\z.natAbs<=2^b*Q^d
theorem Cl.add{Q d b:Nat}{x:Rat}(h0:0<Q)(hx:Cl Q d b x)(hy:Cl Q d b y):Cl Q d (b+1) (x+y):=by
 obtain⟨z,rfl,h1⟩:=hx;obtain⟨u,rfl,h2⟩:=hy;have hq:((Q^d:Nat):Int)≠0:=wk (eR (n:=d) h0);refine⟨z+u,?_,?_⟩
 ·rw[Rat.divInt_add_divInt _ _ hq hq,<-Int.add_mul,ek hq]
 have:(z+u).natAbs<=z.natAbs+u.natAbs:=Int.natAbs_add_le z u;rw[Nat.pow_succ];have e:2^b*2*Q^d=2^b*Q^d+2^b*Q^d:=by rw[fb,ix 2,<-fb,Nat.mul_two]
 omega
theorem Cl.mul{Q d b e:Nat}{x:Rat}(h0:0<Q)(hx:Cl Q d b x)(hy:Cl Q e c y):Cl Q (d+e) (b+c) (x*y):=by
 obtain⟨z,rfl,h1⟩:=hx;obtain⟨u,rfl,h2⟩:=hy;refine⟨z*u,?_,?_⟩
 ·rw[Rat.divInt_mul_divInt,ep];congr 1
 rw[er,ep,ep]
 calc z.natAbs*u.natAbs<=(2^b*Q^d)*(2^c*Q^e):=aX h1 h2
  _=2^b*2^c*(Q^d*Q^e):=by ac_rfl
theorem Cl.mono{Q d b e:Nat}{x:Rat}(h0:0<Q)(h:Cl Q d b x)(hd:d<=e)(hb:b<=c):Cl Q e c x:=by
 obtain⟨z,rfl,h1⟩:=h;obtain⟨k,rfl⟩:=Nat.le.dest hd;have hq:((Q^d:Nat):Int)≠0:=wk (eR (n:=d) h0);have hk:((Q^k:Nat):Int)≠0:=wk (eR (n:=k) h0);refine⟨z*((Q^k:Nat):Int),?_,?_⟩
 ·rw[ep,ia,ek hk]
 rw[er,ep,bB,<-fb];exact aX (aT h1 (fA _ (Nat.pow_le_pow_right wu hb))) (aY _)
def Cl.neg{Q d b:Nat}{x:Rat}(h:Cl Q d b x):Cl Q d b (-x):=by
 obtain⟨z,rfl,h1⟩:=h;exact⟨-z,by rw[Rat.neg_divInt],by rw[Int.natAbs_neg];exact h1⟩
theorem Cl.JU{Q d b:Nat}{x:Rat}(h0:0<Q)(h:Cl Q d b x):JU x<=b+d*sz (Q:Int)+2:=by
 obtain⟨z,rfl,h1⟩:=h;have hq:((Q^d:Nat):Int)≠0:=wk (eR (n:=d) h0);refine aT (VY hq) ?_;have e:((Q^d:Nat):Int)=(Q:Int)^d:=Int.natCast_pow Q d;have h2:sz ((Q^d:Nat):Int)<=d*sz (Q:Int)+1:=by rw[e];exact Bw _ _
 have h3:sz z<=b+1+sz ((Q^d:Nat):Int):=by
  refine aT (KX (b:=((2^b:Nat):Int)*((Q^d:Nat):Int)) (by rw[er,bB,bB];exact h1)) ?_;refine aT (K3 _ _) (Nat.add_le_add_right ?_ _);rw[XO,bB];exact Nat.pow_lt_pow_right wu O
 omega
theorem Cl.of{Q:Nat}(x:Rat)(h0:0<Q)(h:x.den ∣ Q){b:Nat}(hb:sz x.num<=b):Cl Q 1 b x:=by
 obtain⟨k,rfl⟩:=h;have hk:0<k:=Nat.pos_of_mul_pos_left h0 |> λ_=>fH (by rintro rfl;simp at h0)
 have hk':(k:Int)≠0:=O;refine⟨x.num*k,?_,?_⟩
 ·rw[iE,ia,ek hk',Rat.num_divInt_den]
 rw[iE,er,bB];have h1:=(XO x.num b).1 hb;have h2:k<=x.den*k:=Nat.le_mul_of_pos_left k x.den_pos;exact aX O h2
def XA(a b:J3):J3:=(qR a.1 b.1,qT a.2 b.2)
def DK(f:J3->J3->J3)(a b:List J3):List J3:=(ai a.length).map λi=>f (el a i) (el b i)
def L0(a b:J3):Bool:=decide (Yb b.1 a.1<=0)&&decide (Yb a.2 b.2<=0)
def U7(a b:List J3):Bool:=(ai a.length).all λi=>L0 (el a i) (el b i)
def Jv(l:List J3):Bool:=l.any λs=>Jt s.1||Jt s.2
def Z4(rs:List (List Tm))(fr t2:Rat)(x on:List J3):List J3:=(ai x.length).map λi=>Vv (el x i) (Jg (0,t2-fr) (XM ((fr,t2)::on) (el rs i)))
def SU(b:Int)(v n:J3):J3 :=
 Z7 ((XA v n).1-(((XA v n).2-(XA v n).1)*aU 1 4+(((two b:Int):Rat))⁻¹),(XA v n).2+(((XA v n).2-(XA v n).1)*aU 1 4+(((two b:Int):Rat))⁻¹)) b
def D1(rs:List (List Tm))(fr t2:Rat)(x:List J3)(b:Int):Nat->List J3->Option (List J3)
 |0,_=>none
 |k+1,v=>if Jv v=true then none else
  if U7 (Z4 rs fr t2 x v) v=true then some ((Z4 rs fr t2 x v).map (Z7 · b))else D1 rs fr t2 x b k (DK (SU b) v (Z4 rs fr t2 x v))
def Yq(rs:List (List Tm))(fr t2:Rat)(x:List J3)(b:Int):Option (List J3) :=
 D1 rs fr t2 x b 12 (DK (λu v=>Z7 (XA u v) b) x (Z4 rs fr t2 x x))
def G8(l:List J3)(h:Rat)(i:Nat):J3:=(ai i).foldl (λs k=>Vv s (Jg (el l k) (h^k,h^k))) (0,0)
def Xy(rs:List (List Tm))(fr t2:Rat)(x on:List J3)(n:Nat):List J3 :=
 (ai x.length).map λi=>Vv (G8 (el (Jb rs (fr,fr) x n) i) (t2-fr) (n+1)) (Jg (el (el (Jb rs (fr,t2) on (n+1)) i) (n+1)) ((t2-fr)^(n+1),(t2-fr)^(n+1)))
def KP(rs:List (List Tm))(fr t2:Rat)(x:List J3)(n:Nat)(b:Int):Option (List J3×List J3) :=
 (Yq rs fr t2 x b).map λw=>(w,(Xy rs fr t2 x w n).map (Z7 · b))
def Gf(rs:List (List Tm))(n:Nat)(b:Int):Rat->List J3->List Rat->Option (List (Rat×List J3×List J3))
 |_,_,[]=>some []
 |fr,x,e::es=>match KP rs fr e x n b with
  |none=>none
  |some (w,l)=>(Gf rs n b e l es).map λr=>(e,w,l)::r
theorem J8:Z5 prog 26=some (true,3):=wm
theorem xD:XE prog 26=some [.slice none 0 0,.slice none 0 0,.slice none 0 0]:=wm
theorem cA:Zz prog 26=some [(0,1),(1,1),(2,1)]:=wm
theorem Hl:YZ prog 26 0=some (0,22):=wm
theorem WZ:YZ prog 26 1=some (1,23):=wm
theorem YL:YZ prog 26 2=some (2,24):=wm
theorem DB:G9 prog 40=some 24:=wm
theorem EA:G9 prog 63=some 78:=wm
theorem YO:Z5 prog 78=some (true,3):=wm
theorem Du:XE prog 78=some [.string .empty,.slice none 0 0,.slice none 0 0]:=wm
theorem QEm:ZM prog 78=some 64:=wm
theorem Ap:Zz prog 78=some [(0,1),(1,1),(2,1)]:=wm
theorem Rj:YZ prog 78 0=some (0,27):=wm
theorem L7:YZ prog 78 1=some (1,24):=wm
theorem Uf:YZ prog 78 2=some (2,24):=wm
theorem QAP:Z5 prog 110=some (false,1):=wm
theorem W1:G9 prog 110=some 125:=wm
theorem Qj:Z5 prog 120=some (true,8):=wm
theorem Jh:XE prog 120=some [.int .i64 0,.slice none 0 0,.int .i64 0,.slice none 0 0,.int .i64 0,.slice none 0 0,.int .i64 0,.slice none 0 0]:=wm
theorem WS:ZM prog 120=some 128:=wm
theorem Z2:Zz prog 120=some [(0,4),(4,4)]:=wm
theorem Xr:YZ prog 120 0=some (0,118):=wm
theorem Xq:YZ prog 120 1=some (4,118):=wm
theorem JF:Z5 prog 122=some (false,1):=wm
theorem QDW:XE prog 122=some [.slice none 0 0]:=wm
theorem JL:G9 prog 122=some 120:=wm
theorem XG:Z5 prog 125=some (true,1):=wm
theorem WB:XE prog 125=some [.slice none 0 0]:=wm
theorem QBz:ZM prog 125=some 24:=wm
theorem zj:Zz prog 125=some [(0,1)]:=wm
theorem Xh:YZ prog 125 0=some (0,122):=wm
theorem H4:Z5 prog 131=some (true,9):=wm
theorem OY:XE prog 131=some [.int .i64 0,.slice none 0 0,.int .i64 0,.slice none 0 0,.int .i64 0,.slice none 0 0,.int .i64 0,.slice none 0 0,.slice none 0 0]:=wm
theorem zi:Zz prog 131=some [(0,4),(4,4),(8,1)]:=wm
theorem Bl:YZ prog 131 0=some (0,118):=wm
theorem Bk:YZ prog 131 1=some (4,118):=wm
theorem Bj:YZ prog 131 2=some (8,122):=wm
theorem QDV:XE prog 151=some [.slice none 0 0,.slice none 0 0]:=wm
theorem QA6:Zz prog 151=some [(0,1),(1,1)]:=wm
theorem Bi:YZ prog 151 0=some (0,149):=wm
theorem pv:YZ prog 151 1=some (1,122):=wm
theorem Ts:G9 prog 152=some 154:=wm
theorem KU:Z5 prog 154=some (true,2):=wm
theorem Mr:XE prog 154=some [.slice none 0 0,.slice none 0 0]:=wm
theorem QBy:ZM prog 154=some 48:=wm
theorem zh:Zz prog 154=some [(0,1),(1,1)]:=wm
theorem pk:YZ prog 154 0=some (0,122):=wm
theorem CT:YZ prog 154 1=some (1,122):=wm
theorem Ge:Z5 prog 235=some (true,5):=wm
theorem Sf:XE prog 235=some [.slice none 0 0,.slice none 0 0,.slice none 0 0,.int .i64 0,.slice none 0 0]:=wm
theorem QA5:Zz prog 235=some [(0,3),(3,1),(4,1)]:=wm
theorem pj:YZ prog 235 1=some (3,3):=wm
theorem Uh:YZ prog 235 2=some (4,149):=wm
theorem P4:G9 prog 265=some 122:=wm
section
open Go Go.RowKit Ig
section
variable[Dr][df:Df]{P:Program}{Q:Exit->Act->World->Prop}{N:Nat}{m:Sl}{l:List Oper}{w0:World}{F0:Gs}{bs bs0:List (Nat×Obj)}{G G0:Gs->Prop}
def Wz:List Nat->List (List Nat)
 |[]=>[[]]
 |i::A=>(Wz A).map (i::·)++Wz A
def Hw(l:List Oper)(r u:List Nat):List Nat:=(ai l.length).filter λi=>r.contains i||u.contains i
def uP(l:List Oper)(i:Nat):Option (Nat×TypeId):=match l[i]? with
 |some ⟨some d,.alloc T,_,_,_,none⟩=>some (d,T)
 |_=>none
def dI(l:List Oper)(i:Nat):Nat:=((uP l i).getD (0,0)).1
def tI(l:List Oper)(i:Nat):TypeId:=((uP l i).getD (0,0)).2
def zI(P:Program)(l:List Oper)(i:Nat):Obj:=.cells ((XE P (tI l i)).getD []).toArray (tI l i) (0,0)
def jH(P:Program)(N:Nat)(l:List Oper)(i:Nat):Bool:=(uP l i).isSome&&(XE P (tI l i)).isSome&&Hk (tI l i)&&J5 N (some (dI l i))
def DV(b:Nat):Value:=.pointer (some ⟨b,0,none⟩)
def okB(l:List Oper)(A r:List Nat)(k:Nat):Bool:=(Wz A).all λu=>(EF l (Hw l r u)).isNone&&((Hw l r u).filter (W2 l (Hw l r u))).all (λi=>u.contains i||aE i k)&&u.all (λi=>(Hw l r u).contains i&&((Hw l r u).erase i==Hw l r (u.erase i))&&(Wz A).contains (u.erase i))&&((Hw l r u).erase k==Hw l (r.erase k) u)&&!(Hw l r u).isEmpty
def QEU(l:List Oper)(A r:List Nat)(i:Nat):Bool:=(Wz A).all λu=>!(u.contains i)||((EF l (Hw l r u)).isNone&&((Hw l r u).filter (W2 l (Hw l r u))).all (λj=>u.contains j)&&u.all (λj=>(Hw l r u).contains j&&((Hw l r u).erase j==Hw l r (u.erase j))&&(Wz A).contains (u.erase j))&&!(Hw l r u).isEmpty)
def mxI(l:List Oper)(A u:List Nat)(β:Nat->Nat):Sl:=(A.filter λi=>!(u.contains i)).map λi=>(dI l i,DV (β i))
def vT(P:Program)(l:List Oper)(A u:List Nat)(β:Nat->Nat):List (Nat×Obj):=(A.filter λi=>!(u.contains i)).map λi=>(β i,zI P l i)
def KT(P:Program)(l:List Oper)(Q:Exit->Act->World->Prop)(S0:World->Prop)(A r:List Nat)(N:Nat)(m:Sl)(w0:World)(F0:Gs)(bs:List (Nat×Obj))(G:Gs->Prop):Prop :=
 ∀(u:List Nat) (β:Nat->Nat) (a:Act) (w:World),u∈Wz A->Ja N m a->(∀i∈A,i∉u->Ja N [(dI l i,DV (β i))] a)->St ⟨w0,F0,vT P l A u β++bs,G⟩ w->BK P l Q S0 (Hw l r u).length (Hw l r u) a w
theorem Ja.S4{a:Act}(h:Ja N m a){d:Nat}(hd:J5 N (some d)=true)(v:Value)(hm:look m d=none):Ja N m (a.put (some d) v):=by
 have h1:=h.put hd v;refine⟨h1.size,h1.df,λt x ht=>h1.get t x ?_⟩;show(bif aE d t then some v else look m t)=some x;have:aE d t=false:=by
  cases e:aE d t with
  |false=>rfl
  |true=>have:=aF e;subst this;rw[hm]at ht;cases ht
 rw[this];exact ht
theorem WM{d t:Nat}{v:Value}:look [(d,v)] t=(bif aE d t then some v else none):=rfl
theorem D5:∀ {A u:List Nat},u∈Wz A->∀i∈u,i∈A
 |[],u,h,i,hi=>by simp only[Wz,ey]at h;subst h;cases hi
 |a::A,u,h,i,hi=>by
  simp only[Wz,bW,eG]at h;rcases h with ⟨v,hv,rfl⟩ | h
  ·rcases List.mem_cons.1 hi with rfl | hi
   ·simp
   exact aq _ (D5 hv i hi)
  exact aq _ (D5 h i hi)
theorem WE:∀ {A u:List Nat},A.Nodup->u∈Wz A->u.Nodup
 |[],u,_,h=>by simp only[Wz,ey]at h;subst h;exact ef
 |a::A,u,hA,h=>by
  rw[fU]at hA;simp only[Wz,bW,eG]at h;rcases h with ⟨v,hv,rfl⟩ | h
  ·rw[fU];exact⟨λhm=>hA.1 (D5 hv a hm),WE hA.2 hv⟩
  exact WE hA.2 h
theorem Ss:∀A:List Nat,A∈Wz A
 |[]=>by simp[Wz]
 |a::A=>by simp only[Wz,bW,eG];exact .inl ⟨A,Ss A,rfl⟩
theorem EW{i:Nat}(hA:A.Nodup)(hu:u.Nodup)(hiA:i∈A)(hi:i∈u):(A.filter λj=>!((u.erase i).contains j)).Perm (i::A.filter λj=>!(u.contains j)):=by
 refine(eX (hA.filter _) (List.nodup_cons.2 ⟨λh=>?_,hA.filter _⟩)).2 λj=>?_
 ·have:=(List.mem_filter.1 h).2;simp[hi]at this
 rw[ay,fV,fV];simp only[aO,aJ,decide_eq_false_iff_not];rw[hu.mem_erase_iff];by_cases e:j=i
 ·subst e;simp[hiA]
 simp[e]
theorem IL{a:Act}(hA:A.Nodup)(hinj:∀j∈A,∀k∈A,dI l j=dI l k->j=k)(hB:∀j∈A,jH P N l j=true/\look m (dI l j)=none)
  (h0:bs0.Sublist bs) (hg0:∀F,G F->G0 F) (hu:u∈Wz A) (hi:i∈u) (ha:Ja N m a) (hx:∀i∈A,i∉u->Ja N [(dI l i,DV (β i))] a) (hw:St ⟨w0,F0,vT P l A u β++bs,G⟩ w) {R:Act->World->Prop}
  (k:∀β' a' w',Ja N m a'->(∀j∈A,j∉u.erase i->Ja N [(dI l j,DV (β' j))] a')->St ⟨w0,F0,vT P l A (u.erase i) β'++bs,G⟩ w'->R a' w') :
  wpOp P l.toArray (λ_ _ _=>False) i (λa' w'=>St ⟨w0,F0,bs0,G0⟩ w'/\R a' w') a w:=by
 have hiA:=D5 hu i hi;have hun:=WE hA hu;obtain⟨hb,hm⟩:=hB i hiA;simp only[jH,ae]at hb;obtain⟨⟨⟨h1,h2⟩,h3⟩,h4⟩:=hb;obtain⟨⟨d,T⟩,e⟩:=Option.isSome_iff_exists.1 h1;have ed:dI l i=d:=by unfold dI;rw[e];rfl
 have et:tI l i=T:=by unfold tI;rw[e];rfl
 obtain⟨z,ez⟩:=Option.isSome_iff_exists.1 h2;rw[et]at ez h3;rw[ed]at h4 hm;unfold uP at e;split at e
 ·rename_i d' T' ty pos aft he;simp only[Option.some.injEq,eW]at e;obtain⟨rfl,rfl⟩:=e;have ho':l.toArray[i]?=some ⟨some d',.alloc T',ty,pos,aft,none⟩:=by simpa using he
  have hS:=hw.alloc (.cells z.toArray T' (0,0)) (ZL h3);unfold wpOp;simp only[ho'];rw[if_pos (by simp[Region.wanted])];refine .inl (upon_value (Mx ez) ⟨hS.imp ((h0.trans (bm _ _)).trans (List.sublist_cons_self _ _)) hg0,?_⟩);refine k (λj=>if j=i then w.heap.size else β j) _ _ (ha.S4 h4 _ hm) (λj hj hju=>?_) ?_
  ·by_cases ej:j=i
   ·subst ej;rw[if_pos rfl,ed];have:=(ha.put h4 (DV w.heap.size));refine⟨this.size,this.df,λt x ht=>this.get t x ?_⟩;rw[WM]at ht;show(bif aE d' t then some _ else look m t)=some x;cases e2:aE d' t with
    |true=>rw[e2]at ht;exact ht
    |false=>rw[e2]at ht;cases ht
   rw[if_neg ej];refine(hx j hj λh=>hju ((hun.mem_erase_iff).2 ⟨ej,h⟩)).S4 h4 _ ?_;rw[WM];have:aE (dI l j) d'=false:=by
    cases e2:aE (dI l j) d' with
    |false=>rfl
    |true=>exact absurd (hinj j hj i hiA ((aF e2).trans ed.symm)) ej
   rw[this];rfl
  refine hS.perm ?_;have hp:=(EW hA hun hiA hi).map λj=>((if j=i then w.heap.size else β j),zI P l j);have e3:(fp (λj=>((if j=i then w.heap.size else β j),zI P l j)) (i::A.filter λj=>!(u.contains j)))=(w.heap.size,Obj.cells z.toArray T' (0,0))::vT P l A u β:=by
   rw[af,if_pos rfl];have eA:zI P l i=Obj.cells z.toArray T' (0,0):=by unfold zI;rw[et,ez];rfl
   rw[eA];refine congrArg (_::·) ?_;unfold vT;refine List.map_congr_left λj hj=>?_;have:j≠i:=λe=>by subst e;have:=(List.mem_filter.1 hj).2;simp[hi]at this
   rw[if_neg this]
  rw[e3]at hp;exact(hp.symm.append_right bs)
 cases e
theorem BJ:∀(x y:Sl) (t:Nat),look (x++y) t=(look x t).or (look y t)
 |[],_,_=>rfl
 |(s,v)::x,y,t=>by
  show(bif aE s t then some v else look (x++y) t)=(bif aE s t then some v else look x t).or (look y t);cases aE s t with
  |true=>rfl
  |false=>exact BJ x y t
theorem yE{a:Act}(ha:Ja N m a)(hx:∀i∈A,i∉u->Ja N [(dI l i,DV (β i))] a):Ja N (m++mxI l A u β) a:=by
 refine⟨ha.size,ha.df,λt v ht=>?_⟩;rw[BJ]at ht;cases e:look m t with
 |some v'=>rw[e]at ht;exact ha.get t v (by rw[e];exact ht)
 |none =>
  rw[e,eQ]at ht;unfold mxI at ht;have:∀B:List Nat,(∀i∈B,i∈A/\i∉u)->look (B.map λi=>(dI l i,DV (β i))) t=some v->a.tmps[t]?=some v:=by
   intro B
   induction B with
   |nil=>intro _ h;cases h
   |cons j B ihB =>
    intro hBj h;rw[af]at h;have h':(bif aE (dI l j) t then some (DV (β j))else look (B.map λi=>(dI l i,DV (β i))) t)=some v:=h;cases e2:aE (dI l j) t with
    |true =>
     rw[e2]at h';exact(hx j (hBj j wz).1 (hBj j wz).2).get t v (by rw[WM,e2];exact h')
    |false=>rw[e2]at h';exact ihB (λi hi=>hBj i (by simp[hi])) h'
  exact this _ (λi hi=>⟨(List.mem_filter.1 hi).1,by have:=(List.mem_filter.1 hi).2;simpa using this⟩) ht
theorem CF{a:Act}{nw:Sl}(hinj:∀j∈A,∀k∈A,dI l j=dI l k->j=k)(hB:∀j∈A,look m (dI l j)=none)(hnew:∀j∈A,look nw (dI l j)=none)(g1:Ja N (nw++(m++mxI l A u β)) a):Ja N (nw++m) a/\∀i∈A,i∉u->Ja N [(dI l i,DV (β i))] a:=by
 refine⟨⟨g1.size,g1.df,λt v ht=>g1.get t v ?_⟩,λj hj hju=>⟨g1.size,g1.df,λt v ht=>g1.get t v ?_⟩⟩
 ·rw[<-bQ,BJ,ht];rfl
 rw[WM]at ht;cases e2:aE (dI l j) t with
 |false=>rw[e2]at ht;cases ht
 |true =>
  rw[e2]at ht;have e3:=aF e2;subst e3;rw[BJ,hnew j hj,eQ,BJ,hB j hj,eQ];unfold mxI;have:∀B:List Nat,j∈B->(∀i∈B,i∈A)->look (B.map λi=>(dI l i,DV (β i))) (dI l j)=some (DV (β j)):=by
   intro B
   induction B with
   |nil=>intro h;cases h
   |cons i B ihB =>
    intro h hBA;show(bif aE (dI l i) (dI l j)then some (DV (β i))else look (B.map λi=>(dI l i,DV (β i))) (dI l j))=_;cases e4:aE (dI l i) (dI l j)with
    |true=>rw[hinj i (hBA i wz) j hj (aF e4)];rfl
    |false =>
     rcases List.mem_cons.1 h with rfl | h
     ·simp at e4
     exact ihB h λi hi=>hBA i (by simp[hi])
  rw[this _ (List.mem_filter.2 ⟨hj,by simpa using hju⟩) (λi hi=>(List.mem_filter.1 hi).1)];exact ht
theorem Ch{r:List Nat}(k:Nat){o:Oper}{γ:Type}{new:γ->Sl}{bs1:γ->List (Nat×Obj)}{G1:γ->Gs->Prop}(hok:okB l A r k=true)(hA:A.Nodup)(hinj:∀j∈A,∀k∈A,dI l j=dI l k->j=k)(hB:∀j∈A,jH P N l j=true/\look m (dI l j)=none)
  (h0:bs0.Sublist bs) (hg0:∀F,G F->G0 F) (ho:l[k]?=some o) (hq:J2 o.op=false) (hkA:k∉A) (hnew:∀c,∀j∈A,look (new c) (dI l j)=none)
  (hstep:∀(mX:Sl) (X:List (Nat×Obj)) (K:Act->World->Prop),(∀c a w,Ja N (new c++(m++mX)) a->St ⟨w0,F0,X++bs1 c,G1 c⟩ w->K a w)->JD P l.toArray (ZT K) ⟨w0,F0,bs0,G0⟩ [o] N (m++mX) ⟨w0,F0,X++bs,G⟩)
  (hk:∀c,KT P l Q (St ⟨w0,F0,bs0,G0⟩) A (r.erase k) N (new c++m) w0 F0 (bs1 c) (G1 c)):KT P l Q (St ⟨w0,F0,bs0,G0⟩) A r N m w0 F0 bs G:=by
 intro u;generalize hn:u.length=n
 induction n using fY generalizing u with
 |ind n ih =>
  intro β a w hu ha hx hw;have hoku:=List.all_eq_true.1 hok u hu;simp only[ae,aO]at hoku;obtain⟨⟨⟨⟨c1,c2⟩,c3⟩,c4⟩,c5⟩:=hoku;have hun:=WE hA hu;obtain⟨x,s,es⟩:=bh (show Hw l r u≠[]from λe=>by rw[e]at c5;cases c5);rw[show(Hw l r u).length=s.length+1 by rw[es];rfl];unfold BK;rw[Option.isNone_iff_eq_none.1 c1];intro i hi hrd;have h2:=List.all_eq_true.1 c2 i (List.mem_filter.2 ⟨hi,hrd⟩);simp only[bA,aJ,decide_eq_true_eq]at h2;have hlen:s.length=((Hw l r u).erase i).length:=by rw[aG hi,es];rfl
  rw[hlen];by_cases hiu:i∈u
  ·have h3:=List.all_eq_true.1 c3 i hiu;simp only[ae,aJ,decide_eq_true_eq,beq_iff_eq]at h3;rw[h3.1.2];refine IL hA hinj hB h0 hg0 hu hiu ha hx hw λβ' a' w' g1 g2 g3=>?_;exact ih _ (by rw[<-hn,aG hiu];have:=bU hiu;omega) (u.erase i) rfl β' a' w' h3.2 g1 g2 g3
  have eik:i=k:=aF (h2.resolve_left hiu);subst eik;rw[beq_iff_eq]at c4;rw[c4];refine Pl (r':=Hw l (r.erase i) u) (Q:=Q) (E0:=⟨w0,F0,bs0,G0⟩) ho hq (hstep (mxI l A u β) (vT P l A u β) _ λc a' w' g1 g2=>?_) (λw h=>h.imp (h0.trans (bm _ _)) hg0) (yE ha hx) hw;obtain⟨g3,g4⟩:=CF hinj (λj hj=>(hB j hj).2) (hnew c) g1;exact hk c u β a' w' hu g3 g4 g2
def qtB(l:List Oper)(A r:List Nat)(j:Nat):Bool:=(Wz A).all λu=>(EF l (Hw l r u)==some j)&&((Hw l r u).erase j==Hw l (r.erase j) u)&&!(Hw l r u).isEmpty&&(Hw l r u).contains j
theorem vA{r:List Nat}(j:Nat){o:Oper}{d:Nat}{v:Value}(hok:qtB l A r j=true)(hinj:∀j∈A,∀k∈A,dI l j=dI l k->j=k)(hB:∀j∈A,look m (dI l j)=none)(h0:bs0.Sublist bs)(hg0:∀F,G F->G0 F)(ho:l[j]?=some o)(hq:J2 o.op=true)(hnew:∀j∈A,look [(d,v)] (dI l j)=none)
  (hstep:∀(mX:Sl) (X:List (Nat×Obj)) (K:Act->World->Prop),(∀a w,Ja N ((d,v)::(m++mX)) a->St ⟨w0,F0,X++bs,G⟩ w->K a w)->JD P l.toArray (ZT K) ⟨w0,F0,bs0,G0⟩ [o] N (m++mX) ⟨w0,F0,X++bs,G⟩)
  (hk:KT P l Q (St ⟨w0,F0,bs0,G0⟩) A (r.erase j) N ((d,v)::m) w0 F0 bs G):KT P l Q (St ⟨w0,F0,bs0,G0⟩) A r N m w0 F0 bs G:=by
 intro u β a w hu ha hx hw;have hoku:=List.all_eq_true.1 hok u hu;simp only[ae,aO,beq_iff_eq,aJ,decide_eq_true_eq]at hoku;obtain⟨⟨⟨c1,c2⟩,c3⟩,c4⟩:=hoku;obtain⟨x,s,es⟩:=bh (show Hw l r u≠[]from λe=>by rw[e]at c3;cases c3);have hlen:s.length=((Hw l r u).erase j).length:=by rw[aG c4,es];rfl
 rw[show(Hw l r u).length=s.length+1 by rw[es];rfl];unfold BK;rw[c1];have h:=hstep (mxI l A u β) (vT P l A u β) (λa w=>BK P l Q (St ⟨w0,F0,bs0,G0⟩) s.length ((Hw l r u).erase j) a w) (λa' w' g1 g2=>by
  obtain⟨g3,g4⟩:=CF (nw:=[(d,v)]) hinj hB hnew g1;rw[hlen,c2];exact hk u β a' w' hu g3 g4 g2) (λw h=>h.imp (h0.trans (bm _ _)) hg0) a w (yE ha hx) hw
 rcases h with ⟨_,v',h1,h2⟩ | ⟨h1,_⟩
 ·exact⟨o,v',ho,h1,h2⟩
 rw[hq]at h1;cases h1
theorem vB{r:List Nat}(i:Nat)(hf:QEU l (i::A) r i=true)(hA:(i::A).Nodup)(hinj:∀j∈i::A,∀k∈i::A,dI l j=dI l k->j=k)(hB:∀j∈i::A,jH P N l j=true/\look m (dI l j)=none)
  (h0:bs0.Sublist bs) (hg0:∀F,G F->G0 F) {d:Nat} {z:Obj} (hd:dI l i=d) (hz:zI P l i=z) (hk:∀b,KT P l Q (St ⟨w0,F0,bs0,G0⟩) A r N ((d,.pointer (some ⟨b,0,none⟩))::m) w0 F0 ((b,z)::bs) G):KT P l Q (St ⟨w0,F0,bs0,G0⟩) (i::A) r N m w0 F0 bs G:=by
 subst hd hz;have hiA:=(List.nodup_cons.1 hA).1;intro u;generalize hn:u.length=n
 induction n using fY generalizing u with
 |ind n ih =>
  intro β a w hu ha hx hw;have hun:=WE hA hu;by_cases hiu:i∈u
  ·have hoku:=List.all_eq_true.1 hf u hu;simp only[bA,aO,aJ,decide_eq_false_iff_not,hiu,not_true_eq_false,false_or,ae]at hoku;obtain⟨⟨⟨c1,c2⟩,c3⟩,c5⟩:=hoku;obtain⟨x,s,es⟩:=bh (show Hw l r u≠[]from λe=>by rw[e]at c5;cases c5);rw[show(Hw l r u).length=s.length+1 by rw[es];rfl];unfold BK;rw[Option.isNone_iff_eq_none.1 c1];intro j hj hrd;have hju:=List.all_eq_true.1 c2 j (List.mem_filter.2 ⟨hj,hrd⟩);simp only[decide_eq_true_eq]at hju;have h3:=List.all_eq_true.1 c3 j hju;simp only[ae,aJ,decide_eq_true_eq,beq_iff_eq]at h3;have hlen:s.length=((Hw l r u).erase j).length:=by rw[aG hj,es];rfl
   rw[hlen,h3.1.2];refine IL hA hinj hB h0 hg0 hu hju ha hx hw λβ' a' w' g1 g2 g3=>?_;exact ih _ (by rw[<-hn,aG hju];have:=bU hju;omega) (u.erase j) rfl β' a' w' h3.2 g1 g2 g3
  have huA:u∈Wz A:=by
   simp only[Wz,bW,eG]at hu;rcases hu with ⟨v,_,rfl⟩ | hu
   ·exact absurd wz hiu
   exact hu
  have hs:=hx i wz hiu;refine hk (β i) u β a w huA ⟨ha.size,ha.df,λt v ht=>?_⟩ (λj hj hju=>hx j (by simp[hj]) hju) ?_
  ·have h':(bif aE (dI l i) t then some (DV (β i))else look m t)=some v:=ht;cases e:aE (dI l i) t with
   |true=>rw[e]at h';exact hs.get t v (by rw[WM,e];exact h')
   |false=>rw[e]at h';exact ha.get t v h'
  refine hw.perm ?_;unfold vT;rw[fO,if_pos (by simpa using hiu),af,ab];exact List.perm_middle.symm
theorem Kq{r R:List Nat}(hm:Hw l r A=R)(h:KT P l Q (St ⟨w0,F0,bs0,G0⟩) A r N m w0 F0 bs G):JT P l Q ⟨w0,F0,bs0,G0⟩ R N m ⟨w0,F0,bs,G⟩:=by
 subst hm;intro _ a w ha hw;refine h A (λ_=>0) a w (Ss A) ha (λi hi hn=>absurd hi hn) ?_;have:vT P l A A (λ_=>0)=[]:=by
  unfold vT;rw[List.filter_eq_nil_iff.2 (λi hi=>by simpa using hi)];rfl
 rw[this];exact hw
theorem V4(h:Fin Q .normal N m ⟨w0,F0,bs,G⟩)(hm:Hw l [] []=[]){S0:World->Prop}:KT P l (ZT (Q .normal)) S0 [] [] N m w0 F0 bs G:=by
 intro u β a w hu ha hx hw;simp only[Wz,ey]at hu;subst hu;rw[hm];exact h a w ha hw
def Bt(P:Program)(N:Nat)(l:List Oper)(A:List Nat):Bool:=A.all (λj=>jH P N l j)&&A.all (λj=>A.all λk=>!(aE (dI l j) (dI l k))||aE j k)&&decide A.Nodup
def yb(l:List Oper)(m:Sl)(A:List Nat):Bool:=A.all λj=>!((m.map (·.1)).contains (dI l j))
theorem TJ:∀ {m:Sl} {t:Nat},(m.map (·.1)).contains t=false->look m t=none
 |[],_,_=>rfl
 |(k,v)::m,t,h=>by
  rw[af,List.contains_cons,Bool.or_eq_false_iff]at h;show(bif aE k t then some v else look m t)=none;have:aE k t=false:=by
   cases e:aE k t with
   |false=>rfl
   |true=>have:=aF e;subst this;simp at h
  rw[this];exact TJ h.2
theorem Vu(h:Bt P N l A=true)(hk:yb l m A=true):A.Nodup/\(∀j∈A,∀k∈A,dI l j=dI l k->j=k)/\∀j∈A,jH P N l j=true/\look m (dI l j)=none:=by
 simp only[Bt,ae,decide_eq_true_eq]at h;obtain⟨⟨h1,h2⟩,h3⟩:=h;refine⟨h3,λj hj k hk e=>?_,λj hj=>⟨List.all_eq_true.1 h1 j hj,TJ ?_⟩⟩
 ·have h4:=List.all_eq_true.1 (List.all_eq_true.1 h2 j hj) k hk;rw[e]at h4;simpa using h4
 have h4:=List.all_eq_true.1 hk j hj;simpa using h4
section
variable{A r:List Nat}{ty:TypeId}{pos:String}{aft:Array Edge}
theorem XJ(k:Nat){d:Nat}{f:FuncId}{args:Array Operand}{tys:Array TypeId}{vs:List Value}{γ:Type}{val:γ->Value}{fact:γ->Gs->Prop}(hok:okB l A r k=true)(hall:Bt P N l A=true)(hkey:yb l m A=true)(h0:bs0.Sublist bs)(hg0:∀F,G F->G0 F)
  (ho:l[k]?=some ⟨some d,.call ⟨.value (.func f),args,tys⟩,ty,pos,aft,none⟩) (hkA:A.contains k=false) (hdA:A.all (λj=>!(aE d (dI l j)))=true) (hv:∀mX,E3 (m++mX) args.toList=some vs) (hc:∀w F,Fits F w->G F->QV P f vs w F val fact)
  (hk:∀c,KT P l Q (St ⟨w0,F0,bs0,G0⟩) A (r.erase k) N ((d,val c)::m) w0 F0 bs λF=>G F/\fact c F) (hd:J5 N (some d)=true:=by rfl):KT P l Q (St ⟨w0,F0,bs0,G0⟩) A r N m w0 F0 bs G:=by
 obtain⟨g1,g2,g3⟩:=Vu hall hkey;refine Ch (γ:=γ) (new:=λc=>[(d,val c)]) (bs1:=λ_=>bs) (G1:=λc F=>G F/\fact c F) k hok g1 g2 g3 h0 hg0 ho rfl (by simpa using hkA) (λc j hj=>?_) (λmX X K hK=>QP (hv mX) hc (λc=>OU (hK c)) hd) hk;have:=List.all_eq_true.1 hdA j hj;rw[WM];simp only[aO]at this;rw[this];rfl
theorem jO(j:Nat){d:Nat}{o:Op}{v:Value}(hok:qtB l A r j=true)(hall:Bt P N l A=true)(hkey:yb l m A=true)(h0:bs0.Sublist bs)(hg0:∀F,G F->G0 F)(ho:l[j]?=some ⟨some d,o,ty,pos,aft,none⟩)(hdA:A.all (λj=>!(aE d (dI l j)))=true)
  (hqt:∀mX,Qt P N (m++mX) (St ⟨w0,F0,bs0,G0⟩) o ty v) (hk:KT P l Q (St ⟨w0,F0,bs0,G0⟩) A (r.erase j) N ((d,v)::m) w0 F0 bs G) (hq:J2 o=true:=by rfl) (hd:J5 N (some d)=true:=by rfl):KT P l Q (St ⟨w0,F0,bs0,G0⟩) A r N m w0 F0 bs G:=by
 obtain⟨g1,g2,g3⟩:=Vu hall hkey;refine vA j hok g2 (λj hj=>(g3 j hj).2) h0 hg0 ho hq (λj hj=>?_) (λmX X K hK=>QK (hqt mX) (OU hK) hq hd) hk;have:=List.all_eq_true.1 hdA j hj;rw[WM];simp only[aO]at this;rw[this];rfl
theorem Ho.skip{l r:List (Nat×Obj)}{b:Nat}{o:Obj}{f:Obj->List (Nat×Obj)}(h:Ho l b o f r):∀p:List (Nat×Obj),Ho (p++l) b o (λo'=>p++f o') (p++r)
 |[]=>h
 |_::p=>.there (h.skip p)
theorem Zw(k:Nat){T T':TypeId}{x y:Operand}{v:Value}{b off n:Nat}{c vs l':List Value}{g:Bool}{f:Obj->List (Nat×Obj)}{bs':List (Nat×Obj)}(hok:okB l A r k=true)(hall:Bt P N l A=true)(hkey:yb l m A=true)(h0:bs0.Sublist bs)(hg0:∀F,G F->G0 F)
  (ho:l[k]?=some ⟨none,.store T x y,ty,pos,aft,none⟩) (hkA:A.contains k=false) (hx:∀mX,ev (m++mX) x=some (.pointer (some ⟨b,off,none⟩))) (hy:∀mX,ev (m++mX) y=some v) (hv:v.cells=vs.toArray) (ht:Z5 P T=some (g,n)) (hn:vs.length=n)
  (hw:Ho bs b (.cells c.toArray T' (0,0)) f bs') (hs:bs0.Sublist bs') (hp:K8 c off vs l') (h1:RO vs) (hk:KT P l Q (St ⟨w0,F0,bs0,G0⟩) A (r.erase k) N m w0 F0 (f (.cells l'.toArray T' (0,0))) G) (hu:Hk T'=true:=by rfl):KT P l Q (St ⟨w0,F0,bs0,G0⟩) A r N m w0 F0 bs G:=by
 obtain⟨g1,g2,g3⟩:=Vu hall hkey;exact Ch (γ:=Unit) (new:=λ_=>[]) (bs1:=λ_=>f (.cells l'.toArray T' (0,0))) (G1:=λ_=>G) k hok g1 g2 g3 h0 hg0 ho rfl (by simpa using hkA) (λ_ j hj=>rfl)
  (λmX X K hK=>JR (hx mX) (hy mX) hv ht hn (hw.skip X) (hs.trans (bm _ _)) hg0 hp h1 (OU (hK ())) hu) λ_=>hk
theorem K9(i:Nat)(hf:QEU l (i::A) r i=true)(hall:Bt P N l (i::A)=true)(hkey:yb l m (i::A)=true)(h0:bs0.Sublist bs)(hg0:∀F,G F->G0 F){d:Nat}{z:List Value}{T:TypeId}(hd:dI l i=d)(ht:tI l i=T)(hz:XE P T=some z)
  (hk:∀b,KT P l Q (St ⟨w0,F0,bs0,G0⟩) A r N ((d,.pointer (some ⟨b,0,none⟩))::m) w0 F0 ((b,.cells z.toArray T (0,0))::bs) G):KT P l Q (St ⟨w0,F0,bs0,G0⟩) (i::A) r N m w0 F0 bs G:=by
 obtain⟨g1,g2,g3⟩:=Vu hall hkey;exact vB i hf g1 g2 g3 h0 hg0 hd (by unfold zI;rw[ht,hz];rfl) hk
end
end
end
theorem BX(b:Int):(((2:Int):Rat))^b.toNat=((two b:Int):Rat):=by
 unfold two;generalize b.toNat=n
 induction n with
 |zero=>rfl
 |succ n ih=>rw[aN,ih,iy,fX]
def yB(r:Rat×Rat)(b:Int):Z7 r b=(((r.1*(((2:Int):Rat))^b.toNat).floor:Rat)/(((2:Int):Rat))^b.toNat,((-(-(r.2*(((2:Int):Rat))^b.toNat)).floor:Int):Rat)/(((2:Int):Rat))^b.toNat):=by
 unfold Z7;rw[BX,eI,eI]
def UO(x y:Rat):UP x y=qR x y:=by
 unfold UP qR;by_cases h:y<x
 ·rw[if_pos ((Wp y x).2 h),if_neg (by rw[Hr];exact Rat.not_le.2 h)]
 rw[if_neg (by rw[Wp];exact h),if_pos ((Hr x y).2 (Rat.not_lt.1 h))]
def UY(x y:Rat):N2 x y=qT x y:=by
 unfold N2 qT;by_cases h:x<y
 ·rw[if_pos ((WV y x).2 h),if_neg (wk<|(Wp x y).2 h)]
 rw[if_neg (by rw[WV];exact h),if_pos (by have h2:=mt (Wp x y).1 h;omega)]
def qU(a:Rat×Rat):Rat:=[-a.1,a.1,-a.2].foldl N2 a.2
def gW(x:Rat):JU ((x.floor:Int):Rat)<=JU x+1:=by
 have:=Gh x.floor;have:=P0 x;omega
def ga(x:Rat):JU ((-(-x).floor:Int):Rat)<=JU x+1:=by
 have h1:=Gh (-(-x).floor);rw[VZ]at h1;have:=P0 (-x);rw[Vk]at this;omega
def KS{P:α->Prop}{a:α}(h:P a):∀p∈[a],P p:=λp hp=>by rw[List.mem_singleton.1 hp];exact h
def Eo{P:α->Prop}{a b c:α}(h:P a)(k:P b)(l:P c):∀p∈[a,b,c],P p:=λp hp=>by
 simp only[ay,aI,or_false]at hp;rcases hp with rfl | rfl | rfl
 ·exact h
 ·exact k
 exact l
theorem Kd{x:Fr}{r:Rat}(hF:Fits F w)(h:JN F x r):Xn prog 116 [x.v] w F (r,r):=by
 refine QV.intro (G:=λF=>JN F x r) func116 rfl wy rfl rfl hF (λF' hF'=>h.le hF')<|QI7<|Qs rfl (vs:=[_,_,_,_]) rfl λb1=>Qc Jh λb2=>QHz<|QI7<|QA (wJ I QN .u1)<|QA (wJ I QN .u1)<|QA (Q2 rfl Z2 Jh (.cons (vs:=[_,_,_,_]) rfl rfl rfl .h4 (.cons (vs:=[_,_,_,_]) rfl rfl rfl (.skip (.skip (.skip (.skip .h4)))) .nil)))<|QU (vs:=[_,_,_,_,_,_,_,_]) rfl rfl rfl Qj rfl .here .h8 wZ<|QHz<|QY ?_
 exact QS (⟨x,x⟩) I (.JX (c:=[_,_,_,_,_,_,_,_]) I Qj .here .nil) (rfl) λF h=>⟨h,h⟩
theorem CV{lo hi:List UInt8}(hF:Fits F w)(hGl:JE F)(h1:Jk lo=0)(h2:Jk hi=0)(hl:lo.length<=1000000/\hi.length<=1000000):Xn prog 67 [.agg #[tx lo,tx hi]] w F (Qo lo,Qo hi):=by
 refine QV.intro (G:=λF=>JE F) func67 rfl wy rfl rfl hF (λF' hF'=>hGl.le hF')<|QI7<|Qs rfl (vs:=[_,_]) rfl λb1=>Qc Jh λb2=>QHz<|QG<|JH (.cons _ tC) mixed wm<|QK (QH rfl B4 JP)<|QK (Qf rfl JP .here .h1)<|QP rfl (λ_ _ f k=>Kj (s:=lo) (r:=Qo lo) f k (XH h1).1 O) λc5=>QK (QH rfl De JP)<|QK (Qf rfl JP .here (.skip .h1))<|QP rfl (λ_ _ f k=>Kj (s:=hi) (r:=Qo hi) f k.1 (XH h2).1 O) λc8=>QK (Q2 rfl Z2 Jh (.cons (vs:=[_,_,_,_]) rfl rfl rfl .h4 (.cons (vs:=[_,_,_,_]) rfl rfl rfl (.skip (.skip (.skip (.skip .h4)))) .nil)))<|JR (vs:=[_,_,_,_,_,_,_,_]) rfl rfl rfl Qj rfl .here tC (λ_ h=>h.1.1) .h8 wZ<|Q7<|QC<|QY ?_
 exact QS (⟨c5,c8⟩) I (.JX (c:=[_,_,_,_,_,_,_,_]) I Qj .here .nil) (rfl) λF h9=>⟨h9.1.2,h9.2⟩
theorem p4{x:Sp}(hF:Fits F w)(hGl:JE F)(h:Ji F x a)(hza:XN a 100000000):Qg prog 142 [x.v] w F (.agg #[tx (Js a.1),tx (Js a.2)]):=by
 refine QV.intro (G:=λF=>JE F/\Ji F x a) func142 rfl wy rfl rfl hF (λF' hF'=>⟨hGl.le hF',h.le hF'⟩)<|QI7<|Qs rfl (vs:=[_,_,_,_,_,_,_,_]) rfl λb1=>Qc Xe λb2=>QHz<|QG<|JH (.cons _ tC) mixed wm<|QK (QH rfl Xr QN)<|QK (wJ I QN .here)<|QP rfl (λ_ _ f k=>N4 (x:=x.lo) (r:=a.1) f k.1 k.2.1 hza.1) λ_=>QK (QH rfl Xq QN)<|QK (wL I QN .here)<|QP rfl (λ_ _ f k=>N4 (x:=x.hi) (r:=a.2) f k.1.1 k.1.2.2 hza.2) λ_=>QK (Q2 rfl ZZ Xe (wP rfl rfl rfl))<|JR (vs:=[_,_]) rfl rfl rfl Jq rfl .here tC (λ_ h=>h.1.1) .h2 wT<|Q7<|QC<|QY ?_
 exact QS (()) I (.JX (c:=[_,_]) I Jq .here .nil) (rfl) w8
theorem Fy{x:Sp}(hF:Fits F w)(hGl:JE F)(h:Ji F x a)(hza:XN a 100000000):Qg prog 141 [x.v] w F (.bool (Jt a.1||Jt a.2)):=by
 refine QV.intro (G:=λF=>JE F/\Ji F x a) func141 rfl wy rfl rfl hF (λF' hF'=>⟨hGl.le hF',h.le hF'⟩)<|QI7<|Qs rfl (vs:=[_,_,_,_,_,_,_,_]) rfl λb1=>wQ rfl<|QI7<|QA (QH rfl Xr QN)<|QA (wJ I QN .here)<|QI rfl (λ_ _ f k=>EU (x:=x.lo) (r:=a.1) f k.1 k.2.1 hza.1) λ_=>QH0 rfl ?_
 refine Ql (t:=6) rfl (λhb6=>?_) λhb6=>?_
 ·refine QJK 8 I ?_;exact QJO I I (congrArg bJ (by rw[hb6,Bool.true_or])) w8
 refine QM I I<|QA (QH I Xq QN)<|QM I I<|QA (wL I QN .here)<|QM I I<|QI I (λ_ _ f k=>EU (x:=x.hi) (r:=a.2) f k.1.1 k.1.2.2 hza.2) λ_=>QJK 5 I ?_
 exact QJO I I (congrArg bJ (by rw[hb6,fa])) w8
theorem MZ{x y:Sp}(hF:Fits F w)(h:Ji F x a)(h':Ji F y b)(hza:XN a 100000000)(hzb:XN b 100000000):Xn prog 143 [x.v,y.v] w F (Vv a b):=by
 refine QV.intro (G:=λF=>Ji F x a/\Ji F y b) func143 rfl wy rfl rfl hF (λF' hF'=>⟨h.le hF',h'.le hF'⟩)<|QI7<|Qs rfl (vs:=[_,_,_,_,_,_,_,_]) rfl λb2=>Qs rfl (vs:=[_,_,_,_,_,_,_,_]) rfl λb3=>Qc Jh λb4=>QHz<|QG<|JH (.cons _ tC) mixed wm<|QK (QH rfl Xr QN)<|QK (wJ I QN .u1)<|QK (QH rfl Xr QN)<|QK (wJ I QN .here)<|QP rfl (λ_ _ f k=>Dd (x:=x.lo) (y:=y.lo) f k.1.1 k.2.1 hza.1 hzb.1) λc9=>QK (QH rfl Xq QN)<|QK (wL I QN .u1)<|QK (QH rfl Xq QN)<|QK (wL I QN .here)<|QP rfl (λ_ _ f k=>Dd (x:=x.hi) (y:=y.hi) f k.1.1.2 k.1.2.2 hza.2 hzb.2) λc14=>QK (Q2 rfl Z2 Jh (.cons (vs:=[_,_,_,_]) rfl rfl rfl .h4 (.cons (vs:=[_,_,_,_]) rfl rfl rfl (.skip (.skip (.skip (.skip .h4)))) .nil)))<|JR (vs:=[_,_,_,_,_,_,_,_]) rfl rfl rfl Qj rfl .here tC (λ_ h=>h.1.1) .h8 wZ<|Q7<|QC<|QY ?_
 exact QS (⟨c9,c14⟩) I (.JX (c:=[_,_,_,_,_,_,_,_]) I Qj .here .nil) (rfl) λF ⟨⟨⟨hX,hY⟩,h9⟩,h14⟩=>⟨h9,h14⟩
theorem Ui{x y:Sp}(hF:Fits F w)(h:Ji F x a)(h':Ji F y b)(hza:XN a 20000000)(hzb:XN b 20000000):Xn prog 146 [x.v,y.v] w F (Jg a b):=by
 have g1:=Yt a.1 b.1;have g2:=Yt a.1 b.2;have g3:=Yt a.2 b.1;have g4:=Yt a.2 b.2;have q1:=hza.1;have q2:=hza.2;have q3:=hzb.1;have q4:=hzb.2;refine QV.intro (G:=λF=>Ji F x a/\Ji F y b) func146 rfl wy rfl rfl hF (λF' hF'=>⟨h.le hF',h'.le hF'⟩)<|QI7<|Qs rfl (vs:=[_,_,_,_,_,_,_,_]) rfl λb2=>Qs rfl (vs:=[_,_,_,_,_,_,_,_]) rfl λb3=>Qc Jh λb4=>QHz<|QG<|Kr (r:=[0,1,2,3,4,5,6,7,8,9,10,11,12,13,14,15,16,17,18,19,20,21,22,23,24,25,26,27]) tC mixed wm rfl<|Jl 0 wm rfl rfl<|QK (QH rfl Xr QN)<|JB<|Jl 1 wm rfl rfl<|QK (wJ I QN .u2)<|JB<|Jl 2 wm rfl rfl<|QK (QH rfl Xr QN)<|JB<|Jl 3 wm rfl rfl<|QK (wJ I QN .u1)<|JB<|Jl 5 wm rfl rfl<|QK (QH rfl Xr QN)<|JB ?_
 refine Jl 6 wm rfl rfl<|QK (wJ I QN .u2)<|JB<|Jl 7 wm rfl rfl<|QK (QH I Xq QN)<|JB<|Jl 8 wm rfl rfl<|QK (wL I QN .u1)<|JB<|Jl 10 wm rfl rfl<|QK (QH I Xq QN)<|JB<|Jl 11 wm rfl rfl<|QK (wL I QN .u2)<|JB<|Jl 12 wm rfl rfl<|QK (QH I Xr QN)<|JB<|Jl 13 wm rfl rfl<|QK (wJ I QN .u1)<|JB<|Jl 15 wm rfl rfl<|QK (QH I Xq QN)<|JB<|Jl 16 wm rfl rfl ?_
 refine QK (wL I QN .u2)<|JB<|Jl 17 wm rfl rfl<|QK (QH I Xq QN)<|JB<|Jl 18 wm rfl rfl<|QK (wL I QN .u1)<|JB<|Kq (A:=[20,21,22,23]) (r:=[4,9,14,19,24,25,26,27]) wm<|XJ 4 wm wm wy tC w9 rfl rfl rfl (λ_=>rfl) (λ_ _ f k=>W5 (x:=x.lo) (y:=y.lo) f k.1.1 k.2.1 O O) λc13=>XJ 9 wm wm wy tC tA rfl rfl rfl (λ_=>rfl) (λ_ _ f k=>W5 (x:=x.lo) (y:=y.hi) f k.1.1.1 k.1.2.2 O O) λc18=>XJ 14 wm wm wy tC (λ_ h=>h.1.1) rfl rfl rfl (λ_=>rfl) (λ_ _ f k=>W5 (x:=x.hi) (y:=y.lo) f k.1.1.1.2 k.1.1.2.1 O O) λc23=>XJ 19 wm wm wy tC (λ_ h=>h.1.1.1) rfl rfl rfl (λ_=>rfl) (λ_ _ f k=>W5 (x:=x.hi) (y:=y.hi) f k.1.1.1.1.2 k.1.1.1.2.2 O O) λc28=>K9 20 (d:=5) (T:=118) wm wm wy tC (λ_ h=>h.1.1.1.1) wm wm Jy λb5=>K9 21 (d:=6) (T:=118) wm wm wy (.cons _ tC) (λ_ h=>h.1.1.1.1) wm wm Jy λb6=>K9 22 (d:=7) (T:=118) wm wm wy (.cons _ (.cons _ tC)) (λ_ h=>h.1.1.1.1) wm wm Jy λb7=>K9 23 (d:=8) (T:=118) wm wm wy (.cons _ (.cons _ (.cons _ tC))) (λ_ h=>h.1.1.1.1) wm wm Jy λb8=>Zw (vs:=[_,_,_,_]) 24 wm wm wy (.cons _ (.cons _ (.cons _ (.cons _ tC)))) (λ_ h=>h.1.1.1.1) rfl rfl (λ_=>rfl) (λ_=>rfl) rfl QN I .u3 (.cons _ (.cons _ (.cons _ tC))) .h4 wV<|Zw (vs:=[_,_,_,_]) 25 wm wm wy (.cons _ (.cons _ (.cons _ (.cons _ tC)))) (λ_ h=>h.1.1.1.1) rfl rfl (λ_=>rfl) (λ_=>rfl) rfl QN I .u2 (.cons _ (.cons _ (.cons _ tC))) .h4 wV<|Zw (vs:=[_,_,_,_]) 26 wm wm wy (.cons _ (.cons _ (.cons _ (.cons _ tC)))) (λ_ h=>h.1.1.1.1) rfl rfl (λ_=>rfl) (λ_=>rfl) rfl QN I .u1 (.cons _ (.cons _ (.cons _ tC))) .h4 wV<|Zw (vs:=[_,_,_,_]) 27 wm wm wy (.cons _ (.cons _ (.cons _ (.cons _ tC)))) (λ_ h=>h.1.1.1.1) rfl rfl (λ_=>rfl) (λ_=>rfl) rfl QN I .here (.cons _ (.cons _ (.cons _ tC))) .h4 wV ?_
 refine V4 ?_ wm;refine QC<|QG<|Kr (r:=[0,1,2,3,4,5,6,7,8,9,10,11,12,13]) (.cons_cons _ (.cons_cons _ (.cons_cons _ (.cons_cons _ (.cons _ tC))))) mixed wm rfl<|Jl 0 wm rfl rfl<|QK (wJ I QN .u3)<|JB<|Jl 1 wm rfl rfl<|QK (wJ I QN .u2)<|JB<|Jl 2 wm rfl rfl<|QK (wJ I QN .u1)<|JB<|Jl 3 wm rfl rfl<|QK (wJ I QN .here)<|JB<|Jl 6 wm rfl rfl<|QK (wJ I QN .u3)<|JB<|Jl 7 wm rfl rfl<|QK (wJ I QN .u2)<|JB<|Jl 8 wm rfl rfl<|QK (wJ I QN .u1)<|JB<|Jl 9 wm rfl rfl ?_
 refine QK (wJ I QN .here)<|JB ?_
 refine NR 4 10 wm wm rfl rfl rfl rfl rfl rfl ?_ ?_
 ·refine Qp I (Q4 XZ) QN Jy I I (λb33=>?_) (λw h=>h.imp (.cons_cons _ (.cons_cons _ (.cons_cons _ (.cons_cons _ (.cons _ tC))))) w9);refine JB ?_;refine NR 5 10 wm wm rfl rfl rfl rfl rfl rfl ?_ ?_
  ·refine QP I (λ_ _ f k=>Vo (x:=c13) (r:=a.1*b.1) (ps:=[(c18,a.1*b.2),(c23,a.2*b.1),(c28,a.2*b.2)]) f k.1.1.1.1.2 (Qx.of (n:=3) (sz:=4) (cs:=ak (λe:Fr×Rat=>Kl e.1) [(c18,a.1*b.2),(c23,a.2*b.1),(c28,a.2*b.2)]) k.2 I) (Eo k.1.1.1.2 k.1.1.2 k.1.2) rfl wu ⟨O,Eo (show JU (a.1*b.2)<=100000000 by omega) (show JU (a.2*b.1)<=100000000 by omega) (show JU (a.2*b.2)<=100000000 by omega)⟩) (λc34=>JB<|Xa 10 wm wm rfl rfl rfl ?_);refine Qp I (Q4 XZ) QN Jy I I (λb39=>?_) (λw h=>h.imp (.cons_cons _ (.cons_cons _ (.cons_cons _ (.cons_cons _ (.cons _ tC))))) λF h=>h.1.1);refine JB<|Xa 11 wm wm rfl rfl rfl<|QP I (λ_ _ f k=>Xm (x:=c13) (r:=a.1*b.1) (ps:=[(c18,a.1*b.2),(c23,a.2*b.1),(c28,a.2*b.2)]) f k.1.1.1.1.1.1.2 (Qx.of (n:=3) (sz:=4) (cs:=ak (λe:Fr×Rat=>Kl e.1) [(c18,a.1*b.2),(c23,a.2*b.1),(c28,a.2*b.2)]) k.2 I) (Eo k.1.1.1.1.1.2 k.1.1.1.1.2 k.1.1.1.2) rfl wu ⟨O,Eo (show JU (a.1*b.2)<=100000000 by omega) (show JU (a.2*b.1)<=100000000 by omega) (show JU (a.2*b.2)<=100000000 by omega)⟩) λc40=>JB<|Jl 12 wm rfl rfl<|QK (Q2 I Z2 Jh (.cons (vs:=[_,_,_,_]) I I I .h4 (.cons (vs:=[_,_,_,_]) I I I (.skip (.skip (.skip (.skip .h4)))) .nil)))<|JB<|Xa 13 wm wm rfl rfl rfl<|JR (vs:=[_,_,_,_,_,_,_,_]) I I I Qj I .u4 tC (λ_ h=>h.1.1.1.1) .h8 wZ<|JB<|Yk<|QC<|QY ?_
   exact QS (⟨c34,c40⟩) I (.JX (c:=[_,_,_,_,_,_,_,_]) I Qj .u4 .nil) (rfl) λF h9=>by unfold Jg;rw[ZN];exact⟨h9.1.1.2,h9.2⟩
  refine Qp I (Q4 XZ) QN Jy I I (λb39=>?_) (λw h=>h.imp (.cons_cons _ (.cons_cons _ (.cons_cons _ (.cons_cons _ (.cons _ tC))))) tA);refine JB<|Xa 5 wm wm rfl rfl rfl<|QP I (λ_ _ f k=>Vo (x:=c13) (r:=a.1*b.1) (ps:=[(c18,a.1*b.2),(c23,a.2*b.1),(c28,a.2*b.2)]) f k.1.1.1.1.1.2 (Qx.of (n:=3) (sz:=4) (cs:=ak (λe:Fr×Rat=>Kl e.1) [(c18,a.1*b.2),(c23,a.2*b.1),(c28,a.2*b.2)]) k.1.2 I) (Eo k.1.1.1.1.2 k.1.1.1.2 k.1.1.2) rfl wu ⟨O,Eo (show JU (a.1*b.2)<=100000000 by omega) (show JU (a.2*b.1)<=100000000 by omega) (show JU (a.2*b.2)<=100000000 by omega)⟩) λc34=>JB<|Xa 11 wm wm rfl rfl rfl<|QP I (λ_ _ f k=>Xm (x:=c13) (r:=a.1*b.1) (ps:=[(c18,a.1*b.2),(c23,a.2*b.1),(c28,a.2*b.2)]) f k.1.1.1.1.1.1.2 (Qx.of (n:=3) (sz:=4) (cs:=ak (λe:Fr×Rat=>Kl e.1) [(c18,a.1*b.2),(c23,a.2*b.1),(c28,a.2*b.2)]) k.1.2 I) (Eo k.1.1.1.1.1.2 k.1.1.1.1.2 k.1.1.1.2) rfl wu ⟨O,Eo (show JU (a.1*b.2)<=100000000 by omega) (show JU (a.2*b.1)<=100000000 by omega) (show JU (a.2*b.2)<=100000000 by omega)⟩) λc40=>JB<|Jl 12 wm rfl rfl<|QK (Q2 I Z2 Jh (.cons (vs:=[_,_,_,_]) I I I .h4 (.cons (vs:=[_,_,_,_]) I I I (.skip (.skip (.skip (.skip .h4)))) .nil)))<|JB<|Xa 13 wm wm rfl rfl rfl<|JR (vs:=[_,_,_,_,_,_,_,_]) I I I Qj I .u4 tC (λ_ h=>h.1.1.1.1) .h8 wZ<|JB<|Yk<|QC<|QY ?_
  exact QS (⟨c34,c40⟩) I (.JX (c:=[_,_,_,_,_,_,_,_]) I Qj .u4 .nil) (rfl) λF h9=>by unfold Jg;rw[ZN];exact⟨h9.1.2,h9.2⟩
 refine Qp I (Q4 XZ) QN Jy I I (λb39=>?_) (λw h=>h.imp (.cons_cons _ (.cons_cons _ (.cons_cons _ (.cons_cons _ (.cons _ tC))))) w9);refine JB<|Xa 4 wm wm rfl rfl rfl ?_
 refine Qp I (Q4 XZ) QN Jy I I (λb33=>?_) (λw h=>h.imp (.cons_cons _ (.cons_cons _ (.cons_cons _ (.cons_cons _ (.cons _ tC))))) tA);refine JB<|Xa 5 wm wm rfl rfl rfl<|QP I (λ_ _ f k=>Vo (x:=c13) (r:=a.1*b.1) (ps:=[(c18,a.1*b.2),(c23,a.2*b.1),(c28,a.2*b.2)]) f k.1.1.1.1.1.2 (Qx.of (n:=3) (sz:=4) (cs:=ak (λe:Fr×Rat=>Kl e.1) [(c18,a.1*b.2),(c23,a.2*b.1),(c28,a.2*b.2)]) k.2 I) (Eo k.1.1.1.1.2 k.1.1.1.2 k.1.1.2) rfl wu ⟨O,Eo (show JU (a.1*b.2)<=100000000 by omega) (show JU (a.2*b.1)<=100000000 by omega) (show JU (a.2*b.2)<=100000000 by omega)⟩) λc34=>JB<|Xa 11 wm wm rfl rfl rfl<|QP I (λ_ _ f k=>Xm (x:=c13) (r:=a.1*b.1) (ps:=[(c18,a.1*b.2),(c23,a.2*b.1),(c28,a.2*b.2)]) f k.1.1.1.1.1.1.2 (Qx.of (n:=3) (sz:=4) (cs:=ak (λe:Fr×Rat=>Kl e.1) [(c18,a.1*b.2),(c23,a.2*b.1),(c28,a.2*b.2)]) k.1.1.2 I) (Eo k.1.1.1.1.1.2 k.1.1.1.1.2 k.1.1.1.2) rfl wu ⟨O,Eo (show JU (a.1*b.2)<=100000000 by omega) (show JU (a.2*b.1)<=100000000 by omega) (show JU (a.2*b.2)<=100000000 by omega)⟩) λc40=>JB<|Jl 12 wm rfl rfl<|QK (Q2 I Z2 Jh (.cons (vs:=[_,_,_,_]) I I I .h4 (.cons (vs:=[_,_,_,_]) I I I (.skip (.skip (.skip (.skip .h4)))) .nil)))<|JB<|Xa 13 wm wm rfl rfl rfl<|JR (vs:=[_,_,_,_,_,_,_,_]) I I I Qj I .u4 tC (λ_ h=>h.1.1.1.1) .h8 wZ<|JB<|Yk<|QC<|QY ?_
 exact QS (⟨c34,c40⟩) I (.JX (c:=[_,_,_,_,_,_,_,_]) I Qj .u4 .nil) (rfl) λF h9=>by unfold Jg;rw[ZN];exact⟨h9.1.2,h9.2⟩
theorem Rn{x:Sp}{y:Fr}{r:Rat}(hF:Fits F w)(h:Ji F x a)(h':JN F y r)(hza:XN a 20000000)(hzr:JU r<=20000000):Xn prog 139 [x.v,y.v] w F (Jg a (r,r)):=by
 refine QV.intro (G:=λF=>Ji F x a/\JN F y r) func139 rfl wy rfl rfl hF (λF' hF'=>⟨h.le hF',h'.le hF'⟩)<|QI7<|Qs rfl (vs:=[_,_,_,_,_,_,_,_]) rfl λb2=>Qs rfl (vs:=[_,_,_,_]) rfl λb3=>Qc Jh λb4=>QHz<|QG<|JH (.cons _ tC) mixed wm<|QK (wK I Qj .u1)<|QK (wJ I QN .here)<|QP rfl (λ_ _ f k=>Kd (x:=y) (r:=r) f k.2) λc7=>QP rfl (λ_ _ f k=>Ui (x:=x) (y:=c7) (a:=a) (b:=(r,r)) f k.1.1 k.2 hza ⟨hzr,hzr⟩) λc8=>JR (vs:=[_,_,_,_,_,_,_,_]) rfl rfl rfl Qj rfl .here tC (λ_ h=>h.1.1) .h8 wZ<|Q7<|QC<|QY ?_
 exact QS (c8) rfl (.JX (c:=[_,_,_,_,_,_,_,_]) I Qj .here .nil) (rfl) tB
theorem y9{x:Sp}{n:Int}(hF:Fits F w)(h:Ji F x a)(hn:0<=n/\n<=12)(hza:XN a 1000000):Xn prog 179 [x.v,.int .i64 n] w F (Vm a n):=by
 obtain⟨z1,z2⟩:=hza;have p1:=Wj a.1 n.toNat;have p2:=Wj a.2 n.toNat;have m1:n.toNat*JU a.1<=12*1000000:=aX O z1;have m2:n.toNat*JU a.2<=12*1000000:=aX O z2;refine QV.intro (G:=λF=>Ji F x a) func179 rfl wy rfl rfl hF (λF' hF'=>h.le hF')<|QI7<|Qs rfl (vs:=[_,_,_,_,_,_,_,_]) rfl λb2=>Qc Jh λb4=>QHz<|QG<|Kr (r:=[0,1,2,3,4,5,6,7,8,9,10,11]) tC mixed wm rfl<|Jl 0 wm rfl rfl<|QK (QH rfl Xr QN)<|JB<|Jl 1 wm rfl rfl<|QK (wJ I QN .u1)<|JB<|Jl 2 wm rfl rfl<|QK (QD rfl)<|JB<|Jl 4 wm rfl rfl<|QK (QH rfl Xq QN)<|JB<|Jl 5 wm rfl rfl<|QK (wL I QN .u1)<|JB<|Jl 6 wm rfl rfl ?_
 refine QK (QD I)<|JB<|Kq (A:=[8,9]) (r:=[3,7,10,11]) wm<|XJ 3 wm wm wy tC w9 rfl rfl rfl (λ_=>rfl) (λ_ _ f h=>MU (x:=x.lo) (r:=a.1) (k:=n) f h.1 hn.1 O O) λc10=>XJ 7 wm wm wy tC tA rfl rfl rfl (λ_=>rfl) (λ_ _ f h=>MU (x:=x.hi) (r:=a.2) (k:=n) f h.1.2 hn.1 O O) λc14=>K9 8 (d:=5) (T:=118) wm wm wy tC (λ_ h=>h.1.1) wm wm Jy λb5=>K9 9 (d:=6) (T:=118) wm wm wy (.cons _ tC) (λ_ h=>h.1.1) wm wm Jy λb6=>Zw (vs:=[_,_,_,_]) 10 wm wm wy (.cons _ (.cons _ tC)) (λ_ h=>h.1.1) rfl rfl (λ_=>rfl) (λ_=>rfl) rfl QN I .u1 (.cons _ tC) .h4 wV<|Zw (vs:=[_,_,_,_]) 11 wm wm wy (.cons _ (.cons _ tC)) (λ_ h=>h.1.1) rfl rfl (λ_=>rfl) (λ_=>rfl) rfl QN I .here (.cons _ tC) .h4 wV ?_
 refine V4 ?_ wm;refine QC<|QG ?_
 refine Zc [(4,_),(5,_),(6,_)] [(33,.bool ((decide (n>0)&&(decide (n%2=0)&&(decide (MG a.1.num<0)&&decide (MG a.2.num>0))))))] wU ?_ ?_
 ·refine wA 2 I<|QA (Hi I I O O)<|wB 2 I ?_
  refine Ql (t:=18) rfl (λhb18=>?_) λhb18=>?_
  ·refine wB 6 I ?_;refine Ql (t:=22) rfl (λhb22=>?_) λhb22=>?_
   ·refine QM I I<|QA (QH I Xr QN)<|QM I I<|QA (wJ I QN .u3)<|QM I I<|QI I (λ_ _ f k=>Ub (x:=x.lo) (r:=a.1) f k.1.1.1) λ_=>wB 4 I ?_
    refine Ql (t:=28) rfl (λhb28=>?_) λhb28=>?_
    ·refine QM I I<|QA (QH I Xq QN)<|QM I I<|QA (wL I QN .u3)<|QM I I<|QI I (λ_ _ f k=>Ub (x:=x.hi) (r:=a.2) f k.1.1.1.2) λ_=>wB 4 I ?_
     exact JY ⟨rfl,rfl,rfl,(congrArg (λb=>some (bJ b)) (by rw[ba];simp_all<;>(intros;omega))),trivial⟩ QIM λ_ h=>h.1.1
    refine wB 6 I ?_;exact JY ⟨rfl,rfl,rfl,(congrArg (λb=>some (bJ b)) (by rw[ba];simp_all<;>(intros;omega))),trivial⟩ QIM tA
   refine wB 12 I ?_;exact JY ⟨rfl,rfl,rfl,(congrArg (λb=>some (bJ b)) (by rw[ba];simp_all<;>(intros;omega))),trivial⟩ QIM w9
  refine wB 16 I ?_;exact JY ⟨rfl,rfl,rfl,(congrArg (λb=>some (bJ b)) (by rw[ba];simp_all<;>(intros;omega))),trivial⟩ QIM w9
 simp only[ab,ag];refine QR I (λhc=>?_) λhc=>?_
 ·refine QG<|Kr (r:=[0,1,2,3,4,5,6]) (.cons_cons _ (.cons_cons _ (.cons _ tC))) mixed wm rfl<|Jl 1 wm rfl rfl<|QK (wJ I QN .u1)<|JB<|Jl 2 wm rfl rfl<|QK (wJ I QN .here)<|JB ?_
  refine NR 0 3 wm wm rfl rfl rfl rfl rfl rfl ?_ ?_
  ·refine QP I (λ_ _ f k=>TO (n:=0) f wu wu) (λc34=>JB<|Xa 3 wm wm rfl rfl rfl ?_);refine Qp I (Q4 XZ) QN Jy I I (λb37=>?_) (λw h=>h.imp (.cons_cons _ (.cons_cons _ (.cons _ tC))) tA);refine JB<|Xa 4 wm wm rfl rfl rfl<|QP I (λ_ _ f k=>Xm (x:=c10) (r:=a.1^n.toNat) (ps:=[(c14,a.2^n.toNat)]) f k.1.1.1.2 (Qx.of (n:=1) (sz:=4) (cs:=ak (λe:Fr×Rat=>Kl e.1) [(c14,a.2^n.toNat)]) k.2 I) (KS k.1.1.2) rfl wu ⟨O,KS (show JU (a.2^n.toNat)<=100000000 by omega)⟩) λc38=>JB<|Jl 5 wm rfl rfl<|QK (Q2 I Z2 Jh (.cons (vs:=[_,_,_,_]) I I I .h4 (.cons (vs:=[_,_,_,_]) I I I (.skip (.skip (.skip (.skip .h4)))) .nil)))<|JB<|Xa 6 wm wm rfl rfl rfl<|JR (vs:=[_,_,_,_,_,_,_,_]) I I I Qj I .u2 tC (λ_ h=>h.1.1.1) .h8 wZ<|JB<|Yk<|QC<|QY ?_
   exact QS (⟨c34,c38⟩) I (.JX (c:=[_,_,_,_,_,_,_,_]) I Qj .u2 .nil) (rfl) λF h9=>by unfold Vm;rw[if_pos hc,ZN];exact⟨h9.1.1.2,h9.2⟩
  refine Qp I (Q4 XZ) QN Jy I I (λb37=>?_) (λw h=>h.imp (.cons_cons _ (.cons_cons _ (.cons _ tC))) w9);refine JB<|Xa 0 wm wm rfl rfl rfl<|QP I (λ_ _ f k=>TO (n:=0) f wu wu) λc34=>JB<|Xa 4 wm wm rfl rfl rfl<|QP I (λ_ _ f k=>Xm (x:=c10) (r:=a.1^n.toNat) (ps:=[(c14,a.2^n.toNat)]) f k.1.1.1.2 (Qx.of (n:=1) (sz:=4) (cs:=ak (λe:Fr×Rat=>Kl e.1) [(c14,a.2^n.toNat)]) k.1.2 I) (KS k.1.1.2) rfl wu ⟨O,KS (show JU (a.2^n.toNat)<=100000000 by omega)⟩) λc38=>JB<|Jl 5 wm rfl rfl<|QK (Q2 I Z2 Jh (.cons (vs:=[_,_,_,_]) I I I .h4 (.cons (vs:=[_,_,_,_]) I I I (.skip (.skip (.skip (.skip .h4)))) .nil)))<|JB<|Xa 6 wm wm rfl rfl rfl<|JR (vs:=[_,_,_,_,_,_,_,_]) I I I Qj I .u2 tC (λ_ h=>h.1.1.1) .h8 wZ<|JB<|Yk<|QC<|QY ?_
  exact QS (⟨c34,c38⟩) I (.JX (c:=[_,_,_,_,_,_,_,_]) I Qj .u2 .nil) (rfl) λF h9=>by unfold Vm;rw[if_pos hc,ZN];exact⟨h9.1.2,h9.2⟩
 refine QJL 3 I<|Kr (r:=[0,1,2,3,4,5,6,7,8,9]) (.cons_cons _ (.cons_cons _ (.cons _ tC))) mixed wm rfl<|Jl 0 wm rfl rfl<|QK (wJ I QN .u1)<|JB<|Jl 1 wm rfl rfl<|QK (wJ I QN .here)<|JB<|Jl 4 wm rfl rfl<|QK (wJ I QN .u1)<|JB<|Jl 5 wm rfl rfl<|QK (wJ I QN .here)<|JB ?_
 refine NR 2 6 wm wm rfl rfl rfl rfl rfl rfl ?_ ?_
 ·refine Qp I (Q4 XZ) QN Jy I I (λb42=>?_) (λw h=>h.imp (.cons_cons _ (.cons_cons _ (.cons _ tC))) w9);refine JB ?_;refine NR 3 6 wm wm rfl rfl rfl rfl rfl rfl ?_ ?_
  ·refine QP I (λ_ _ f k=>Vo (x:=c10) (r:=a.1^n.toNat) (ps:=[(c14,a.2^n.toNat)]) f k.1.1.2 (Qx.of (n:=1) (sz:=4) (cs:=ak (λe:Fr×Rat=>Kl e.1) [(c14,a.2^n.toNat)]) k.2 I) (KS k.1.2) rfl wu ⟨O,KS (show JU (a.2^n.toNat)<=100000000 by omega)⟩) (λc43=>JB<|Xa 6 wm wm rfl rfl rfl ?_);refine Qp I (Q4 XZ) QN Jy I I (λb46=>?_) (λw h=>h.imp (.cons_cons _ (.cons_cons _ (.cons _ tC))) λF h=>h.1.1);refine JB<|Xa 7 wm wm rfl rfl rfl<|QP I (λ_ _ f k=>Xm (x:=c10) (r:=a.1^n.toNat) (ps:=[(c14,a.2^n.toNat)]) f k.1.1.1.1.2 (Qx.of (n:=1) (sz:=4) (cs:=ak (λe:Fr×Rat=>Kl e.1) [(c14,a.2^n.toNat)]) k.2 I) (KS k.1.1.1.2) rfl wu ⟨O,KS (show JU (a.2^n.toNat)<=100000000 by omega)⟩) λc47=>JB<|Jl 8 wm rfl rfl<|QK (Q2 I Z2 Jh (.cons (vs:=[_,_,_,_]) I I I .h4 (.cons (vs:=[_,_,_,_]) I I I (.skip (.skip (.skip (.skip .h4)))) .nil)))<|JB<|Xa 9 wm wm rfl rfl rfl<|JR (vs:=[_,_,_,_,_,_,_,_]) I I I Qj I .u2 tC (λ_ h=>h.1.1.1.1) .h8 wZ<|JB<|Yk<|QC<|QY ?_
   exact QS (⟨c43,c47⟩) I (.JX (c:=[_,_,_,_,_,_,_,_]) I Qj .u2 .nil) (rfl) λF h9=>by unfold Vm;rw[if_neg (by rw[hc];decide),ZN];exact⟨h9.1.1.2,h9.2⟩
  refine Qp I (Q4 XZ) QN Jy I I (λb46=>?_) (λw h=>h.imp (.cons_cons _ (.cons_cons _ (.cons _ tC))) tA);refine JB<|Xa 3 wm wm rfl rfl rfl<|QP I (λ_ _ f k=>Vo (x:=c10) (r:=a.1^n.toNat) (ps:=[(c14,a.2^n.toNat)]) f k.1.1.1.2 (Qx.of (n:=1) (sz:=4) (cs:=ak (λe:Fr×Rat=>Kl e.1) [(c14,a.2^n.toNat)]) k.1.2 I) (KS k.1.1.2) rfl wu ⟨O,KS (show JU (a.2^n.toNat)<=100000000 by omega)⟩) λc43=>JB<|Xa 7 wm wm rfl rfl rfl<|QP I (λ_ _ f k=>Xm (x:=c10) (r:=a.1^n.toNat) (ps:=[(c14,a.2^n.toNat)]) f k.1.1.1.1.2 (Qx.of (n:=1) (sz:=4) (cs:=ak (λe:Fr×Rat=>Kl e.1) [(c14,a.2^n.toNat)]) k.1.2 I) (KS k.1.1.1.2) rfl wu ⟨O,KS (show JU (a.2^n.toNat)<=100000000 by omega)⟩) λc47=>JB<|Jl 8 wm rfl rfl<|QK (Q2 I Z2 Jh (.cons (vs:=[_,_,_,_]) I I I .h4 (.cons (vs:=[_,_,_,_]) I I I (.skip (.skip (.skip (.skip .h4)))) .nil)))<|JB<|Xa 9 wm wm rfl rfl rfl<|JR (vs:=[_,_,_,_,_,_,_,_]) I I I Qj I .u2 tC (λ_ h=>h.1.1.1.1) .h8 wZ<|JB<|Yk<|QC<|QY ?_
  exact QS (⟨c43,c47⟩) I (.JX (c:=[_,_,_,_,_,_,_,_]) I Qj .u2 .nil) (rfl) λF h9=>by unfold Vm;rw[if_neg (by rw[hc];decide),ZN];exact⟨h9.1.2,h9.2⟩
 refine Qp I (Q4 XZ) QN Jy I I (λb46=>?_) (λw h=>h.imp (.cons_cons _ (.cons_cons _ (.cons _ tC))) w9);refine JB<|Xa 2 wm wm rfl rfl rfl ?_
 refine Qp I (Q4 XZ) QN Jy I I (λb42=>?_) (λw h=>h.imp (.cons_cons _ (.cons_cons _ (.cons _ tC))) tA);refine JB<|Xa 3 wm wm rfl rfl rfl<|QP I (λ_ _ f k=>Vo (x:=c10) (r:=a.1^n.toNat) (ps:=[(c14,a.2^n.toNat)]) f k.1.1.1.2 (Qx.of (n:=1) (sz:=4) (cs:=ak (λe:Fr×Rat=>Kl e.1) [(c14,a.2^n.toNat)]) k.2 I) (KS k.1.1.2) rfl wu ⟨O,KS (show JU (a.2^n.toNat)<=100000000 by omega)⟩) λc43=>JB<|Xa 7 wm wm rfl rfl rfl<|QP I (λ_ _ f k=>Xm (x:=c10) (r:=a.1^n.toNat) (ps:=[(c14,a.2^n.toNat)]) f k.1.1.1.1.2 (Qx.of (n:=1) (sz:=4) (cs:=ak (λe:Fr×Rat=>Kl e.1) [(c14,a.2^n.toNat)]) k.1.1.2 I) (KS k.1.1.1.2) rfl wu ⟨O,KS (show JU (a.2^n.toNat)<=100000000 by omega)⟩) λc47=>JB<|Jl 8 wm rfl rfl<|QK (Q2 I Z2 Jh (.cons (vs:=[_,_,_,_]) I I I .h4 (.cons (vs:=[_,_,_,_]) I I I (.skip (.skip (.skip (.skip .h4)))) .nil)))<|JB<|Xa 9 wm wm rfl rfl rfl<|JR (vs:=[_,_,_,_,_,_,_,_]) I I I Qj I .u2 tC (λ_ h=>h.1.1.1.1) .h8 wZ<|JB<|Yk<|QC<|QY ?_
 exact QS (⟨c43,c47⟩) I (.JX (c:=[_,_,_,_,_,_,_,_]) I Qj .u2 .nil) (rfl) λF h9=>by unfold Vm;rw[if_neg (by rw[hc];decide),ZN];exact⟨h9.1.2,h9.2⟩
theorem CY{x y:Sp}(hF:Fits F w)(h:Ji F x a)(h':Ji F y b)(hza:XN a 100000000)(hzb:XN b 100000000):Xn prog 173 [x.v,y.v] w F (XA a b):=by
 refine QV.intro (G:=λF=>Ji F x a/\Ji F y b) func173 rfl wy rfl rfl hF (λF' hF'=>⟨h.le hF',h'.le hF'⟩)<|QI7<|Qs rfl (vs:=[_,_,_,_,_,_,_,_]) rfl λb2=>Qs rfl (vs:=[_,_,_,_,_,_,_,_]) rfl λb3=>Qc Jh λb4=>QHz<|QG<|Kr (r:=[0,1,2,3,4,5,6,7,8,9,10,11,12,13]) (.cons _ tC) mixed wm rfl<|Jl 0 wm rfl rfl<|QK (QH rfl Xr QN)<|JB<|Jl 1 wm rfl rfl<|QK (wJ I QN .u1)<|JB<|Jl 2 wm rfl rfl<|QK (QH rfl Xr QN)<|JB<|Jl 3 wm rfl rfl<|QK (wJ I QN .here)<|JB<|Jl 6 wm rfl rfl<|QK (QH rfl Xq QN)<|JB ?_
 refine Jl 7 wm rfl rfl<|QK (wL I QN .u1)<|JB<|Jl 8 wm rfl rfl<|QK (QH I Xq QN)<|JB<|Jl 9 wm rfl rfl<|QK (wL I QN .here)<|JB ?_
 refine NR 4 10 wm wm rfl rfl rfl rfl rfl rfl ?_ ?_
 ·refine Qp I (Q4 XZ) QN Jy I I (λb9=>?_) (λw h=>h.imp (.cons _ tC) w9);refine JB ?_;refine NR 5 10 wm wm rfl rfl rfl rfl rfl rfl ?_ ?_
  ·refine QP I (λ_ _ f k=>Vo (x:=x.lo) (r:=a.1) (ps:=[(y.lo,b.1)]) f k.1.1.1 (Qx.of (n:=1) (sz:=4) (cs:=ak (λe:Fr×Rat=>Kl e.1) [(y.lo,b.1)]) k.2 I) (KS k.1.2.1) rfl wu ⟨hza.1,KS hzb.1⟩) (λc10=>JB<|Xa 10 wm wm rfl rfl rfl ?_);refine Qp I (Q4 XZ) QN Jy I I (λb15=>?_) (λw h=>h.imp (.cons _ tC) λF h=>h.1.1);refine JB<|Xa 11 wm wm rfl rfl rfl<|QP I (λ_ _ f k=>Xm (x:=x.hi) (r:=a.2) (ps:=[(y.hi,b.2)]) f k.1.1.1.1.2 (Qx.of (n:=1) (sz:=4) (cs:=ak (λe:Fr×Rat=>Kl e.1) [(y.hi,b.2)]) k.2 I) (KS k.1.1.1.2.2) rfl wu ⟨hza.2,KS hzb.2⟩) λc16=>JB<|Jl 12 wm rfl rfl<|QK (Q2 I Z2 Jh (.cons (vs:=[_,_,_,_]) I I I .h4 (.cons (vs:=[_,_,_,_]) I I I (.skip (.skip (.skip (.skip .h4)))) .nil)))<|JB<|Xa 13 wm wm rfl rfl rfl<|JR (vs:=[_,_,_,_,_,_,_,_]) I I I Qj I .here tC (λ_ h=>h.1.1.1.1) .h8 wZ<|JB<|Yk<|QC<|QY ?_
   exact QS (⟨c10,c16⟩) I (.JX (c:=[_,_,_,_,_,_,_,_]) I Qj .here .nil) (rfl) λF h9=>by unfold XA;rw[<-UO,<-UY];exact⟨h9.1.1.2,h9.2⟩
  refine Qp I (Q4 XZ) QN Jy I I (λb15=>?_) (λw h=>h.imp (.cons _ tC) tA);refine JB<|Xa 5 wm wm rfl rfl rfl<|QP I (λ_ _ f k=>Vo (x:=x.lo) (r:=a.1) (ps:=[(y.lo,b.1)]) f k.1.1.1.1 (Qx.of (n:=1) (sz:=4) (cs:=ak (λe:Fr×Rat=>Kl e.1) [(y.lo,b.1)]) k.1.2 I) (KS k.1.1.2.1) rfl wu ⟨hza.1,KS hzb.1⟩) λc10=>JB<|Xa 11 wm wm rfl rfl rfl<|QP I (λ_ _ f k=>Xm (x:=x.hi) (r:=a.2) (ps:=[(y.hi,b.2)]) f k.1.1.1.1.2 (Qx.of (n:=1) (sz:=4) (cs:=ak (λe:Fr×Rat=>Kl e.1) [(y.hi,b.2)]) k.1.2 I) (KS k.1.1.1.2.2) rfl wu ⟨hza.2,KS hzb.2⟩) λc16=>JB<|Jl 12 wm rfl rfl<|QK (Q2 I Z2 Jh (.cons (vs:=[_,_,_,_]) I I I .h4 (.cons (vs:=[_,_,_,_]) I I I (.skip (.skip (.skip (.skip .h4)))) .nil)))<|JB<|Xa 13 wm wm rfl rfl rfl<|JR (vs:=[_,_,_,_,_,_,_,_]) I I I Qj I .here tC (λ_ h=>h.1.1.1.1) .h8 wZ<|JB<|Yk<|QC<|QY ?_
  exact QS (⟨c10,c16⟩) I (.JX (c:=[_,_,_,_,_,_,_,_]) I Qj .here .nil) (rfl) λF h9=>by unfold XA;rw[<-UO,<-UY];exact⟨h9.1.2,h9.2⟩
 refine Qp I (Q4 XZ) QN Jy I I (λb15=>?_) (λw h=>h.imp (.cons _ tC) w9);refine JB<|Xa 4 wm wm rfl rfl rfl ?_
 refine Qp I (Q4 XZ) QN Jy I I (λb9=>?_) (λw h=>h.imp (.cons _ tC) tA);refine JB<|Xa 5 wm wm rfl rfl rfl<|QP I (λ_ _ f k=>Vo (x:=x.lo) (r:=a.1) (ps:=[(y.lo,b.1)]) f k.1.1.1.1 (Qx.of (n:=1) (sz:=4) (cs:=ak (λe:Fr×Rat=>Kl e.1) [(y.lo,b.1)]) k.2 I) (KS k.1.1.2.1) rfl wu ⟨hza.1,KS hzb.1⟩) λc10=>JB<|Xa 11 wm wm rfl rfl rfl<|QP I (λ_ _ f k=>Xm (x:=x.hi) (r:=a.2) (ps:=[(y.hi,b.2)]) f k.1.1.1.1.2 (Qx.of (n:=1) (sz:=4) (cs:=ak (λe:Fr×Rat=>Kl e.1) [(y.hi,b.2)]) k.1.1.2 I) (KS k.1.1.1.2.2) rfl wu ⟨hza.2,KS hzb.2⟩) λc16=>JB<|Jl 12 wm rfl rfl<|QK (Q2 I Z2 Jh (.cons (vs:=[_,_,_,_]) I I I .h4 (.cons (vs:=[_,_,_,_]) I I I (.skip (.skip (.skip (.skip .h4)))) .nil)))<|JB<|Xa 13 wm wm rfl rfl rfl<|JR (vs:=[_,_,_,_,_,_,_,_]) I I I Qj I .here tC (λ_ h=>h.1.1.1.1) .h8 wZ<|JB<|Yk<|QC<|QY ?_
 exact QS (⟨c10,c16⟩) I (.JX (c:=[_,_,_,_,_,_,_,_]) I Qj .here .nil) (rfl) λF h9=>by unfold XA;rw[<-UO,<-UY];exact⟨h9.1.2,h9.2⟩
theorem qk{x y:Sp}(hF:Fits F w)(h:Ji F x a)(h':Ji F y b)(hza:XN a 100000000)(hzb:XN b 100000000):Qg prog 145 [x.v,y.v] w F (.bool (L0 a b)):=by
 refine QV.intro (G:=λF=>Ji F x a/\Ji F y b) func145 rfl wy rfl rfl hF (λF' hF'=>⟨h.le hF',h'.le hF'⟩)<|QI7<|Qs rfl (vs:=[_,_,_,_,_,_,_,_]) rfl λb2=>Qs rfl (vs:=[_,_,_,_,_,_,_,_]) rfl λb3=>wQ rfl<|QI7<|QA (QH rfl Xr QN)<|QA (wJ I QN .here)<|QA (QH rfl Xr QN)<|QA (wJ I QN .u1)<|QI rfl (λ_ _ f k=>Gv (x:=y.lo) (y:=x.lo) (r:=b.1) (s:=a.1) f k.2.1 k.1.1 hzb.1 hza.1) λ_=>QA (QT rfl rfl rfl)<|QH0 rfl ?_
 refine Ql (t:=11) rfl (λhb11=>?_) λhb11=>?_
 ·refine QM I I<|QA (QH I Xq QN)<|QM I I<|QA (wL I QN .u1)<|QM I I<|QA (QH I Xq QN)<|QM I I<|QA (wL I QN .here)<|QM I I<|QI I (λ_ _ f k=>Gv (x:=x.hi) (y:=y.hi) (r:=a.2) (s:=b.2) f k.1.1.2 k.1.2.2 hza.2 hzb.2) λ_=>QJK 7 I ?_
  exact QJO I I (congrArg bJ (by unfold L0;rw[hb11,im])) w8
 refine QJK 11 I ?_;exact QJO I I (congrArg bJ (by unfold L0;rw[hb11,ic])) w8
theorem Gx{x:Sp}{b:Int}(hF:Fits F w)(h:Ji F x a)(hb:0<=b/\b<=64)(hza:XN a 10000000):Xn prog 174 [x.v,.int .i64 b] w F (Z7 a b):=by
 obtain⟨z1,z2⟩:=hza;have p1:JU ((((2:Int):Rat))^b.toNat)<=200:=by
  have h1:=Wj (((2:Int):Rat)) b.toNat;have h2:JU (((2:Int):Rat))<=2:=wu;have h3:b.toNat*JU (((2:Int):Rat))<=64*2:=aX O h2;omega
 have hne:((((2:Int):Rat))^b.toNat).num≠0:=by rw[BX];show(two b)≠0;unfold two;exact Int.ne_of_gt (Int.pow_pos wu)
 have m1:=Yt a.1 ((((2:Int):Rat))^b.toNat);have m2:=Yt a.2 ((((2:Int):Rat))^b.toNat);have f1:=gW (a.1*(((2:Int):Rat))^b.toNat);have f2:=ga (a.2*(((2:Int):Rat))^b.toNat);refine QV.intro (G:=λF=>Ji F x a) func174 rfl wy rfl rfl hF (λF' hF'=>h.le hF')<|QI7<|Qs rfl (vs:=[_,_,_,_,_,_,_,_]) rfl λb2=>Qc Jh λb4=>QHz<|QI7<|QI rfl (λ_ _ f k=>TO (n:=2) f wu wu) λc6=>QH0 rfl<|QI rfl (λ_ _ f h=>MU (x:=c6) (r:=(((2:Int):Rat))) (k:=b) f h.2 hb.1 O (by have h2:JU (((2:Int):Rat))<=2:=wu;have h3:b.toNat*JU (((2:Int):Rat))<=64*2:=aX O h2;omega)) λc8=>Qc Jy λb5=>QU (vs:=[_,_,_,_]) I I I QN I .here .h4 wV<|QHz<|QG<|JH (.cons_cons _ (.cons _ tC)) mixed wm<|QK (QH I Xr QN)<|QK (wJ I QN .u1)<|QK (wJ I QN .here)<|QP I (λ_ _ f k=>W5 (x:=x.lo) (y:=c8) (r:=a.1) (s:=(((2:Int):Rat))^b.toNat) f k.1.1.1 k.2 O O) λc12=>QP I (λ_ _ f k=>Fu (x:=c12) (r:=a.1*(((2:Int):Rat))^b.toNat) f k.2 O) λc13=>QP I (λ_ _ f k=>Dx (g:=c13) (a:=(a.1*(((2:Int):Rat))^b.toNat).floor) f k.2) λc14=>QK (wJ I QN .here) ?_
 refine QP I (λ_ _ f k=>yz (x:=c14) (y:=c8) (r:=(((a.1*(((2:Int):Rat))^b.toNat).floor:Int):Rat)) (s:=(((2:Int):Rat))^b.toNat) f k.2 k.1.1.1.2 hne O O) (λc16=>QK (QH I Xq QN)<|QK (wL I QN .u1)<|QK (wJ I QN .here)<|QP I (λ_ _ f k=>W5 (x:=x.hi) (y:=c8) (r:=a.2) (s:=(((2:Int):Rat))^b.toNat) f k.1.1.1.1.1.1.2 k.1.1.1.1.2 O O) λc20=>QP I (λ_ _ f k=>ph (x:=c20) (r:=a.2*(((2:Int):Rat))^b.toNat) f k.2 O) λc21=>QP I (λ_ _ f k=>Dx (g:=c21) (a:=-(-(a.2*(((2:Int):Rat))^b.toNat)).floor) f k.2) λc22=>QK (wJ I QN .here)<|QP I (λ_ _ f k=>yz (x:=c22) (y:=c8) (r:=((-(-(a.2*(((2:Int):Rat))^b.toNat)).floor:Int):Rat)) (s:=(((2:Int):Rat))^b.toNat) f k.2 k.1.1.1.1.1.1.1.2 hne O O) λc24=>QK (Q2 I Z2 Jh (.cons (vs:=[_,_,_,_]) I I I .h4 (.cons (vs:=[_,_,_,_]) I I I (.skip (.skip (.skip (.skip .h4)))) .nil)))<|JR (vs:=[_,_,_,_,_,_,_,_]) I I I Qj I .u1 tC (λ_ h=>h.1.1.1.1.1.1.1.1) .h8 wZ<|Q7<|QC<|QY ?_);exact QS (⟨c16,c24⟩) I (.JX (c:=[_,_,_,_,_,_,_,_]) I Qj .u1 .nil) (rfl) λF h9=>by rw[yB];exact⟨h9.1.1.1.1.2,h9.2⟩
theorem kB{x:Sp}(hF:Fits F w)(h:Ji F x a)(hza:XN a 100000000):X0 prog 109 [x.v] w F (qU a):=by
 refine QV.intro (G:=λF=>Ji F x a) func109 rfl wy rfl rfl hF (λF' hF'=>h.le hF')<|QI7<|Qs rfl (vs:=[_,_,_,_,_,_,_,_]) rfl λb1=>Qc Jy λb2=>QHz<|QG<|JH (.cons _ tC) mixed wm<|QK (QH rfl Xq QN)<|QK (wL I QN .here)<|QK (QH rfl Xr QN)<|QK (wJ I QN .here)<|QP rfl (λ_ _ f k=>Ud (x:=x.lo) (r:=a.1) f k.1) λc7=>QK (QH rfl Xr QN)<|QK (wJ I QN .here)<|QK (QH rfl Xq QN)<|QK (wL I QN .here)<|QP rfl (λ_ _ f k=>Ud (x:=x.hi) (r:=a.2) f k.1.2) λc12=>?_
 refine Qp I (Q4 XZ) QN Jy I I (λb13=>?_) (λw h=>h.imp (.cons _ tC) λF h=>h.1.1);refine QP I (λw F hF ⟨⟨⟨hX,h7⟩,h12⟩,hs13⟩=>Xm (x:=x.hi) (r:=a.2) (ps:=[(c7,-a.1),(x.lo,a.1),(c12,-a.2)]) hF hX.2 (Qx.of (n:=3) (sz:=4) (cs:=ak (λe:Fr×Rat=>Kl e.1) [(c7,-a.1),(x.lo,a.1),(c12,-a.2)]) hs13 rfl) (Eo h7 hX.1 h12) rfl wu ⟨hza.2,Eo (by rw[Vk];exact hza.1) hza.1 (by rw[Vk];exact hza.2)⟩) (λc14=>JR (vs:=[_,_,_,_]) I I I QN I .here tC (λ_ h=>h.1.1.1.1) .h4 wV<|Q7<|QC<|QY ?_);exact QS (c14) rfl (.JX (c:=[_,_,_,_]) I QN .here .nil) (rfl) tB
end Go.Proofs.YtbpmnjieoncbcaaGreatDoor
