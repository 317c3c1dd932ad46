/- Steps of the proof of the theorem in the last file. -/
import Derived.Test.YtjcphjpkimmmjaaGreatDoorP1
import Derived.MapKept
import Derived.Maps.RangeRun
import Derived.Lib.ItoaLen
import Derived.Shelf.SlSortCmp.PdqK
import Derived.Ground.SlsfProg
import Derived.Test.YtjcphjpkimmmjaaGreatDoorProg
import Derived.Sort.AssemblyPlain
import Derived.Shelf.SlSortCmp.NoneTotal
import Derived.RangeFuncLeaves
import Derived.RangeFuncSeq
import Derived.OwnWalkIn
import Derived.OrdersIn
import Derived.ChangeKeysEq
import Derived.KernelRfl
set_option linter.all false
set_option maxHeartbeats 4000000
open Go.Proofs.Tryz
open List renaming mem_map_of_mem → aa,cons_append → ab,map_cons → af,nil_append → ag,range → ai,length_append → aj,flatMap → ak,mem_cons_of_mem → aq,length_cons → ar,getElem?_eq_getElem → av,drop_of_length_le → ax,mem_cons → ay,mem_cons_self → aB,take_length → aC,length_erase_of_mem → aG,not_mem_nil → aI,contains_eq_mem → aJ,map_append → aL,length_take → aQ,take_append_drop → aR,getElem?_toArray → aS,flatMap_append → aW,length_set → aZ,getElem?_eq_none → bc,exists_cons_of_ne_nil → bh,sublist_append_right → bm,length_map → bw,flatMap_cons → bC,perm_append_comm → bH,foldl_cons → bK,append_assoc → bP,sum_cons → bQ,take_of_length_le → bS,length_pos_of_mem → bT,mem_append → bV,length_nil → bW,length_singleton → bZ,nodup_nil → ee,mem_of_mem_take → ei,mem_singleton → eB,pairwise_map → eG,mem_map → eH,length_range → eI,perm_middle → eN,any_eq_true → eO,range' → eP,sum_append → eT,append_nil → eU,perm_ext_iff_of_nodup → eX,mem_of_find?_eq_some → eY,all_cons → fa,getElem?_cons_succ → ff,map_nil → fg,mem_of_getElem? → fq,map → fu,getElem?_append → fw,length_zipWith → fD,getElem_of_mem → fF,getElem?_map → fK,foldl_append → fL,filter_cons → fP,drop_append → fQ,nodup_cons → fV,mem_filter → fW,find?_some → fX,replicate → ib,map_map → ir
open Bool renaming and_eq_true → ae,not_eq_true' → aO,eq_iff_iff → ba,or_eq_true → bz,false_or → fc,false_and → ig,true_and → im,not_true → iq
open Rat renaming mul_le_mul_of_nonneg_left → ah,le_trans → ao,le_refl → aD,add_zero → aH,mul_le_mul_of_nonneg_right → aM,pow_succ → aN,zero_add → aP,divInt → aU,add_assoc → aV,pow_zero → bj,le_total → bD,mul_assoc → bJ,pow_nonneg → bN,add_comm → bU,divInt_mul_right → ep,divInt_eq_div → eK,le_of_lt → fj,mul_one → fA,not_le → fH,intCast_mul → fY,mul_zero → iu,one_mul → iB,neg_mul → iC,div_def → iD
open Nat renaming zero_le → au,beq → aE,eq_of_beq_eq_true → aF,le_trans → aT,mul_le_mul → aX,le_refl → aY,lt_or_ge → bF,zero_add → bL,pow_add → er,eq_zero_or_pos → eE,sub_zero → eL,pow_pos → eR,mul_assoc → fe,zero_mul → fk,mul_zero → fl,mul_le_mul_right → fB,add_mul → fC,pos_of_ne_zero → fI,lt_of_lt_of_le → fJ,strongRecOn → fZ,not_lt_zero → ia,sub_self → iw,mul_comm → ix,pow_one → iE
open Go.Value renaming int → aA,bool → bI
open List.Perm renaming refl → aK,swap → eM,flatMap_right → eV
open Go.Region renaming waitsFor → bp,ready → eC,binds → eD,waitsFor_spec → fh
open Int renaming natAbs_natCast → bA,natAbs_mul → eu,lt_or_le → fm,lt_trichotomy → fR,natCast_mul → ic,pow_succ → iy
open Go.MapKept renaming run_getObj_map → bB,run_setObj_map → eZ,bytes_beq → fz
open Array renaming getElem?_append → bG,getElem?_eq_none → bR,ext_getElem? → ey,all_eq_true_iff_forall_mem → eF,getElem?_modify → fi,ext' → fG
open Go.Fence renaming wide → bM
open Go.Result renaming andThen_ok → bO
open List.Pairwise renaming nil → bX
open Go.Sem renaming run_bind → bY,run_pure → fp
open Option.some renaming inj → ew
open Option renaming none_or → eQ
open Prod.mk renaming injEq → eW
open Go.ByteArray renaming toList_eq → fb
open List.cons renaming injEq → fy
open Go.Instr renaming buildSlice → fM,beginRound → fN,mapUpdate → fU,findNow → ie,lookup → il,fill → iA
open ByteArray renaming mk → fO
open Go.Proofs.SlLaysF0 renaming n14 → fS
open Go.Oper renaming semAt_plain → fT,uponIn → iz
open Go.Lib renaming itoa → ij,compareInt → ik
namespace Go.Proofs.YtjcphjpkimmmjaaGreatDoor
variable{g:FuncId}{T et kt:TypeId}{N c cap i j k m n:Nat}{x:Operand}{P:Program}{l:List Int}{y:Rat}{w:World}{F F':Gs}{a b:Rat×Rat}{A seen u:List Nat}{f:Rat->Rat->Rat}{α:Type}{β:Nat->Nat}
open Go.RowKit Ig
section
variable[Dr][df:Df]{P:Program}{Q:Exit->Act->World->Prop}{N:Nat}{m:Sl}{ops:Array Oper}{l:List Oper}{w0:World}{F0:Gs}{bs:List (Nat×Obj)}{G:Gs->Prop}{ty:TypeId}{pos:String}{aft:Array Edge}
theorem Gf{d:Nat}{t e:TypeId}{sz:Nat}{g:Bool}(ht:P.underlying t=some (.slice e))(h:Z5 P e=some (g,sz))(k:∀b,JS P ops Q l N ((d,.slice (some ⟨b,0,none⟩) 0 0)::m) ⟨w0,F0,(b,.cells #[] e (0,0))::bs,G⟩)(hu:Hi e=true:=by rfl)(hd:J5 N (some d)=true:=by rfl):
  JS P ops Q (⟨some d,.buildSlice t 0 #[],ty,pos,aft,none⟩::l) N m ⟨w0,F0,bs,G⟩:=λa w ha f=>wpList_plain rfl λK n=>by
 refine upon_value (v:=.slice (some ⟨w.heap.size,0,none⟩) 0 0) (w':=w.alloc (.cells #[] e)) ?_ (n _ _ (k _ _ _ (ha.put hd _) (f.alloc _ (ZN hu))));have c:(fM t 0 #[]).run P w = .ok (.slice (some ⟨w.heap.size,0,none⟩) 0 0) (w.alloc (.cells #[] e)):=by
  have j:iA (λi=>some (i*sz,sz)) (Array.map (λx=>(#[]:Array Value)[x%(#[]:Array Value).size]!) (Array.range 0)) []=some #[]:=by simp[iA]
  simp only[fM,bY,run_underlying ht,bO,K4 h,fk,if_neg (show ¬0>2^24 by omega),fp,if_true,j,newRow,run_newObj];rfl
 simp[execOp,c]
theorem Oz{e b:TypeId}{sz:Nat}{v:Value}{cs:List Value}{ob:List (Nat×Obj)}{S:World->Prop}(hx:ev m x=some v)(hr:Q8 b sz v n cs ob)(a:Gp P T=some e):Qt P N m S (.call ⟨.builtin .len,#[x],#[T]⟩) ty (.int .i64 n):=by
 cases hr with
 |nil=>exact Qg hx a
 |some=>exact Qg hx a
end
theorem Zj{Q:Exit->Act->World->Prop}{b:Array Oper}{l:List Oper}{m:Sl}{E E':Env}(h:∀w,St E w->St E' w)(k:JS P b Q l N m E'):JS P b Q l N m E:=λa w ha c=>k a w ha (h w c)
def Sv:JP 0=[48]:=by
 have h:(0:Rat).num=0:=rfl;unfold JP;rw[if_pos tH,h,XJ tF];exact YX
def Au(x:Rat):x.num<0↔x<0:=by rw[<-fH,<-Rat.num_nonneg];omega
theorem Ia(x:Rat):Dm x.num=if x<0 then -1 else if x=0 then 0 else 1:=by
 unfold Dm;by_cases h:x<0
 ·rw[if_pos h,if_pos ((Au x).2 h)]
 rw[if_neg h,if_neg (λg=>h ((Au x).1 g))];by_cases h0:x=0
 ·rw[if_pos h0,if_pos (Rat.num_eq_zero.2 h0)]
 rw[if_neg h0,if_neg (λg=>h0 (Rat.num_eq_zero.1 g))]
structure X7{α:Type}(l:List α)(f:α->Int) where
 i:Nat
 le:i<=l.length
 h:Qs (l.map f)=Qs ((l.map f).drop i)
section
variable{α:Type}[Inhabited α]{l:List α}{f:α->Int}
def UE(hi:i<l.length):(l.map f)[i]'(by simpa using hi)=f (el l i):=by rw[List.getElem_map,Jb hi]
def X7.next(s:X7 l f)(hi:s.i<l.length)(h:f (el l s.i)=0):X7 l f:=⟨s.i+1,hi,by
 rw[s.h,Wx (by simpa using hi) (by rw[UE hi];exact h)]⟩
def X7.hit(s:X7 l f)(hi:s.i<l.length)(h:f (el l s.i)≠0):Qs (l.map f)=f (el l s.i):=by
 rw[s.h,Dc (by simpa using hi) (by rw[UE hi];exact h),UE hi]
def X7.stop(s:X7 l f)(hi:l.length<=s.i):Qs (l.map f)=0:=by
 rw[s.h,ax (by simpa using hi)];rfl
end
def X7.start{α:Type}(l:List α)(f:α->Int):X7 l f:=⟨0,au _,rfl⟩
structure Wo{α:Type}(l:List α)(p:α->Bool) where
 i:Nat
 le:i<=l.length
 h:l.all p=(l.drop i).all p
section
variable{α:Type}[Inhabited α]{l:List α}{p:α->Bool}
def Wo.next(s:Wo l p)(hi:s.i<l.length)(h:p (el l s.i)=true):Wo l p:=⟨s.i+1,hi,by rw[s.h,Bp hi,fa,h,im]⟩
def Wo.hit(s:Wo l p)(hi:s.i<l.length)(h:p (el l s.i)=false):l.all p=false:=by rw[s.h,Bp hi,fa,h,ig]
def Wo.stop(s:Wo l p)(hi:l.length<=s.i):l.all p=true:=by rw[s.h,ax hi];rfl
end
def Wo.start{α:Type}(l:List α)(p:α->Bool):Wo l p:=⟨0,au _,rfl⟩
def NU(p:List UInt8×List UInt8):List Value:=[tx p.1,tx p.2]
def K1(p:List UInt8×List UInt8):(NU p).length=2:=rfl
def Dv(x y:Rat):Rat:=if Yw x y<=0 then x else y
def Gx(x y:Rat):Rat:=if Yw x y>=0 then x else y
def D2{x:Rat}(hx:JW x<=k)(hy:JW y<=k):JW (Dv x y)<=k:=by unfold Dv;split<;>assumption
def DC{x:Rat}(hx:JW x<=k)(hy:JW y<=k):JW (Gx x y)<=k:=by unfold Gx;split<;>assumption
def ZW(i:Nat):Rat:=aU 1 2^i
theorem qQ(i:Nat):(ZW i).num≠0:=by
 intro e;have h0:=Rat.num_eq_zero.1 e;unfold ZW at h0;have h1:aU 1 2≠0:=by
  intro h;have:=Lu.1;rw[h]at this;exact absurd this tF
 induction i with
 |zero=>rw[bj]at h0;exact absurd h0 tF
 |succ n ih =>
  rw[aN]at h0;rcases Rat.mul_eq_zero.1 h0 with h | h
  ·exact ih (Rat.num_eq_zero.2 h) h
  exact h1 h
theorem VC{s:List UInt8}(a:Fits F w):Qf prog 61 [tx s] w F (.agg #[tx s,tx s]):=by
 refine QU.intro (G:=λF=>True) func61 rfl tH rfl rfl a tL<|wa<|Qc Xa λb2=>wY<|wb rfl<|wW rfl<|QA (Q4 rfl Zb Xa (wV rfl rfl rfl))<|QW (vs:=[_,_]) rfl rfl rfl Jd rfl .here .h2 wm<|wY<|QX ?_
 exact QP (()) I (.JX (c:=[_,_]) I Jd .here .nil) (rfl) tL
def YL(x:Rat)(i:Nat):Rat:=((x/ZW i).floor:Rat)*ZW i
section
open Go Go.RowKit
section
variable[Dr][df:Df]
def GA(l:List Oper)(r:List Nat)(i:Nat):Bool:=match l[i]? with
 |some o=>o.after.all λe=>!(eD .any e)||!(r.contains e.on)
 |none=>false
def LW(l:List Oper)(i:Nat):Bool:=match l[i]? with
 |some o=>J2 o.op
 |none=>false
def EH(l:List Oper)(r:List Nat):Option Nat:=r.find? λi=>LW l i&&GA l r i
def Ps(l:List Oper):Bool :=
 Region.noSelect l.toArray&&WZ .any l.toArray l.length&&(ai l.length).all λj=>match l[j]? with
  |none=>false
  |some a=>(ai j).all λi=>match l[i]? with
   |none=>false
   |some oi=>if J2 oi.op||J2 a.op then(bp .any l.toArray j i||oi.apart l.toArray a)else true
theorem Pr{l:List Oper}(h:Ps l=true){i j:Nat}(f:i<j){oi a:Oper}(hi:l[i]?=some oi)(c:l[j]?=some a)(hq:(J2 oi.op||J2 a.op)=true):(bp .any l.toArray j i||oi.apart l.toArray a)=true:=by
 simp only[Ps,ae]at h;have b:j<l.length:=by rcases bF j l.length with g | g;exact g;rw[bc g]at c;cases c
 have h1:=List.all_eq_true.1 h.2 j (List.mem_range.2 b);rw[c]at h1;have h2:=List.all_eq_true.1 h1 i (List.mem_range.2 f);rw[hi]at h2;simp only at h2;rw[if_pos hq]at h2;exact h2
section
variable{P:Program}{Q:Exit->Act->World->Prop}{S:World->Prop}
def BI(P:Program)(l:List Oper)(Q:Exit->Act->World->Prop)(S:World->Prop):Nat->List Nat->Act->World->Prop
 |0,_,a,w=>Q .normal a w
 |n+1,r,a,w=>match EH l r with
  |some i=>∃o v,l[i]?=some o/\YieldsIf P l.toArray S o v a/\BI P l Q S n (r.erase i) (a.put o.dst v) w
  |none=>∀i∈r,GA l r i=true->wpOp P l.toArray (λ_ _ _=>False) i (λb w'=>S w'/\BI P l Q S n (r.erase i) b w') a w
theorem ju{l:List Oper}(hB:Ps l=true)(hQ:∀c a d v w,Q (.panic c) (Act.put a d v) w->Q (.panic c) a w):
  ∀(m:Nat) (r:List Nat) (listed:Array Bool) (a:Act) (w:World),r.length=m->r.Pairwise (·<·)->(∀i,i∈r↔i<l.length/\listed.getD i true=false)->listed.size=l.length ->
   (∀j oj,l.toArray[j]?=some oj->listed.getD j false=true->∀e∈oj.after,eD .any e=true->listed.getD e.on false=true)->S w->BI P l Q S m r a w->wpAnyH P .any l.toArray Q S m listed a w:=by
 have hB':=hB;simp only[Ps,ae]at hB';obtain⟨⟨hns,z⟩,_⟩:=hB';have L:=Region.noSelect_spec hns;intro m
 induction m with
 |zero =>
  intro r listed a w hm H hr C Y hS h;have:r=[]:=List.length_eq_zero_iff.1 hm;subst this;refine⟨?_,h⟩;rw[List.eq_nil_iff_forall_not_mem];intro i hi;obtain⟨h1,o,G,_⟩:=mem_ready.1 hi;have g:i<l.length:=by have:=(Array.getElem?_eq_some_iff.1 G).1;simpa using this
  have:=(hr i).2 ⟨g,h1⟩;cases this
 |succ m ih =>
  intro r listed a w hm H hr C Y hS h;have b:∀j,j∈eC .any l.toArray listed↔j∈r/\GA l r j=true:=by
   intro j;rw[mem_ready,hr j];constructor
   ·rintro⟨h1,o,G,h2⟩;have g:j<l.length:=by have:=(Array.getElem?_eq_some_iff.1 G).1;simpa using this
    refine⟨⟨g,h1⟩,?_⟩;unfold GA;have f:l[j]?=some o:=by simpa using G
    rw[f];rw[eF];intro e he;cases hb:eD .any e with
    |false=>rfl
    |true =>
     have:=h2 e he hb;simp only[iq,fc,aO,aJ,decide_eq_false_iff_not];intro T;have h3:=((hr e.on).1 T).2;rw[getD_both h3]at this;cases this
   rintro⟨⟨g,h1⟩,h2⟩;obtain⟨o,G,hed⟩:=ZD z g;refine⟨h1,o,G,λe he hb=>?_⟩;unfold GA at h2;have f:l[j]?=some o:=by simpa using G
   rw[f,eF]at h2;have:=h2 e he;rw[hb]at this;simp only[iq,fc,aO,aJ,decide_eq_false_iff_not]at this;cases B:listed.getD e.on false with
   |true=>rfl
   |false =>
    have hel:=hed e he hb;exact absurd ((hr e.on).2 ⟨O,getD_in O B⟩) this
  have next:∀j,j∈eC .any l.toArray listed->∀K w',S w'->BI P l Q S m (r.erase j) K w'->wpAnyH P .any l.toArray Q S m (listed.setIfInBounds j true) K w':=by
   intro j x K w' hS' h';have y:=((b j).1 x).1;have U:j<listed.size:=by rw[C];exact((hr j).1 y).1
   refine ih (r.erase j) _ K w' (by rw[aG y];omega) (H.sublist List.erase_sublist) (λk=>?_) (by simpa using C) (λk ok hk hl e he hb=>?_) hS' h'
   ·rw[List.Nodup.mem_erase_iff (H.imp λh=>Nat.ne_of_lt h),hr k];by_cases n:j=k
    ·subst n;simp[U]
    rw[getD_set_ne true n];simp[Ne.symm n]
   by_cases n:j=k
   ·subst n;obtain⟨_,oj,s,u⟩:=mem_ready.1 x;have:ok=oj:=ew (hk.symm.trans s);subst this;exact getD_set_true (u e he hb)
   rw[getD_set_ne false n]at hl;exact getD_set_true (Y k ok hk hl e he hb)
  unfold BI at h;cases hp:EH l r with
  |some j =>
   rw[hp]at h;obtain⟨oj,v,A,hy,h'⟩:=h;have s:l.toArray[j]?=some oj:=by simpa using A
   have y:j∈r:=eY hp;have D:=fX hp;simp only[ae]at D;have hq:J2 oj.op=true:=by have:=D.1;unfold LW at this;rw[A]at this;exact this
   have x:j∈eC .any l.toArray listed:=(b j).2 ⟨y,D.2⟩;have hjs:=mem_ready.1 x;have Z:∀k ok,l.toArray[k]?=some ok->k≠j->listed.getD k true=false->(∀e∈ok.after,eD .any e=true->e.on≠j)->oj.apart l.toArray ok=true:=by
    intro k ok F hkj hun hno;have hnw:bp .any l.toArray k j=false:=by
     cases B:bp .any l.toArray k j with
     |false=>rfl
     |true =>
      obtain⟨o',f,e,he,hb,E⟩:=fh B;have:o'=ok:=ew (f.symm.trans F);subst this;exact absurd E (hno e he hb)
    have N:bp .any l.toArray j k=false:=by
     cases B:bp .any l.toArray j k with
     |false=>rfl
     |true =>
      obtain⟨o',f,e,he,hb,E⟩:=fh B;obtain⟨_,o2,ho2,u⟩:=hjs;have:o'=o2:=ew (f.symm.trans ho2);subst this;have:=u e he hb;rw[E,getD_both hun]at this;cases this
    rcases Nat.lt_or_gt_of_ne hkj with g | hgt
    ·have:=Pr hB g (by simpa using F) (by simpa using s) (by simp[hq]);rw[N]at this;exact Ru (by simpa using this)
    have:=Pr hB hgt (by simpa using s) (by simpa using F) (by simp[hq]);rw[hnw]at this;simpa using this
   exact wpAnyH_first s L (λc a w h=>hQ c a _ v w h) m listed a w Z x hy hS (next j x _ w hS h')
  |none =>
   rw[hp]at h
   match r,hm,H,hr,h,b,next with
   |i::r,hm,H,hr,h,b,next =>
    have X:=(hr i).1 tJ;have R:∀j,j<i->listed.getD j false=true:=by
     intro j x;cases B:listed.getD j false with
     |true=>rfl
     |false =>
      have hjl:j<l.length:=O;have:=(hr j).2 ⟨hjl,getD_in O B⟩;rcases List.mem_cons.1 this with e | e
      ·omega
      have:=(List.pairwise_cons.1 H).1 j e;omega
    obtain⟨oi,hoi,hed⟩:=ZD z X.1;have M:i∈eC .any l.toArray listed:=mem_ready.2 ⟨X.2,oi,hoi,λe he hb=>R _ (hed e he hb)⟩;refine⟨λh0=>(by rw[h0]at M;cases M),λj x=>?_⟩;have V:=(b j).1 x;exact AA (wpOp_mono (λK w' h=>⟨h.1,next j x K w' h.1 h.2⟩) (h j V.1 V.2))
theorem SK{l:List Oper}{Q':Exit->Act->World->Prop}(k:Ps l=true)(g:∀c a w,¬Q' (.panic c) a w){a:Act}{w:World}(f:S w)(h:BI P l Q' S l.length (eP 0 l.length) a w):
  wpAny P .any l.toArray Q' l.length (Array.replicate l.length false) a w:=by
 refine wpAny_of_held _ _ _ _ (ju k (λc a d v w h=>absurd h (g c _ w)) l.length (eP 0 l.length) _ a w tJ List.pairwise_lt_range' (λi=>?_) tJ (λj m _ b=>(by rw[getD_replicate_false]at b;cases b)) f h);rw[List.mem_range'_1];constructor
 ·intro h;have:i<l.length:=O;simp[this]
 intro h;omega
theorem Pj{b:Nat}{a:Act}{l:List Oper}(hm:P.follows .mixedOrders=true)(g:Ps l=true)(f:S { w with drawn:=w.drawn+1 })
  (h:BI P l (ZV (Q .normal)) S l.length (eP 0 l.length) a { w with drawn:=w.drawn+1 }):(Code.region b l.toArray true).wp P Q a w:=by
 refine wp_region_any hm ?_;have:=SK (P:=P) (Q':=ZV (Q .normal)) g (λc a w h=>h) f h;simpa using Wu (Q':=Q) (λe a w h=>by cases e<;>first | exact h | exact h.elim) _ _ _ _ this
end
section
variable{P:Program}{Q:Exit->Act->World->Prop}{N:Nat}{m:Sl}{E E0:Env}{l:List Oper}{r r':List Nat}{w0:World}{F0:Gs}{bs:List (Nat×Obj)}{G:Gs->Prop}
def JT(P:Program)(l:List Oper)(Q:Exit->Act->World->Prop)(E0:Env)(r:List Nat)(N:Nat)(m:Sl)(E:Env):Prop:=(∀w,St E w->St E0 w)->∀a w,Ja N m a->St E w->BI P l Q (St E0) r.length r a w
def EE(P:Program)(l:List Oper)(Q:Exit->Act->World->Prop)(E0:Env)(r:List Nat):Act->World->Prop:=λa w=>BI P l Q (St E0) r.length r a w
theorem JC(h:JT P l Q E0 r N m E):JD P l.toArray (ZV (EE P l Q E0 r)) E0 [] N m E:=λc a w ha b=>h c a w ha b
theorem TP(h:i∈r):r.length=(r.erase i).length+1:=by
 rw[aG h];have:=bT h;omega
theorem Jr(i:Nat){o:Oper}(hp:EH l r=some i)(b:l[i]?=some o)(he:r.erase i=r')(h:JD P l.toArray (ZV (EE P l Q E0 r')) E0 [o] N m E):JT P l Q E0 r N m E:=by
 intro f a w ha c;subst he;have hi:i∈r:=eY hp;rw[TP hi];unfold BI;rw[hp];have hq:J2 o.op=true:=by
  have:=fX hp;simp only[ae]at this;have:=this.1;unfold LW at this;rw[b]at this;exact this
 rcases h f a w ha c with ⟨_,v,h1,h2⟩ | ⟨h1,_⟩
 ·exact⟨o,v,b,h1,h2⟩
 rw[hq]at h1;cases h1
theorem Pk{o:Oper}(ho:l[i]?=some o)(hq:J2 o.op=false)(h:JD P l.toArray (ZV (EE P l Q E0 r')) E0 [o] N m E)(hE:∀w,St E w->St E0 w){a:Act}{w:World}(ha:Ja N m a)(hw:St E w):
  wpOp P l.toArray (λ_ _ _=>False) i (λa' w'=>St E0 w'/\EE P l Q E0 r' a' w') a w:=by
 have ho':l.toArray[i]?=some o:=by simpa using ho
 unfold wpOp;simp only[ho'];rcases h hE a w ha hw with ⟨h1,_⟩ | ⟨_,h2⟩
 ·rw[hq]at h1;cases h1
 split
 ·rename_i g;rw[if_pos g]at h2;exact .inl h2
 rename_i g;rw[if_neg g]at h2;exact h2
theorem QFx(hp:EH l r=none)(h:∀i∈r.filter (GA l r),∃o,l[i]?=some o/\J2 o.op=false/\JD P l.toArray (ZV (EE P l Q E0 (r.erase i))) E0 [o] N m E)(hr:r≠[]:=by decide):JT P l Q E0 r N m E:=by
 intro j a w ha c;obtain⟨x,s,rfl⟩:=bh hr;show BI P l Q (St E0) (s.length+1) (x::s) a w;unfold BI;rw[hp];intro i hi b;obtain⟨o,f,hq,g⟩:=h i (List.mem_filter.2 ⟨hi,b⟩);have:=Pk f hq g j ha c;refine wpOp_mono (λk w' h=>⟨h.1,?_⟩) this;have h2:=h.2;unfold EE at h2;rw[show s.length=((x::s).erase i).length by have:=TP hi;simp at this;omega];exact h2
theorem Xe(i:Nat){o:Oper}(hp:EH l r=none)(b:r.filter (GA l r)=[i])(a:l[i]?=some o)(hq:J2 o.op=false)(he:r.erase i=r')(h:JD P l.toArray (ZV (EE P l Q E0 r')) E0 [o] N m E)(hr:r≠[]:=by decide):JT P l Q E0 r N m E :=
 QFx hp (λk hk=>by rw[b]at hk;cases List.mem_singleton.1 hk;exact⟨o,a,hq,he ▸ h⟩) hr
theorem NO(i j:Nat){o u:Oper}{b:List Nat}(hp:EH l r=none)(f:r.filter (GA l r)=[i,j])(c:l[i]?=some o)(hu:l[j]?=some u)(hq:J2 o.op=false)(a:J2 u.op=false)(he:r.erase i=r')(he2:r.erase j=b)
  (h:JD P l.toArray (ZV (EE P l Q E0 r')) E0 [o] N m E) (h2:JD P l.toArray (ZV (EE P l Q E0 b)) E0 [u] N m E) (hr:r≠[]:=by decide):JT P l Q E0 r N m E :=
 QFx hp (λk hk=>by
  rw[f]at hk;simp only[ay,aI,or_false]at hk;rcases hk with rfl | rfl
  ·exact⟨o,c,hq,he ▸ h⟩
  exact⟨u,hu,a,he2 ▸ h2⟩) hr
theorem Kr{g:Nat}{c:List (Nat×Obj)}(b:c.Sublist bs)(hm:P.follows .mixedOrders=true)(i:Ps l=true)(hr:eP 0 l.length=r)(h:JT P l (ZV (Q .normal)) ⟨w0,F0,c,G⟩ r N m ⟨w0,F0,bs,G⟩):J P (.region g l.toArray true) Q N m ⟨w0,F0,bs,G⟩:=λa w ha f=>by
 subst hr;refine Pj hm i ((f.imp b λ_ h=>h).drew) ?_;have:=h (λ_ h=>h.imp b λ_ h=>h) a _ ha f.drew;simpa using this
theorem Yk(h:Fin Q .normal N m E):JT P l (ZV (Q .normal)) E0 [] N m E:=λ_=>h
end
end
end
def Y5(a:Rat×Rat)(n:Int):Rat×Rat:=(if(decide (n>0)&&(decide (n%2=0)&&(decide (Dm a.1.num<0)&&decide (Dm a.2.num>0))))=true then 0 else(Yi (a.1^n.toNat) [a.2^n.toNat]).1,(Yi (a.1^n.toNat) [a.2^n.toNat]).2)
end Go.Proofs.YtjcphjpkimmmjaaGreatDoor
namespace Ig
def Ya:List Int->List Int->Bool
 |x::a,y::b=>decide (y<x)||(decide (x=y)&&Ya a b)
 |_::_,[]=>true
 |[],_=>false
def before(a b:List Int):Bool:=decide (b.sum<a.sum)||(decide (a.sum=b.sum)&&Ya a b)
def ER:∀a:List Int,Ya a a=false
 |[]=>rfl
 |x::a=>by simp[Ya,ER a]
def M0:∀ {a b c:List Int},Ya a b=true->Ya b c=true->Ya a c=true
 |[],_,_,h,_=>by simp[Ya]at h
 |_::_,[],_,_,h=>by simp[Ya]at h
 |_::_,_::_,[],_,_=>rfl
 |x::a,y::b,z::c,h,k=>by
  simp only[Ya,bz,ae,decide_eq_true_eq]at h k ⊢;rcases h with h | ⟨h,g⟩<;>rcases k with k | ⟨k,f⟩
  ·left;omega
  ·left;omega
  ·left;omega
  right;exact⟨O,M0 g f⟩
def TJ:∀a b:List Int,a=b\/Ya a b=true\/Ya b a=true
 |[],[]=>.inl rfl
 |[],_::_=>.inr (.inr rfl)
 |_::_,[]=>.inr (.inl rfl)
 |x::a,y::b=>by
  simp only[Ya,bz,ae,decide_eq_true_eq,fy];rcases fR x y with h | h | h
  ·right;right;left;omega
  ·rcases TJ a b with k | k | k
   ·left;exact⟨h,k⟩
   ·right;left;right;exact⟨h,k⟩
   right;right;right;exact⟨h.symm,k⟩
  right;left;left;omega
def before_irrefl(a:List Int):before a a=false:=by simp[before,ER]
def before_trans{a b c:List Int}(h:before a b=true)(k:before b c=true):before a c=true:=by
 simp only[before,bz,ae,decide_eq_true_eq]at h k ⊢;rcases h with h | ⟨h,g⟩<;>rcases k with k | ⟨k,f⟩
 ·left;omega
 ·left;omega
 ·left;omega
 right;exact⟨O,M0 g f⟩
def G8(a b:List Int):a=b\/before a b=true\/before b a=true:=by
 simp only[before,bz,ae,decide_eq_true_eq];rcases fR a.sum b.sum with h | h | h
 ·right;right;left;exact h
 ·rcases TJ a b with k | k | k
  ·left;exact k
  ·right;left;right;exact⟨h,k⟩
  right;right;right;exact⟨h.symm,k⟩
 right;left;left;exact h
abbrev Tm:=Rat×List Int
def XR:List Tm->List Int->Rat
 |[],_=>0
 |t::p,k=>(if t.2=k then t.1 else 0)+XR p k
def Fz(p q:List Tm)(k:List Int):XR (p++q) k=XR p k+XR q k:=by
 induction p with
 |nil=>simp[XR,aP]
 |cons t p ih=>simp only[ab,XR,ih,aV]
structure Canon(p:List Tm):Prop where
 srt:p.Pairwise λx y=>before x.2 y.2=true
 nz:∀t∈p,t.1≠0
def Canon.nil:Canon []:=⟨bX,λ_ h=>by cases h⟩
def Canon.tail{t:Tm}{p:List Tm}(h:Canon (t::p)):Canon p:=⟨(List.pairwise_cons.1 h.srt).2,λx hx=>h.nz x (aq _ hx)⟩
def Gb{p:List Tm}{k:List Int}(h:∀t∈p,t.2≠k):XR p k=0:=by
 induction p with
 |nil=>rfl
 |cons t p ih=>rw[XR,if_neg (h t tJ),ih (λx hx=>h x (by simp[hx])),aP]
def Canon.head{t:Tm}{p:List Tm}(h:Canon (t::p)):XR (t::p) t.2=t.1:=by
 rw[XR,if_pos rfl,Gb,aH];intro x hx e;have:=(List.pairwise_cons.1 h.srt).1 x hx;rw[e,before_irrefl]at this;cases this
def Canon.early{t:Tm}{p:List Tm}(h:Canon (t::p)){k:List Int}(hk:before k t.2=true):XR (t::p) k=0:=Gb λx hx e=>by
 rcases List.mem_cons.1 hx with rfl | hx
 ·rw[e,before_irrefl]at hk;cases hk
 have:=before_trans hk ((List.pairwise_cons.1 h.srt).1 x hx);rw[e,before_irrefl]at this;cases this
def Ta:∀ {p q:List Tm},Canon p->Canon q->(∀k,XR p k=XR q k)->p=q
 |[],[],_,_,_=>rfl
 |[],y::q,_,hq,h=>by
  have:=h y.2;rw[hq.head]at this;exact absurd this.symm (hq.nz y tJ)
 |x::p,[],hp,_,h=>by
  have:=h x.2;rw[hp.head]at this;exact absurd this (hp.nz x tJ)
 |x::p,y::q,hp,hq,h=>by
  rcases G8 x.2 y.2 with e | e | e
  ·have h1:=h x.2;rw[hp.head]at h1;have h2:=hq.head;rw[<-e]at h2;rw[h2]at h1;have c:x=y:=Prod.ext h1 e;subst c;congr 1;refine Ta hp.tail hq.tail (λk=>?_);have h3:=h k;simp only[XR]at h3;generalize XR p k=a at *
   generalize XR q k=b at *
   grind
  ·have h1:=h x.2;rw[hp.head,hq.early e]at h1;exact absurd h1 (hp.nz x tJ)
  have h1:=h y.2;rw[hq.head,hp.early e]at h1;exact absurd h1.symm (hq.nz y tJ)
def Z0:List Tm->Tm->List Tm
 |[],t=>if t.1=0 then[]else[t]
 |x::p,t=>if before x.2 t.2=true then x::Z0 p t else if x.2=t.2 then(if x.1+t.1=0 then p else(x.1+t.1,t.2)::p)else if t.1=0 then x::p else t::x::p
def L7(p:List Tm)(t:Tm)(k:List Int):XR (Z0 p t) k=XR p k+(if t.2=k then t.1 else 0):=by
 induction p with
 |nil =>
  unfold Z0;split
  ·rename_i h;rw[h];simp[XR,aH]
  simp[XR,aP,aH]
 |cons x p ih =>
  unfold Z0;split
  ·simp only[XR,ih,aV]
  split
  ·rename_i h;split
   ·rename_i h0;simp only[XR];rw[h];by_cases hk:t.2=k
    ·simp only[hk,if_true];rw[aV,bU (XR p k),<-aV,h0,aP]
    simp only[hk,if_false,aP,aH]
   simp only[XR];rw[h];by_cases hk:t.2=k
   ·simp only[hk,if_true];rw[aV,aV,bU t.1]
   simp only[hk,if_false,aP,aH]
  split
  ·rename_i h0;rw[h0];simp[aH]
  simp only[XR];rw[bU]
def Ic{p:List Tm}{t x:Tm}(h:x∈Z0 p t):x∈p\/x.2=t.2:=by
 induction p with
 |nil =>
  unfold Z0 at h;split at h
  ·cases h
  simp at h;subst h;exact .inr rfl
 |cons y p ih =>
  unfold Z0 at h;split at h
  ·rcases List.mem_cons.1 h with rfl | h
   ·exact .inl tJ
   rcases ih h with h | h
   ·exact .inl (by simp[h])
   exact .inr h
  split at h
  ·split at h
   ·exact .inl (by simp[h])
   rcases List.mem_cons.1 h with rfl | h
   ·exact .inr rfl
   exact .inl (by simp[h])
  split at h
  ·exact .inl h
  rcases List.mem_cons.1 h with rfl | h
  ·exact .inr rfl
  exact .inl h
def Canon.Z0{p:List Tm}(h:Canon p)(t:Tm):Canon (Ig.Z0 p t):=by
 induction p with
 |nil =>
  unfold Ig.Z0;split
  ·exact Canon.nil
  rename_i h0;exact⟨List.pairwise_singleton _ _,λx hx=>by simp at hx;subst hx;exact h0⟩
 |cons x p ih =>
  have hs:=List.pairwise_cons.1 h.srt;unfold Ig.Z0;split
  ·rename_i hb;have hc:=ih h.tail;refine⟨List.pairwise_cons.2 ⟨λy hy=>?_,hc.srt⟩,λy hy=>?_⟩
   ·rcases Ic hy with hy | hy
    ·exact hs.1 y hy
    rw[hy];exact hb
   rcases List.mem_cons.1 hy with rfl | hy
   ·exact h.nz _ tJ
   exact hc.nz y hy
  rename_i hb;split
  ·rename_i he;split
   ·exact h.tail
   rename_i h0;refine⟨List.pairwise_cons.2 ⟨λy hy=>?_,hs.2⟩,λy hy=>?_⟩
   ·have:=hs.1 y hy;rw[he]at this;exact this
   rcases List.mem_cons.1 hy with rfl | hy
   ·exact h0
   exact h.nz y (by simp[hy])
  rename_i he;split
  ·exact h
  rename_i h0;have hb':before t.2 x.2=true:=by
   rcases G8 x.2 t.2 with q | q | q
   ·exact absurd q he
   ·exact absurd q hb
   exact q
  refine⟨List.pairwise_cons.2 ⟨λy hy=>?_,h.srt⟩,λy hy=>?_⟩
  ·rcases List.mem_cons.1 hy with rfl | hy
   ·exact hb'
   exact before_trans hb' (hs.1 y hy)
  rcases List.mem_cons.1 hy with rfl | hy
  ·exact h0
  exact h.nz y hy
def XO(l:List Tm):List Tm:=l.foldl Z0 []
def Rb(l:List Tm):∀ {p:List Tm},Canon p->Canon (l.foldl Z0 p)/\∀k,XR (l.foldl Z0 p) k=XR p k+XR l k:=by
 induction l with
 |nil=>intro p h;exact⟨h,λk=>by simp[XR,aH]⟩
 |cons t l ih =>
  intro p h;obtain⟨h1,h2⟩:=ih (h.Z0 t);exact⟨h1,λk=>by rw[bK,h2,L7,XR,aV]⟩
def SF(l:List Tm):Canon (XO l):=(Rb l Canon.nil).1
def Ui(l:List Tm)(k:List Int):XR (XO l) k=XR l k:=by
 rw[XO,(Rb l Canon.nil).2,XR,aP]
def U4(p q:List Tm):Prop:=∀k,XR p k=XR q k
def U4.refl(p:List Tm):U4 p p:=λ_=>rfl
def U4.trans{p q r:List Tm}(h:U4 p q)(a:U4 q r):U4 p r:=λk=>(h k).trans (a k)
def Aw{p l:List Tm}(hp:Canon p)(h:U4 p l):p=XO l:=Ta hp (SF l) λk=>by rw[Ui,h]
def RN{p:List Tm}(hp:Canon p):XO p=p:=(Aw hp (U4.refl p)).symm
def U4.perm{l m:List Tm}(h:l.Perm m):U4 l m:=by
 intro k
 induction h with
 |nil=>rfl
 |cons x _ ih=>rw[XR,XR,ih]
 |swap x y l=>simp only[XR];rw[<-aV,<-aV];congr 1;exact bU _ _
 |trans _ _ h1 h2=>exact h1.trans h2
def U4.cons{p q:List Tm}(t:Tm)(h:U4 p q):U4 (t::p) (t::q):=λk=>by rw[XR,XR,h]
def eqv_filter(p:List Tm):U4 (p.filter λt=>decide (t.1≠0)) p:=by
 induction p with
 |nil=>exact U4.refl _
 |cons t p ih =>
  rw[fP];split
  ·exact ih.cons t
  rename_i h;have h0:t.1=0:=by simpa using h
  intro k;rw[XR,h0,ih k];simp[aP]
def Wm(a b:List Int):List Int:=List.zipWith (·+·) a b
def IB{a b:List Int}(h:a.length=b.length):(Wm a b).length=a.length:=by simp[Wm,h]
def K6(s:Tm)(q:List Tm):List Tm:=q.map λt=>(s.1*t.1,Wm s.2 t.2)
def Zr(p q:List Tm):List Tm:=p.flatMap λs=>K6 s q
def Lc(s:Tm)(p q:List Tm):Zr (s::p) q=K6 s q++Zr p q:=by simp[Zr]
def DB(s:Tm)(p q:List Tm):K6 s (p++q)=K6 s p++K6 s q:=by simp[K6]
def EF(p a q:List Tm):Zr (p++a) q=Zr p q++Zr a q:=by simp[Zr]
end Ig
namespace Go.Proofs.YtjcphjpkimmmjaaGreatDoor
variable{g:FuncId}{T et kt:TypeId}{N c cap i j k m n:Nat}{x:Operand}{P:Program}{l:List Int}{y:Rat}{w:World}{F F':Gs}{a b:Rat×Rat}{A seen u:List Nat}{f:Rat->Rat->Rat}{α:Type}{β:Nat->Nat}
open Go.RowKit Ig
section
variable[Dr]
def PW(l:List Int):Prop:=(∀x∈l,0<=x/\x<=1000000)/\l.length<=1000
theorem PW.el(h:PW l){i:Nat}(hi:i<l.length):0<=Qm l i/\Qm l i<=1000000:=by rw[YW hi];exact h.1 _ (Qw hi)
theorem Sh(hi:i<l.length):(l.take (i+1)).sum=(l.take i).sum+Qm l i:=by
 rw[XE hi,eT,YW hi];simp
theorem PW.sum(h:PW l):∀i,i<=l.length->0<=(l.take i).sum/\(l.take i).sum<=i*1000000:=by
 intro i
 induction i with
 |zero=>intro _;simp
 |succ i ih =>
  intro hi;have h1:=ih O;have h2:=h.el (i:=i) O;rw[Sh O];omega
theorem Oj(l:List Int):Qs l=Qs (l.map λx=>x):=by rw[List.map_id']
def Io:List Int->List Int->Int
 |[],[]=>0
 |[],_::_=>-1
 |_::_,[]=>1
 |x::a,y::b=>if YF x y≠0 then YF x y else Io a b
theorem Ob:∀a b:List Int,(Io b a<0↔Ya a b=true)/\(Io b a=0↔a=b)
 |[],[]=>by simp[Io,Ya]
 |[],_::_=>by simp[Io,Ya]
 |_::_,[]=>by simp[Io,Ya]
 |x::a,y::b=>by
  have ih:=Ob a b;unfold Io Ya YF;by_cases h1:y<x
  ·simp[h1];omega
  by_cases h2:y=x
  ·subst h2;simp[ih.1,ih.2]
  have h3:¬x=y:=λe=>h2 e.symm;simp[h1,h2,h3]
theorem N9(x y:Int):ik x y=YF x y:=by
 unfold ik YF;by_cases h1:x<y
 ·simp[h1]
 by_cases h2:x=y
 ·subst h2;simp
 have h3:y<x:=O;simp[h1,h2,h3]
def Gj(a b:List Int):Int:=Qs [YF b.sum a.sum,Io b a]
theorem Bt(a b:List Int):before a b=decide (Gj a b<0):=by
 obtain⟨h1,h2⟩:=Ob a b;unfold before Gj;rw[ba,decide_eq_true_iff];simp only[Qs];by_cases h:b.sum<a.sum
 ·have e:YF b.sum a.sum = -1:=by unfold YF;rw[if_pos h]
  rw[e];simp[h]
 by_cases g:b.sum=a.sum
 ·have e:YF b.sum a.sum=0:=by unfold YF;rw[if_neg h,if_pos g]
  rw[e];by_cases k:Io b a=0
  ·have f:Ya a b=false:=by cases c:Ya a b with
    |false=>rfl
    |true=>have:=h1.2 c;omega
   simp[k,g,f]
  simp[k,g,h1]
 have e:YF b.sum a.sum=1:=by unfold YF;rw[if_neg h,if_neg g]
 have i:¬a.sum=b.sum:=λe=>g e.symm;rw[e];simp[h,i]
def KS(l:List Int):List UInt8:=l.flatMap λx=>ij x++[32]
theorem GX(x:Int)(l:List Int):KS (x::l)=Ze x++32::KS l:=by unfold KS;rw[bC];simp[Ze]
theorem ES:∀ {a b:List Int},KS a=KS b->a=b
 |[],[],_=>rfl
 |[],y::b,h=>by rw[GX]at h;simp[KS]at h
 |x::a,[],h=>by rw[GX]at h;simp[KS]at h
 |x::a,y::b,h=>by
  rw[GX,GX]at h;have h1:=Ei (c:=32) (a:=Ze x) (b:=KS a) (Mk x tF tF);have h2:=Ei (c:=32) (a:=Ze y) (b:=KS b) (Mk y tF tF);rw[h,h2]at h1;simp only[eW,and_true]at h1;have e:x=y:=by rw[<-Kt x,<-Kt y,h1.1]
  rw[e,ES h1.2.symm]
theorem S4{r:Sr}(k:Fits F w)(b:J8 F r l)(hp:PW l):Qf prog 318 [r.v] w F (.int .i64 l.sum):=by
 obtain⟨q,n,c⟩:=r;have f:=b.2.1;dsimp only[Sr.v]at f ⊢;have h:=hp.2;refine QU.intro (G:=λF=>J8 F ⟨q,n,c⟩ l) func318 rfl tH rfl rfl k (λF' g=>b.le g)<|wa<|wZ rfl<|wa<|wZ rfl<|QG<|wb rfl<|QA (Qg rfl Q2)<|wW rfl<|wY<|QV<|J9 (ι:={i:Nat // i<=l.length}) [(6,_),(7,_)] (λi=>[(3,.int .i64 ((l.take i.1).sum)),(8,.int .i64 ((i.1:Nat):Int))]) (λi=>l.length-i.1) (⟨0,au _⟩) wm wm λi=>?_
 simp only[ab,ag];have hi:=i.2;have m:=hp.sum i.1 hi;refine wA 6 I ?_;refine QQ I (λhc=>?_) λhc=>?_
 ·have a:i.1<l.length:=tD<|wi hc
  have he:=hp.el a;refine wC 6 I<|QA (Q3 (n:=n) (i.1) (λF b=>(b).1) rfl rfl Q2 JK O)<|QA (JA (n:=n) ((i.1)*1) (λF b=>(b).1) O rfl JK (Jz (o:=l) O))<|wD 6 I<|QA (Qu I I O)<|wB 2 I<|Qj<|QC<|QB<|QA (Qu I I O)<|wB 2 I ?_
  exact Ql (⟨i.1+1,a⟩) (by show l.length-(i.1+1)<l.length-i.1;omega) ⟨rfl,rfl,(congrArg (λz:Int=>some (aA .i64 z)) (Sh a).symm),rfl,trivial⟩ we tM
 have j:i.1=l.length:=tD<|wj hc
 refine Qx ?_
 repeat first|refine QY ?_|refine QO tH ?_
 refine QZ<|wE 8 I ?_
 exact wg I I (congrArg (aA .i64) (by rw[bS O])) tL
theorem dE{q:Option Addr}(j:Fits F w)(g:Qy F q n 1 (l.map Jo))(k:n<=1000000000):Qf prog 316 [.slice q n c] w F (.int .i64 (Qs l)):=by
 have h:l.length=n:=by have:=g.1;simpa using this
 have m:l=l.map (λx=>x):=tJ;refine QU.intro (G:=λF=>Qy F q n 1 (l.map Jo)) func316 rfl tH rfl rfl j (λF' f=>g.le f)<|wa<|wZ rfl<|wa<|wZ rfl<|QG<|wb rfl<|QA (Qg rfl Q2)<|wW rfl<|wY<|QV<|J9 (ι:=X7 l λx=>x) [(3,_),(6,_),(7,_)] (λi=>[(8,.int .i64 ((i.i:Nat):Int))]) (λi=>l.length-i.i) (X7.start _ _) wu wk λi=>?_
 simp only[ab,ag];have hi:=i.le;refine wA 6 I ?_;refine QQ I (λhc=>?_) λhc=>?_
 ·have a:i.i<l.length:=tD<|wi hc
  refine wC 6 I<|QA (Q3 (n:=n) i.i tM rfl rfl Q2 JK O)<|QA (JA (n:=n) ((i.i)*1) tM O rfl JK (Jz (o:=l) O))<|wD 10 I ?_
  refine QQ I (λhc=>?_) λhc=>?_
  ·refine wA 7 I ?_
   repeat first|refine Q6 ?_|refine Qv ?_
   exact wg I I (congrArg (aA .i64) (by rw[YW a,Oj l];exact i.hit a (by rw[<-YW a];simpa using hc))) tL
  refine QN<|Qj<|QC<|QB<|QA (Qu I I O)<|wB 2 I ?_
  exact Ql (i.next a (by rw[<-YW a];simpa using hc)) (by show l.length-(i.i+1)<l.length-i.i;omega) wv we tM
 have b:l.length<=i.i:=tD<|wj hc
 refine Qx ?_
 repeat first|refine QY ?_|refine QO tH ?_
 refine QZ<|wE 8 I ?_
 exact wg I I (congrArg (aA .i64) (by rw[Oj l];exact i.stop b)) tL
structure QCS(a b:List Int) where
 i:Nat
 la:i<=a.length
 lb:i<=b.length
 h:Io a b=Io (a.drop i) (b.drop i)
theorem QCS.cons{a b:List Int}(s:QCS a b)(ha:s.i<a.length)(hb:s.i<b.length):Io a b=if YF (Qm a s.i) (Qm b s.i)≠0 then YF (Qm a s.i) (Qm b s.i)else Io (a.drop (s.i+1)) (b.drop (s.i+1)):=by
 rw[s.h,Xr ha,Xr hb,Io]
theorem AV{ra rb:Sr}{a b:List Int}(H:Fits F w)(A:J8 F ra a)(z:J8 F rb b)(la:a.length<=1000000)(lb:b.length<=1000000):Qf prog 319 [ra.v,rb.v] w F (.int .i64 (Io a b)):=by
 obtain⟨q,n,c⟩:=ra;obtain⟨B,y,K⟩:=rb;have C:=A.2.1;have nb:=z.2.1;dsimp only[Sr.v]at C nb ⊢;refine QU.intro (G:=λF=>J8 F ⟨q,n,c⟩ a/\J8 F ⟨B,y,K⟩ b) func319 rfl tH rfl rfl H (λF' x=>⟨A.le x,z.le x⟩)<|wa<|wZ rfl<|QG<|wb rfl<|QA (Qg rfl Q2)<|wW rfl<|wY<|QV<|J9 (ι:=QCS a b) [(0,_),(1,_),(9,_),(10,_)] (λi=>[(11,.int .i64 ((i.i:Nat):Int))]) (λi=>a.length-i.i) (⟨0,au _,au _,rfl⟩) wv wk λi=>?_
 simp only[ab,ag];have E:=i.la;have D:=i.lb;refine wA 6 I ?_;refine QQ I (λhc=>?_) λhc=>?_
 ·have j:i.i<a.length:=tD<|wi hc
  refine wC 7 I<|QA (Q3 (n:=n) i.i (λF h9=>(h9.1).1) rfl rfl Q2 JK O)<|QA (JA (n:=n) ((i.i)*1) (λF h9=>(h9.1).1) O rfl JK (Jz (o:=a) O))<|wD 9 I<|QA (Qg I Q2)<|wD 3 I ?_
  refine QQ I (λhc=>?_) λhc=>?_
  ·have s:b.length<=i.i:=tD<|wi hc
   refine wA 6 I ?_
   repeat first|refine Q6 ?_|refine Qv ?_
   exact wg I I (congrArg (aA .i64) (by rw[i.h,Xr j,ax s];rfl)) tL
  have g:i.i<b.length:=tD<|wj hc
  refine wC 6 I<|QA (Q3 (n:=y) i.i (λF h9=>(h9.2).1) rfl rfl Q2 JK O)<|QA (JA (n:=y) ((i.i)*1) (λF h9=>(h9.2).1) O rfl JK (Jz (o:=b) O))<|wD 7 I<|QI I (λ_ _ f k=>El f ) λ_=>wD 9 I ?_
  refine QQ I (λhc=>?_) λhc=>?_
  ·refine wA 7 I ?_
   repeat first|refine Q6 ?_|refine Qv ?_
   exact wg I I (congrArg (aA .i64) (by rw[i.cons j g,if_pos (by rw[<-N9];simpa using hc),N9])) tL
  refine QN<|Qj<|QC<|QB<|QA (Qu I I O)<|wB 2 I ?_
  exact Ql (⟨i.i+1,j,g,by rw[i.cons j g,if_neg (by rw[<-N9];simpa using hc)]⟩) (by show a.length-(i.i+1)<a.length-i.i;omega) wy we tN
 have u:a.length<=i.i:=tD<|wj hc
 refine Qx ?_
 repeat first|refine QY ?_|refine QO tH ?_
 refine QZ<|wE 5 I<|QA (Qg I Q2)<|wW I<|QA (Qg I Q2)<|wD 3 I ?_
 refine QQ I (λhc=>?_) λhc=>?_
 ·have m:=wi hc;refine wA 6 I ?_;exact wg I I (congrArg (aA .i64) (by rw[i.h,ax u,Xr (l:=b) (k:=i.i) O];rfl)) tL
 have m:=wj hc;refine wC 8 I ?_;exact wg I I (congrArg (aA .i64) (by rw[i.h,ax u,ax O];rfl)) tL
theorem RH{ra rb:Sr}{a b:List Int}(h:Fits F w)(j:J8 F ra a)(i:J8 F rb b)(pa:PW a)(g:PW b):Qf prog 284 [ra.v,rb.v] w F (.int .i64 (Gj a b)):=by
 have la:=pa.2;have lb:=g.2;dsimp only[Sr.v];refine QU.intro (G:=λF=>J8 F ra a/\J8 F rb b) func284 rfl tH rfl rfl h (λF' c=>⟨j.le c,i.le c⟩)<|wa<|wZ rfl<|wb rfl<|QI rfl (λ_ _ f k=>S4 f (r:=rb) k.2 (g)) λ_=>wW rfl<|QI rfl (λ_ _ f k=>S4 f (r:=ra) k.1.1 (pa)) λ_=>QI rfl (λ_ _ f k=>El f ) λ_=>?_
 rw[N9];refine wB 2 I<|QI I (λ_ _ f k=>AV f (ra:=rb) (rb:=ra) k.1.1.1.2 (k.1.1.1.1) O O) λ_=>Qb I (Q5 Q2) JK R4 I I λl=>QI I (λ_ _ f k=>dE f (Qy.of (cs:=fu Jo [YF b.sum a.sum,Io b a]) k.2 I) tF) λ_=>wD 4 I ?_
 exact wg I I (rfl) tL
end
def ZF{κ:Type}(K:κ->Value):List (κ×Value)->Nat->List MapEntry
 |[],_=>[]
 |x::l,i=>⟨K x.1,x.2,i⟩::ZF K l (i+1)
def Zy{κ:Type}(K:κ->Value)(l:List (κ×Value)):Obj:=.map (ZF K l 0).toArray l.length
def VX{κ:Type}[DecidableEq κ]:List (κ×Value)->κ->Nat->Option (Nat×Value)
 |[],_,_=>none
 |x::l,k,i=>if k=x.1 then some (i,x.2)else VX l k (i+1)
def NX{κ:Type}[DecidableEq κ]:List (κ×Value)->κ->Value->List (κ×Value)
 |[],k,v=>[(k,v)]
 |x::l,k,v=>if k=x.1 then(k,v)::l else x::NX l k v
structure qy(P:Program)(kt:TypeId){κ:Type}[DecidableEq κ](K:κ->Value):Prop where
 chk:∀e w k,(Instr.checkKey e 10000 kt (K k)).run P w = .ok () w
 find:∀w k (l:List (κ×Value)),(Instr.findKey kt (K k) (ZF K l 0)).run P w = .ok (VX l k 0) w
 same:∀k,Instr.sameBits 10000 (K k) (K k)=true
section
variable{κ:Type}{K:κ->Value}
def MV:∀(l:List (κ×Value)) i,(ZF K l i).length=l.length
 |[],_=>rfl
 |_::l,i=>by simp[ZF,MV l]
theorem Rj:∀(l:List (κ×Value)) i k v,ZF K (l++[(k,v)]) i=ZF K l i++[⟨K k,v,i+l.length⟩]
 |[],i,k,v=>by simp[ZF]
 |x::l,i,k,v=>by
  simp only[ab,ZF,Rj l,ar];rw[show i+1+l.length=i+(l.length+1)from by omega]
def GZ:∀(l:List (κ×Value)) (i j:Nat),(ZF K l i)[j]?=l[j]?.map λx=>(⟨K x.1,x.2,i+j⟩:MapEntry)
 |[],_,_=>by simp[ZF]
 |x::l,i,0=>by simp[ZF]
 |x::l,i,j+1=>by
  simp only[ZF,ff,GZ l];rw[show i+1+j=i+(j+1)from by omega]
theorem TQ:∀(l:List (κ×Value)) i j k v,ZF K (l.set j (k,v)) i=(ZF K l i).modify j λe=>{ e with key:=K k,val:=v }
 |[],_,_,_,_=>by simp[ZF]
 |x::l,i,0,k,v=>by simp[ZF]
 |x::l,i,j+1,k,v=>by simp[ZF,TQ l]
theorem Dg:∀(l:List (κ×Value)) i,∀e∈ZF K l i,i<=e.born/\e.born<i+l.length
 |[],_,e,h=>by cases h
 |x::l,i,e,h=>by
  simp only[ZF,ay]at h;rcases h with rfl | h
  ·simp
  have:=Dg l (i+1) e h;simp only[ar];omega
theorem M9:∀(l:List (κ×Value)) i,((ZF K l i).map (·.born)).Nodup
 |[],_=>ee
 |x::l,i=>by
  simp only[ZF,af];refine List.nodup_cons.2 ⟨λh=>?_,M9 l (i+1)⟩;obtain⟨e,he,h⟩:=List.mem_map.1 h;have:=(Dg l (i+1) e he).1;omega
variable[DecidableEq κ]
theorem Dd:∀ {l:List (κ×Value)} {k i j v},VX l k i=some (j,v)->i<=j/\j-i<l.length/\l[j-i]?=some (k,v)
 |[],_,_,_,_,h=>by cases h
 |x::l,k,i,j,v,h=>by
  simp only[VX]at h;split at h
  ·rename_i e;cases h;subst e;simp
  obtain⟨h1,h2,h3⟩:=Dd h;refine⟨O,by simp only[ar];omega,?_⟩;rw[show j-i=(j-(i+1))+1 from by omega,ff];exact h3
theorem S2:∀ {l:List (κ×Value)} {k v i},VX l k i=none->NX l k v=l++[(k,v)]
 |[],_,_,_,_=>rfl
 |x::l,k,v,i,h=>by
  simp only[VX]at h;split at h
  ·cases h
  rename_i e;simp only[NX,if_neg e,ab,S2 h]
theorem S1:∀ {l:List (κ×Value)} {k v i j u},VX l k i=some (j,u)->NX l k v=l.set (j-i) (k,v)
 |[],_,_,_,_,_,h=>by cases h
 |x::l,k,v,i,j,u,h=>by
  simp only[VX]at h;split at h
  ·rename_i e;cases h;simp[NX,e]
  rename_i e;have:=(Dd h).1;simp only[NX,if_neg e,S1 h];rw[show j-i=(j-(i+1))+1 from by omega];rfl
end
def LO(a b:List UInt8):Instr.sameNow .string (tx a) (tx b)=some (decide (a=b)):=by
 show some ((⟨a.toArray⟩:ByteArray)==⟨b.toArray⟩)=_;congr 1;rw[ba,decide_eq_true_iff,fz];constructor
 ·intro h;cases h;rfl
 intro h;rw[h]
theorem Re(k:List UInt8):∀(l:List (List UInt8×Value)) (i n:Nat),ie .string (tx k) (ZF tx l n) i=some (VX l k i)
 |[],_,_=>rfl
 |x::l,i,n=>by
  simp only[ZF,ie,LO,VX];by_cases h:k=x.1
  ·simp[h]
  simp[h,Re k l]
theorem qy.str(h:P.underlying kt=some .string):qy P kt tx where
 chk:=λe w k=>MapKept.run_checkKey (k:=tx k) h (by simp[MapKept.IsKey,tx]) e 9999
 find:=λw k l=>MapKept.run_findKey h (Re k l 0 0)
 same:=λk=>by
  show(fO k.toArray==fO k.toArray)=true;rw[fz]
def zvB(P:Program)(T:TypeId):Option Value:=match P.info? T with
 |some i=>i.zero
 |none=>none
theorem vp{z:Value}(h:zvB P T=some z)(w:World):(zeroValue T).run P w = .ok z w:=by
 unfold zvB at h;split at h
 ·rename_i i hi;simp[zeroValue,typeInfo,hi,h]
 cases h
def Lp(P:Program)(T a b:TypeId):Bool:=match P.underlying T with | some (.map k e)=>aE k a&&aE e b | _=>false
def UG(h:Lp P T kt et=true):P.underlying T=some (.map kt et):=by
 unfold Lp at h;split at h
 ·rename_i e;simp only[ae]at h;have h1:=aF h.1;have h2:=aF h.2;rw[e,h1,h2]
 cases h
section
variable[Dr][df:Df]{P:Program}{Q:Exit->Act->World->Prop}{N:Nat}{m:Sl}{E E0:Env}{ops:Array Oper}{l:List Oper}{w0:World}{F0:Gs}{bs:List (Nat×Obj)}{G:Gs->Prop}{d:Nat}{ty:TypeId}{pos:String}{aft:Array Edge}
theorem HM{κ:Type}(K:κ->Value){T:TypeId}(k:∀b,JS P ops Q l N ((d,.map (some b))::m) ⟨w0,F0,(b,Zy K [])::bs,G⟩)(hd:J5 N (some d)=true:=by rfl):
  JS P ops Q (⟨some d,.makeMap T none,ty,pos,aft,none⟩::l) N m ⟨w0,F0,bs,G⟩:=λa w ha g=>by
 have f:(execOp a.eval ⟨some d,.makeMap T none,ty,pos,aft,none⟩).run P w = .ok (.value (.map (some w.heap.size))) (w.alloc (.map #[] 0)):=by
  simp[execOp,Instr.makeMap]
 exact wpList_plain rfl λKk h=>upon_value f (h _ _ (k _ _ _ (ha.put hd _) (g.alloc _ λc fr e=>by cases e)))
variable{κ:Type}[DecidableEq κ]{K:κ->Value}{kv:List (κ×Value)}{b:Nat}{f:Obj->List (Nat×Obj)}
theorem xf{y:Operand}{k:κ}{v:Value}(hq:qy P kt K)(hx:ev m x=some (.map (some b)))(hy:ev m y=some (K k))(ht:Lp P T kt et=true)(g:Own bs b (Zy K kv) f)(h:VX kv k 0=some (i,v)):
  Qt P N m (St ⟨w0,F0,bs,G⟩) (.lookup T x y true) ty (.tuple #[v,.bool true]):=λa w _ _ _ _ ha c=>by
 have hb:=c.own g;unfold Zy at hb;have hu:=UG ht;simp[execOp,ha.ev hx,ha.ev hy,il,run_underlying hu,bB hb,hq.chk,hq.find,h]
theorem C7{y:Operand}{k:κ}{z:Value}(hq:qy P kt K)(hx:ev m x=some (.map (some b)))(hy:ev m y=some (K k))(ht:Lp P T kt et=true)(hz:zvB P et=some z)(g:Own bs b (Zy K kv) f)(h:VX kv k 0=none):
  Qt P N m (St ⟨w0,F0,bs,G⟩) (.lookup T x y true) ty (.tuple #[z,.bool false]):=λa w _ _ _ _ ha c=>by
 have hb:=c.own g;unfold Zy at hb;have hu:=UG ht;simp[execOp,ha.ev hx,ha.ev hy,il,run_underlying hu,bB hb,hq.chk,hq.find,h,vp hz]
theorem Te{y z:Operand}{k:κ}{v:Value}(hq:qy P kt K)(hx:ev m x=some (.map (some b)))(hy:ev m y=some (K k))(hz:ev m z=some v)(ht:Lp P T kt et=true)(s:Own bs b (Zy K kv) f)
  (n:JS P ops Q l N m ⟨w0,F0,f (Zy K (NX kv k v)),G⟩):JS P ops Q (⟨none,.mapUpdate T x y z,ty,pos,aft,none⟩::l) N m ⟨w0,F0,bs,G⟩:=λa w ha o=>by
 have hb:=o.own s;obtain⟨pre,post,C,B⟩:=s.split;subst C;rw[B]at n;have hu:=UG ht;have g:=hb;unfold Zy at g;have h:(execOp a.eval ⟨none,.mapUpdate T x y z,ty,pos,aft,none⟩).run P w = .ok .skip { w with heap:=w.heap.setIfInBounds b (Zy K (NX kv k v)) }:=by
  cases j:VX kv k 0 with
  |none =>
   have e:Zy K (NX kv k v) = .map ((ZF K kv 0).toArray.push ⟨K k,v,kv.length⟩) (kv.length+1):=by
    rw[S2 j];simp[Zy,Rj]
   rw[e];simp[execOp,ha.ev hx,ha.ev hy,ha.ev hz,fU,run_underlying hu,bB g,hq.chk,hq.find,j,eZ _ g]
  |some r =>
   obtain⟨i,u⟩:=r;obtain⟨_,h2,h3⟩:=Dd j;rw[eL]at h2 h3;have e:Zy K (NX kv k v) = .map ((ZF K kv 0).toArray.modify i λe=>{ e with key:=K k,val:=v }) kv.length:=by
    rw[S1 j];unfold Zy;rw[eL,TQ,aZ];congr 1;apply fG;simp
   have hk:((((ZF K kv 0).toArray[i]?).map (·.key)).getD (K k))=K k:=by
    simp[GZ,h3]
   rw[e];simp only[execOp,ha.ev hx,ha.ev hy,ha.ev hz,fU,bY,run_underlying hu,bB g,hq.chk,hq.find,j,bO,hk,Instr.keyThatStays,hq.same,if_true,fp,eZ _ g]
 exact wpList_plain rfl λKk A=>upon_skip h (A _ _ (n _ _ ha (o.write pre ⟨rfl,rfl,rfl,rfl,rfl⟩ λc fr e=>by cases e)))
def nxA(kv:List (κ×Value))(K:κ->Value):Option Nat->Array Value
 |some j=>match kv[j]? with
  |some p=>#[.bool true,K p.1,p.2]
  |none=>#[.bool true]
 |none=>#[.bool false]
def nxS(a:List Nat):Option Nat->List Nat
 |some j=>a++[j]
 |none=>a
def nxP(n:Nat)(a:List Nat):Option Nat->Prop
 |some j=>j<n/\j∉a
 |none=>∀j,j<n->j∈a
omit [DecidableEq κ] in
theorem QE4(x:Option Nat):(nxA kv K x)[0]?=some (.bool x.isSome):=by
 cases x with
 |none=>rfl
 |some j =>
  simp only[nxA]
  cases kv[j]?<;>rfl
def jM(b n:Nat)(a:List Nat):Obj:=.mapIter (some b) n a.toArray n
omit [DecidableEq κ] in
theorem IK(hx:ev m x=some (.map (some b)))(ht:Lp P T kt et=true)(i:Own bs b (Zy K kv) f)(k:∀r,JS P ops Q l N ((d,.pointer (some ⟨r,0,none⟩))::m) ⟨w0,F0,(r,jM b kv.length [])::bs,G⟩)(hd:J5 N (some d)=true:=by rfl):
  JS P ops Q (⟨some d,.range T x,ty,pos,aft,none⟩::l) N m ⟨w0,F0,bs,G⟩:=λa w ha h=>by
 have hb:=h.own i
 unfold Zy at hb
 have g:(execOp a.eval ⟨some d,.range T x,ty,pos,aft,none⟩).run P w = .ok (.value (.pointer (some ⟨w.heap.size,0,none⟩))) (w.alloc (jM b kv.length [])):=by
  simp[execOp,ha.ev hx,run_range_map w T kt et b _ _ (UG ht) hb,jM]
 exact wpList_plain rfl λKk j=>upon_value g (j _ _ (k _ _ _ (ha.put hd _) (h.alloc _ λc fr e=>by cases e)))
omit [DecidableEq κ] in
theorem OG{r:Nat}{g:Obj->List (Nat×Obj)}(hx:ev m x=some (.pointer (some ⟨r,0,none⟩)))(hr:Own bs r (jM b kv.length seen) g)(C:Own bs b (Zy K kv) f)
  (k:∀x,nxP kv.length seen x->JS P ops Q l N ((d,.tuple (nxA kv K x))::m) ⟨w0,F0,g (jM b kv.length (nxS seen x)),G⟩) (hd:J5 N (some d)=true:=by rfl) :
  JS P ops Q (⟨some d,.next x false,ty,pos,aft,none⟩::l) N m ⟨w0,F0,bs,G⟩:=λa w ha n=>by
 have hb:=n.own C
 have hi:=n.own hr
 unfold Zy at hb
 obtain⟨pre,post,E,D⟩:=hr.split
 subst E
 simp only[D]at k
 have o:∀e∈(ZF K kv 0).toArray.toList,e.born<kv.length:=λe he=>by have:=(Dg kv 0 e (by simpa using he)).2;omega
 rcases run_next_at (P:=P) w ty r b kv.length kv.length seen.toArray (ZF K kv 0).toArray kv.length hi hb o (aY _)with ⟨h0,hn⟩ | ⟨e,he,w1,hw1,hn⟩
 ·have h:(execOp a.eval ⟨some d,.next x false,ty,pos,aft,none⟩).run P w = .ok (.value (.tuple (nxA kv K none))) w:=by
   simp[execOp,ha.ev hx,hn,nxA]
  refine wpList_plain rfl λKk z=>upon_value h (z _ _ (k none (λj i=>?_) _ _ (ha.put hd _) n))
  have hm:(⟨K kv[j].1,kv[j].2,j⟩:MapEntry)∈ZF K kv 0:=by
   have:=GZ (K:=K) kv 0 j
   rw[av i,bL]at this
   exact fq this
  have hz:leftOf (ZF K kv 0).toArray seen.toArray=#[]:=Array.eq_empty_of_size_eq_zero h0
  unfold leftOf at hz
  rw[Array.filter_eq_empty_iff]at hz
  have:=hz _ (by simpa using hm)
  simpa using this
 unfold leftOf at he
 simp only[List.mem_toArray,Array.mem_toList_iff,Array.mem_filter]at he
 obtain⟨hm,B⟩:=he
 obtain⟨j,i,u⟩:=fF hm
 rw[MV]at i
 have A:=GZ (K:=K) kv 0 j
 rw[av i,av (by rw[MV];exact i),u,bL]at A
 have y:e=⟨K kv[j].1,kv[j].2,j⟩:=by simpa using A
 subst y
 have h:(execOp a.eval ⟨some d,.next x false,ty,pos,aft,none⟩).run P w = .ok (.value (.tuple (nxA kv K (some j)))) (ChangeMaps.setBlock w1 r (jM b kv.length (nxS seen (some j)))):=by
  simp[execOp,ha.ev hx,hn,nxA,i,jM,nxS]
 have s:St ⟨w0,F0,pre++(r,jM b kv.length seen)::post,G⟩ w1:=by
  rcases hw1 with rfl | rfl
  ·exact n
  exact n.drew
 exact wpList_plain rfl λKk z=>upon_value h (z _ _ (k (some j) ⟨i,by simpa using B⟩ _ _ (ha.put hd _) (s.write pre ⟨rfl,rfl,rfl,rfl,rfl⟩ λc fr e=>by cases e)))
omit [DecidableEq κ] in
theorem gk{r:Nat}{p:κ×Value}{g:Obj->List (Nat×Obj)}(hx:ev m x=some (.pointer (some ⟨r,0,none⟩)))(hr:Own bs r (jM b kv.length (seen++[j])) g)(k:Own bs b (Zy K kv) f)(l:kv[j]?=some p):
  Qt P N m (St ⟨w0,F0,bs,G⟩) (.entry x) ty (.tuple #[K p.1,p.2]):=λa w _ _ _ _ ha h=>by
 have hb:=h.own k
 have hi:=h.own hr
 unfold Zy at hb
 have i:=GZ (K:=K) kv 0 j
 rw[l,bL]at i
 have c:=fq i
 have:=run_entry_at (P:=P) w r b kv.length seen.toArray (ZF K kv 0).toArray kv.length ⟨K p.1,p.2,j⟩ (by rw[hi];simp[jM]) hb (by simpa using c) (by simpa using M9 kv 0)
 simp[execOp,ha.ev hx,this]
end
def qM(l:List Int)(x:Int):KS (l++[x])=(KS l++ij x)++[32]:=by unfold KS;rw[aW];simp
def TK{x:Int}(h:0<=x/\x<=1000000):(ij x).length<=21:=Lib.itoa_length_le x O O
theorem FT:∀ {l:List Int},(∀x∈l,0<=x/\x<=1000000)->(KS l).length<=22*l.length
 |[],_=>by simp[KS]
 |x::l,h=>by
  have h1:=TK (h x tJ);have h2:=FT (l:=l) (λy hy=>h y (by simp[hy]));rw[GX];simp only[aj,ar];change (Ze x).length<=21 at h1;omega
structure QH5(b:Nat)(l:List Int) where
 i:Nat
 ob:List (Nat×Obj)
 le:i<=l.length
 bl:Iu b (KS (l.take i)) ob
theorem zE{r:Sr}(C:Fits F w)(A:JE F)(B:J8 F r l)(hp:PW l):Qf prog 281 [r.v] w F (tx (KS l)):=by
 obtain⟨q,n,c⟩:=r;have u:=B.2.1;dsimp only[Sr.v]at u ⊢;have D:=hp.2;refine QU.intro (G:=λF=>JE F/\J8 F ⟨q,n,c⟩ l) func281 rfl tH rfl rfl C (λF' s=>⟨A.le s,B.le s⟩)<|wa<|wZ rfl<|wa<|Qc uW λb3=>wY<|QG<|wb rfl<|QA (Qg rfl Q2)<|wW rfl<|wY<|QV<|JU (ι:=QH5 b3 l) [(3,_),(6,_),(7,_)] (λi=>[(8,.int .i64 ((i.i:Nat):Int))]) (λi=>i.ob++[]) (λi F=>True) (λi=>l.length-i.i) (⟨0,_,au _,by rw[List.take_zero];exact .fresh⟩) wu wk we tL λi=>?_
 have hi:=i.le;have y:=FT (l:=l.take i.i) (λx hx=>hp.1 x (ei hx));rw[aQ]at y;refine wA 6 I ?_;refine QQ I (λhc=>?_) λhc=>?_
 ·have a:i.i<l.length:=tD<|wi hc
  have he:=hp.el a;have E:=TK he;refine wC 6 I<|QA (Q3 (n:=n) i.i (λF h9=>(h9.1.2).1) rfl rfl Q2 JK O)<|QA (JA (n:=n) ((i.i)*1) (λF h9=>(h9.1.2).1) O rfl JK (Jz (o:=l) O))<|wD 6 I<|QI I (λ_ _ f k=>yJ f k.1.1 (O) (O)) λ_=>XX I (aK _) (W7 i.bl O) λK=>JQ _ (λ_ _ f h=>h.2) λb=>wY<|QB<|XX I (aK _) (U7 (c:=32) b (by rw[aj];omega)) λj=>JQ _ (λ_ _ f h=>h.2) λg=>?_
  rw[<-qM,YW a,<-XE a]at g;refine QE<|Qj<|QC<|QB<|QA (Qu I I O)<|wB 2 I ?_
  exact Ql (⟨i.i+1,j,a,g⟩) (by show l.length-(i.i+1)<l.length-i.i;omega) wv we λF h=>⟨h.1.1.1.1,trivial⟩
 have z:i.i=l.length:=tD<|wj hc
 refine Qx ?_
 repeat first|refine QY ?_|refine QO tH ?_
 refine QZ<|wE 3 I ?_
 have b:=i.bl;rw[z,aC]at b;refine NP (v:=tx (KS l)) C rfl (enters_of func290 tH rfl) (λw' m=>Builder_String_any w.heap.size b3 (KS l) w' (b.is m) (by obtain⟨F',H⟩:=m;exact H.ext.size))<|wD 4 I ?_
 exact wg I I (rfl) tL
end Go.Proofs.YtjcphjpkimmmjaaGreatDoor
namespace Ig
def Mb:List Tm->Tm->List Tm
 |[],n=>[n]
 |t::l,n=>if n.2=t.2 then n::l else t::Mb l n
def Td:∀(l:List Tm) (n:Tm),∀k,k∈(Mb l n).map (·.2)->k=n.2\/k∈l.map (·.2)
 |[],n,k,h=>by simp[Mb]at h;exact .inl h
 |t::l,n,k,h=>by
  simp only[Mb]at h;split at h
  ·simp only[af,ay]at h ⊢;rcases h with h | h
   ·exact .inl h
   exact .inr (.inr h)
  simp only[af,ay]at h ⊢;rcases h with h | h
  ·exact .inr (.inl h)
  rcases Td l n k h with h | h
  ·exact .inl h
  exact .inr (.inr h)
def Rv:∀ {l:List Tm} (n:Tm),(l.map (·.2)).Nodup->((Mb l n).map (·.2)).Nodup
 |[],n,_=>by simp[Mb]
 |t::l,n,h=>by
  simp only[af]at h;obtain⟨h1,h2⟩:=List.nodup_cons.1 h;simp only[Mb];split
  ·rename_i e;simp only[af];rw[e];exact h
  rename_i e;simp only[af];refine List.nodup_cons.2 ⟨λhm=>?_,Rv n h2⟩;rcases Td l n _ hm with g | g
  ·exact e g.symm
  exact h1 g
def TX:∀ {l:List Tm} (n:Tm),(l.map (·.2)).Nodup->∀k,XR (Mb l n) k=if n.2=k then n.1 else XR l k
 |[],n,_,k=>by simp[Mb,XR,aH]
 |t::l,n,h,k=>by
  simp only[af]at h;obtain⟨h1,h2⟩:=List.nodup_cons.1 h;have hz:XR l t.2=0:=Gb λx hx e=>h1 (e ▸ aa (f:=(·.2)) hx);simp only[Mb];split
  ·rename_i e;simp only[XR];by_cases g:n.2=k
   ·have g2:t.2=k:=e ▸ g;rw[if_pos g,if_pos g,<-g2,hz,aH]
   have g2:¬t.2=k:=λq=>g (e.trans q);rw[if_neg g,if_neg g,if_neg g2]
  rename_i e;simp only[XR];rw[TX n h2 k];by_cases g:n.2=k
  ·have g2:¬t.2=k:=λq=>e (g.trans q.symm);rw[if_pos g,if_neg g2,if_pos g,aP]
  rw[if_neg g,if_neg g]
structure kP(T l:List Tm):Prop where
 nd:(T.map (·.2)).Nodup
 eq:U4 T l
def kP.nil:kP [] []:=⟨ee,U4.refl _⟩
def kP.add{T l:List Tm}(h:kP T l)(f:Rat)(p:List Int):kP (Mb T (f+XR T p,p)) (l++[(f,p)]) :=
 ⟨Rv _ h.nd,λk=>by
  rw[TX _ h.nd,Fz,<-h.eq k];simp only[XR];by_cases g:p=k
  ·rw[if_pos g,if_pos g,g,aH];exact bU _ _
  rw[if_neg g,if_neg g,aH,aH]⟩
def kP.Fy{T l:List Tm}(h:kP T l){t:Tm}(ht:t∈T):XR T t.2=t.1:=by
 have a:∀ {T:List Tm},(T.map (·.2)).Nodup->t∈T->XR T t.2=t.1:=by
  intro T
  induction T with
  |nil=>intro _ h;cases h
  |cons x T ih =>
   intro b hm;simp only[af]at b;obtain⟨h1,h2⟩:=List.nodup_cons.1 b;rcases List.mem_cons.1 hm with rfl | hm
   ·simp only[XR];have hz:XR T t.2=0:=Gb λx hx e=>h1 (e ▸ aa (f:=(·.2)) hx);rw[if_pos trivial,hz,aH]
   simp only[XR];have:¬x.2=t.2:=λe=>h1 (e ▸ aa (f:=(·.2)) hm);rw[if_neg this,ih h2 hm,aP]
 exact a h.nd ht
def qc{T:List Tm}{p:List Int}(h:p∉T.map (·.2)):XR T p=0:=Gb λx hx e=>h (e ▸ aa (f:=(·.2)) hx)
def kP.norm{T l s:List Tm}(h:kP T l)(hp:s.Perm (T.filter λt=>decide (t.1≠0)))(a:s.Pairwise λx y=>before x.2 y.2=true):s=XO l:=by
 refine Aw ⟨a,λt ht=>?_⟩ ((U4.perm hp).trans ((eqv_filter T).trans h.eq));have:=(hp.mem_iff).1 ht;simpa using(List.mem_filter.1 this).2
end Ig
namespace Go.Proofs.YtjcphjpkimmmjaaGreatDoor
variable{g:FuncId}{T et kt:TypeId}{N c cap i j k m n:Nat}{x:Operand}{P:Program}{l:List Int}{y:Rat}{w:World}{F F':Gs}{a b:Rat×Rat}{A seen u:List Nat}{f:Rat->Rat->Rat}{α:Type}{β:Nat->Nat}
open Go.RowKit Ig
structure ZY where
 x:Fr
 r:Sr
 t:Tm
instance :Inhabited ZY:=⟨⟨⟨⟨0,none,0,0⟩,⟨0,none,0,0⟩⟩,⟨none,0,0⟩,(0,[])⟩⟩
def WQ(t:ZY):List Value:=[.int .i64 t.x.n.s,.slice t.x.n.q t.x.n.n t.x.n.cap,.int .i64 t.x.d.s,.slice t.x.d.q t.x.d.n t.x.d.cap,.slice t.r.q t.r.n t.r.cap]
@[reducible] def jK (t:ZY):Value:=.agg #[.int .i64 t.x.n.s,.slice t.x.n.q t.x.n.n t.x.n.cap,.int .i64 t.x.d.s,.slice t.x.d.q t.x.d.n t.x.d.cap,.slice t.r.q t.r.n t.r.cap]
theorem Bf(t:ZY):(WQ t).length=5:=rfl
def jU(F:Gs)(t:ZY):Prop:=JR F t.x t.t.1/\J8 F t.r t.t.2
def jU.le{t:ZY}(h:jU F t)(k:Gs.le F F'):jU F' t:=⟨h.1.le k,h.2.le k⟩
def GG(F:Gs)(ts:List ZY):Prop:=∀t∈ts,jU F t
def GG.le{ts:List ZY}(h:GG F ts)(k:Gs.le F F'):GG F' ts:=λt ht=>(h t ht).le k
def He(ts:List ZY):List (List UInt8×Value):=ts.map λt=>(KS t.t.2,jK t)
def J4(ts:List ZY):List Tm:=ts.map (·.t)
def addN:List ZY->ZY->List ZY
 |[],n=>[n]
 |t::l,n=>if n.t.2=t.t.2 then n::l else t::addN l n
theorem AN:∀(ts:List ZY) (n:ZY),J4 (addN ts n)=Mb (J4 ts) n.t
 |[],n=>rfl
 |t::l,n=>by
  have ih:=AN l n;unfold J4 at ih ⊢;simp only[addN,af,Mb];split
  ·simp
  simp[ih]
theorem RV:∀(ts:List ZY) (n:ZY),He (addN ts n)=NX (He ts) (KS n.t.2) (jK n)
 |[],n=>rfl
 |t::l,n=>by
  have ih:=RV l n;unfold He at ih ⊢;simp only[addN,af,NX];by_cases h:n.t.2=t.t.2
  ·rw[if_pos h,if_pos (congrArg KS h)];simp
  rw[if_neg h,if_neg λe=>h (ES e)];simp[ih]
theorem RR{ts:List ZY}{n x:ZY}(h:x∈addN ts n):x=n\/x∈ts:=by
 induction ts with
 |nil=>simp[addN]at h;exact .inl h
 |cons t l ih =>
  simp only[addN]at h;split at h
  ·rcases List.mem_cons.1 h with h | h
   ·exact .inl h
   exact .inr (aq _ h)
  rcases List.mem_cons.1 h with h | h
  ·exact .inr (h ▸ aB)
  rcases ih h with h | h
  ·exact .inl h
  exact .inr (aq _ h)
theorem cw:∀(ts:List ZY) (p:List Int) (i:Nat),(VX (He ts) (KS p) i=none/\p∉(J4 ts).map (·.2))\/∃j,∃t∈ts,t.t.2=p/\VX (He ts) (KS p) i=some (j,jK t)
 |[],_,_=>.inl ⟨rfl,by simp[J4]⟩
 |t::l,p,i=>by
  by_cases h:p=t.t.2
  ·exact .inr ⟨i,t,aB,h.symm,by show(if _ then _ else _)=_;rw[if_pos (congrArg KS h)]⟩
  rcases cw l p (i+1)with ⟨h1,h2⟩ | ⟨j,u,hu,h1,h2⟩
  ·refine .inl ⟨?_,?_⟩
   ·show(if _ then _ else _)=_;rw[if_neg λe=>h (ES e)];exact h1
   simp only[J4,af,ay,not_or];exact⟨h,h2⟩
  refine .inr ⟨j,u,aq _ hu,h1,?_⟩;show(if _ then _ else _)=_;rw[if_neg λe=>h (ES e)];exact h2
def Yr(l:List Tm):Nat:=(l.map λt=>JW t.1+1).sum
def Zi(l m:List Tm):Yr (l++m)=Yr l+Yr m:=by unfold Yr;rw[aL,eT]
theorem Sf:∀(l:List Tm) (k:List Int),JW (XR l k)<=Yr l+1
 |[],k=>by show JW (0:Rat)<=_;decide
 |t::l,k=>by
  have h1:=Sf l k;simp only[XR];have h2:=Kz (if t.2=k then t.1 else 0) (XR l k);have h3:JW (if t.2=k then t.1 else 0)<=JW t.1+1:=by
   split
   ·omega
   have:JW (0:Rat)<=1:=tF;omega
  have e:Yr (t::l)=JW t.1+1+Yr l:=by unfold Yr;rw[af,bQ]
  have h4:JW (XR (t::l) k)<=Yr l+1+(JW t.1+1):=by
   simp only[XR];by_cases g:t.2=k
   ·rw[if_pos g]at h2 ⊢;omega
   rw[if_neg g,aP];omega
  rw[e];simp only[XR]at h4;omega
structure WK(ts:List ZY)(l:List Tm):Prop where
 gG:kP (J4 ts) l
 pw:∀t∈ts,PW t.t.2
 ln:ts.length<=l.length
def WK.nil:WK [] []:=⟨kP.nil,(λ_ h=>by cases h),aY _⟩
theorem kI(ts:List ZY)(n:ZY):(addN ts n).length<=ts.length+1:=by
 induction ts with
 |nil=>exact aY _
 |cons t l ih =>
  simp only[addN];split<;>simp only[ar]<;>omega
def WK.add{ts:List ZY}{l:List Tm}(h:WK ts l){f:Rat}{p:List Int}(hp:PW p){n:ZY}(a:n.t=(f+XR (J4 ts) p,p)):WK (addN ts n) (l++[(f,p)]) :=
 ⟨by rw[AN,a];exact h.gG.add f p,λt ht=>by
  rcases RR ht with rfl | ht
  ·rw[a];exact hp
  exact h.pw t ht,by have:=kI ts n;have:=h.ln;rw[aj];simp only[bZ];omega⟩
theorem WK.sz{ts:List ZY}{l:List Tm}(h:WK ts l){t:ZY}(ht:t∈ts):JW t.t.1<=Yr l+1:=by
 rw[<-h.gG.Fy (aa (f:=ZY.t) ht),h.gG.eq];exact Sf _ _
theorem RQ:Lp prog 266 9 263=true:=tE
theorem UO:qy prog 9 tx:=.str tE
theorem vo:zvB prog 263=some (.agg #[.int .i64 0,.slice none 0 0,.int .i64 0,.slice none 0 0,.slice none 0 0]):=tE
section
theorem Ut{Q:Exit->Act->World->Prop}{m:Sl}{w0:World}{F0:Gs}{bs:List (Nat×Obj)}{G H:Gs->Prop}{c:Code}(h:∀F,G F->H F)(k:J P c Q N m ⟨w0,F0,bs,λF=>G F/\H F⟩):J P c Q N m ⟨w0,F0,bs,G⟩ :=
 λa w ha f=>k a w ha (f.B5 λF b=>⟨b,h F b⟩)
variable{w0:World}{F0:Gs}{bs:List (Nat×Obj)}{G:Gs->Prop}
theorem LF{ts:List ZY}{l:List Tm}{x:Fr}{f:Rat}{r:Sr}{p:List Int}(z:WK ts l)(hp:PW p)(hz:JW f<=40000000)(H:Yr l<=40000000)(hG:∀F,G F->JE F/\GG F ts/\JR F x f/\J8 F r p){a:ZY}{j:Nat}(ht:a∈ts)(h0:a.t.2=p)(C:VX (He ts) (KS p) 0=some (j,jK a)):
  XN prog 225 [.map (some m),x.v,r.v] ⟨w0,F0,(m,Zy tx (He ts))::bs,G⟩ (λ(_:ZY)=>.tuple #[]) (λn=>⟨w0,F0,(m,Zy tx (He (addN ts n)))::bs,λF=>G F/\GG F (addN ts n)/\n.t=(f+XR (J4 ts) p,p)⟩):=by
 have o:XR (J4 ts) p=a.t.1:=by rw[<-h0];exact z.gG.Fy (aa (f:=ZY.t) ht)
 have B:=z.sz ht;dsimp only[Sr.v,Fr.v];refine XN.intro func225 rfl tH rfl rfl<|Ut hG<|wa<|Qp rfl (vs:=[_,_,_,_]) rfl λb4=>wY<|wb rfl<|QI rfl (λ_ _ f k=>zE f k.2.1 (r:=r) k.2.2.2.2 (hp)) λ_=>wZ rfl<|QG<|wb rfl<|wW rfl<|QA (xf UO rfl rfl RQ .u1 C)<|wW rfl<|QA (Qa rfl rfl)<|QA (Qa rfl rfl)<|Qc GN λK=>QW (vs:=[_,_,_,_,_]) rfl rfl rfl Xw rfl .here .h5 wy ?_
 refine wD 8 I ?_;refine QQ I (λhc=>?_) λhc=>?_
 ·refine QB<|QA (wP I QS .u1)<|QA (QH I Wy QS)<|QA (wP I QS .here)<|QI I (λw F D ⟨⟨c,u,s,⟨g,i⟩,y⟩,_⟩=>De D ⟨by assumption,by assumption⟩ ((s a ht).1) O O) λb=>QW (vs:=[_,_,_,_]) I I I QS I .u1 .h4 wv<|wD 5 I<|QA (wP I QS .u1)<|wW I<|QA (Q4 I zA GN (.cons (vs:=[_,_,_,_]) I I I .h4 (.cons (vs:=[_]) I I I (.skip (.skip (.skip (.skip .h1)))) .nil)))<|Te (k:=KS p) (v:=jK ⟨b,r,(f+a.t.1,p)⟩) UO I I I RQ .u2<|QE<|Mh ?_
  exact Y3 (⟨b,r,(f+a.t.1,p)⟩) I .nil (rfl) (λw h=>by
   show St ⟨w0,F0,(m,Zy tx (He (addN ts ⟨b,r,(f+a.t.1,p)⟩)))::bs,_⟩ w;rw[RV];exact St.imp h (.cons _ (.cons _ we)) (λF ⟨⟨⟨c,u,s,⟨g,i⟩,y⟩,_⟩,⟨E,A⟩⟩=>⟨c,λt ht=>by
    rcases RR ht with rfl | ht
    ·exact⟨⟨by assumption,by assumption⟩,y⟩
    exact s t ht,by rw[o]⟩))
 exact absurd hc (by cases hc)
theorem AR{ts:List ZY}{l:List Tm}{x:Fr}{f:Rat}{r:Sr}{p:List Int}(y:WK ts l)(hp:PW p)(hz:JW f<=40000000)(u:Yr l<=40000000)(hG:∀F,G F->JE F/\GG F ts/\JR F x f/\J8 F r p)(i:VX (He ts) (KS p) 0=none)(hm:p∉(J4 ts).map (·.2)):
  XN prog 225 [.map (some m),x.v,r.v] ⟨w0,F0,(m,Zy tx (He ts))::bs,G⟩ (λ(_:ZY)=>.tuple #[]) (λn=>⟨w0,F0,(m,Zy tx (He (addN ts n)))::bs,λF=>G F/\GG F (addN ts n)/\n.t=(f+XR (J4 ts) p,p)⟩):=by
 have a:XR (J4 ts) p=0:=qc hm;dsimp only[Sr.v,Fr.v];refine XN.intro func225 rfl tH rfl rfl<|Ut hG<|wa<|Qp rfl (vs:=[_,_,_,_]) rfl λb4=>wY<|wb rfl<|QI rfl (λ_ _ f k=>zE f k.2.1 (r:=r) k.2.2.2.2 (hp)) λ_=>wZ rfl<|QG<|wb rfl<|wW rfl<|QA (C7 UO rfl rfl RQ vo .u1 i)<|wW rfl<|QA (Qa rfl rfl)<|QA (Qa rfl rfl)<|Qc GN λz=>QW (vs:=[_,_,_,_,_]) rfl rfl rfl Xw rfl .here .h5 wy ?_
 refine wD 8 I ?_;refine QQ I (λhc=>?_) λhc=>?_
 ·exact absurd hc (by cases hc)
 refine wC 5 I<|QA (wP I QS .u1)<|wW I<|QA (Q4 I zA GN (.cons (vs:=[_,_,_,_]) I I I .h4 (.cons (vs:=[_]) I I I (.skip (.skip (.skip (.skip .h1)))) .nil)))<|Te (k:=KS p) (v:=jK ⟨x,r,(f,p)⟩) UO I I I RQ .u2<|QE<|Mh ?_
 exact Y3 (⟨x,r,(f,p)⟩) I .nil (rfl) (λw h=>by
  show St ⟨w0,F0,(m,Zy tx (He (addN ts ⟨x,r,(f,p)⟩)))::bs,_⟩ w;rw[RV];exact St.imp h (.cons _ (.cons _ we)) (λF ⟨⟨b,s,j,⟨c,g⟩,o⟩,_⟩=>⟨b,λt ht=>by
   rcases RR ht with rfl | ht
   ·exact⟨⟨by assumption,by assumption⟩,o⟩
   exact j t ht,by rw[a,aH]⟩))
theorem D5{ts:List ZY}{l:List Tm}{x:Fr}{f:Rat}{r:Sr}{p:List Int}(b:WK ts l)(hp:PW p)(hz:JW f<=40000000)(a:Yr l<=40000000)(hG:∀F,G F->JE F/\GG F ts/\JR F x f/\J8 F r p):
  XN prog 225 [.map (some m),x.v,r.v] ⟨w0,F0,(m,Zy tx (He ts))::bs,G⟩ (λ(_:ZY)=>.tuple #[]) (λn=>⟨w0,F0,(m,Zy tx (He (addN ts n)))::bs,λF=>G F/\GG F (addN ts n)/\n.t=(f+XR (J4 ts) p,p)⟩):=by
 rcases cw ts p 0 with ⟨h1,h2⟩ | ⟨j,t,ht,h1,h2⟩
 ·exact AR b hp hz a hG h1 h2
 exact LF b hp hz a hG ht h1 h2
end
section
variable[Dr]
theorem dD{w:World}{F:Gs}{a b:ZY}(h:Fits F w)(j:jU F a)(i:jU F b)(pa:PW a.t.2)(g:PW b.t.2):Qf prog 283 [jK a,jK b] w F (.int .i64 (Gj a.t.2 b.t.2)):=by
 refine QU.intro (G:=λF=>jU F a/\jU F b) func283 rfl tH rfl rfl h (λF' c=>⟨j.le c,i.le c⟩)<|wa<|Qp rfl (vs:=[_,_,_,_,_]) rfl λb2=>Qp rfl (vs:=[_,_,_,_,_]) rfl λb3=>wZ rfl<|wa<|QA (QH rfl V7 JM)<|QA (Qe rfl JM .u1 (.skip (.skip (.skip (.skip .h1)))))<|QA (QH rfl V7 JM)<|QA (Qe rfl JM .here (.skip (.skip (.skip (.skip .h1)))))<|QI rfl (λ_ _ f k=>RH f (ra:=a.r) (rb:=b.r) k.1.2 (k.2.2) (pa) (g)) λ_=>wZ rfl<|QX ?_
 exact wg I I (rfl) tL
end
end Go.Proofs.YtjcphjpkimmmjaaGreatDoor
namespace Go.Proofs
open Go.Shelf
def qD:Go.Shelf.Ren:=⟨λ| 14=>314 | 20=>340 | 21=>341 | 22=>342 | 23=>343 | 24=>344 | 25=>345 | 26=>346 | 27=>347 | 46=>363 | 47=>364 | 48=>365 | 49=>366 | 50=>367 | 15=>315 | 57=>375 | 28=>348 | 29=>311 | n=>n,λ| 24=>263 | 22=>189 | 3=>3 | 25=>317 | 4=>4 | 0=>0 | 46=>359 | 45=>358 | 50=>233 | 66=>383 | 39=>337 | 55=>297 | 70=>387 | 76=>397 | 77=>398 | 53=>365 | 5=>5 | 9=>9 | n=>n,λ| n=>n⟩
theorem cE:fS prog qD:={
 mixed:=tE
 f14:=⟨Tryz.f314.name,tF,func314.trans tU⟩
 f15:=func315.trans tU
 f20:=⟨f340.name,tF,func340.trans tU⟩
 f21:=⟨f341.name,tF,func341.trans tU⟩
 f22:=⟨f342.name,tF,func342.trans tU⟩
 f23:=⟨f343.name,tF,func343.trans tU⟩
 f24:=⟨f344.name,tF,func344.trans tU⟩
 f25:=⟨f345.name,tF,func345.trans tU⟩
 f26:=⟨f346.name,tF,func346.trans tU⟩
 f27:=⟨f347.name,tF,func347.trans tU⟩
 f28:=func348.trans tU
 f29:=func311.trans tU
 f46:=⟨f363.name,tF,func363.trans tU⟩
 f47:=func364.trans tU
 f48:=func365.trans tU
 f49:=⟨f366.name,tF,func366.trans tU⟩
 f50:=⟨f367.name,tF,func367.trans tU⟩
 f57:=⟨f375.name,tF,func375.trans tU⟩
 t0:=underlying0
 a0:=isAgg0
 z0:=sizeOf0
 v0:=zeroValue0
 t3:=underlying3
 a3:=isAgg3
 z3:=sizeOf3
 v3:=zeroValue3
 t4:=underlying4
 a4:=isAgg4
 z4:=sizeOf4
 v4:=zeroValue4
 t5:=underlying5
 a5:=isAgg5
 z5:=sizeOf5
 v5:=zeroValue5
 t9:=underlying9
 a9:=isAgg9
 z9:=sizeOf9
 v9:=zeroValue9
 t22:=underlying189
 a22:=isAgg189
 z22:=sizeOf189
 v22:=zeroValue189
 t25:=underlying317
 a25:=isAgg317
 z25:=sizeOf317
 v25:=zeroValue317
 t39:=underlying337
 a39:=isAgg337
 z39:=sizeOf337
 v39:=zeroValue337
 t45:=underlying358
 a45:=isAgg358
 z45:=sizeOf358
 v45:=zeroValue358
 t46:=underlying359
 a46:=isAgg359
 z46:=sizeOf359
 v46:=zeroValue359
 t50:=underlying233
 a50:=isAgg233
 z50:=sizeOf233
 v50:=zeroValue233
 t53:=underlying365
 a53:=isAgg365
 z53:=sizeOf365
 v53:=zeroValue365
 t55:=underlying297
 a55:=isAgg297
 z55:=sizeOf297
 v55:=zeroValue297
 t66:=underlying383
 a66:=isAgg383
 z66:=sizeOf383
 v66:=zeroValue383
 t70:=underlying387
 a70:=isAgg387
 z70:=sizeOf387
 v70:=zeroValue387
 t76:=underlying397
 a76:=isAgg397
 z76:=sizeOf397
 v76:=zeroValue397
 t77:=underlying398
 a77:=isAgg398
 z77:=sizeOf398
 v77:=zeroValue398 }
end Go.Proofs
namespace Go.Proofs.YtjcphjpkimmmjaaGreatDoor
variable{g:FuncId}{T et kt:TypeId}{N c cap i j k m n:Nat}{x:Operand}{P:Program}{l:List Int}{y:Rat}{w:World}{F F':Gs}{a b:Rat×Rat}{A seen u:List Nat}{f:Rat->Rat->Rat}{α:Type}{β:Nat->Nat}
section
open Go.RowKit Ig Go.Sort
def ntd:ZY:=⟨⟨⟨0,none,0,0⟩,⟨1,none,0,0⟩⟩,⟨none,0,0⟩,(0,[])⟩
def QE5(F:Gs):jU F ntd:=⟨⟨XH.small F tF tF,XH.small F tF tF⟩,⟨by simp[Qy,ntd],rfl,aY _⟩⟩
def PW.nil:PW []:=⟨λ_ h=>(by cases h),tJ⟩
abbrev uK(F:Gs):={t:ZY // jU F t/\PW t.t.2}
instance(F:Gs):Inhabited (uK F):=⟨⟨ntd,QE5 F,PW.nil⟩⟩
def B6(F:Gs):uK F->List Value:=λt=>WQ t.1
def cfT(F:Gs):uK F->uK F->Int:=λx y=>Gj x.1.t.2 y.1.t.2
def ltT(x y:uK F):ltOf (cfT F) x y=before x.1.t.2 y.1.t.2:=(Bt _ _).symm
def SU{a b c:List Int}(h:before a b=false)(k:before b c=false):before a c=false:=by
 cases hb:before a c with
 |false=>rfl
 |true =>
  rcases G8 b c with e | e | e
  ·subst e;rw[h]at hb;cases hb
  ·rw[k]at e;cases e
  rw[before_trans hb e]at h;cases h
theorem QEZ(F:Gs):SWO (ltOf (cfT F)) where
 irrefl:=λx=>by rw[ltT];exact before_irrefl _
 trans:=λx y z h k=>by rw[ltT]at h k ⊢;exact before_trans h k
 ntrans:=λx y z h k=>by rw[ltT]at h k ⊢;exact SU h k
def qG(w:World)(F:Gs)(W:World):Gs:=λb=>if b<w.heap.size then F b else match W.heap[b]? with | some (.cells c T _)=>if T=297 then some (c,297)else none | _=>none
def GV{W:World}{b:Nat}(h:b<w.heap.size):qG w F W b=F b:=if_pos h
theorem O6{W:World}(a:Fits F w):Gs.le F (qG w F W):=λb x hb=>by rw[GV (a.lt hb)];exact hb
theorem TB{W:World}{Hs:Nat}{c':Array Value}{fr':Nat×Nat}(hF:Fits F w)(hn:F Hs=none)(hT:T≠297)(h1:∀b,b<w.heap.size->b≠Hs->W.heap[b]?=w.heap[b]?)(h2:W.heap[Hs]?=some (.cells c' T fr')):Fits (qG w F W) W:=by
 refine⟨λb c T hb=>?_,λb c fr hb=>?_⟩
 ·by_cases hlt:b<w.heap.size
  ·rw[GV hlt]at hb;obtain⟨fr,e⟩:=hF.row b c T hb;have hne:b≠Hs:=by rintro rfl;rw[hn]at hb;cases hb
   exact⟨fr,by rw[h1 b hlt hne];exact e⟩
  unfold qG at hb;rw[if_neg hlt]at hb;split at hb
  ·rename_i c' T' fr heq;split at hb
   ·rename_i hT;cases hb;exact⟨fr,by rw[heq,hT]⟩
   cases hb
  cases hb
 by_cases hlt:b<w.heap.size
 ·rw[GV hlt];by_cases hne:b=Hs
  ·subst hne;rw[h2]at hb;cases hb;exact absurd rfl hT
  rw[h1 b hlt hne]at hb;exact hF.all b c fr hb
 unfold qG;rw[if_neg hlt,hb];simp
theorem pN{w':World}(h1:Below w.heap.size w w')(h2:w.drawn<=w'.drawn):w'=grow (w.drewN (w'.drawn-w.drawn)) (w'.heap.extract w.heap.size w'.heap.size):=by
 have hh:w'.heap=w.heap++w'.heap.extract w.heap.size w'.heap.size:=by
  apply ey;intro i;rw[bG];split
  ·rename_i h;exact h1.block i h
  rename_i h;rw[Array.getElem?_extract];have:=h1.size;by_cases g:i<w'.heap.size
  ·rw[if_pos O];congr 1;omega
  rw[if_neg O,bR O]
 obtain⟨e1,e2,e3,_,_⟩:=h1;cases w' with
 |mk heap tape drawn os output =>
  simp only at hh e1 e2 e3 h2;unfold grow World.drewN;simp only[World.mk.injEq];exact⟨hh,e2,O,e1,e3⟩
section
variable{α:Type}[Inhabited α]{enc:α->List Value}{k:Nat}{w:World}{Hs m:Nat}{dk:Array α}{os:Array Obj}{c:Array Value}{T:TypeId}{fr:Nat×Nat}
def D4(b:Nat)(hb:b<w.heap.size)(a:b≠Hs):(sortWorldK enc k w Hs 0 m dk os).heap[b]?=w.heap[b]?:=by
 show((w.heap.modify Hs _)++os)[b]?=_;rw[bG,if_pos (by simpa using hb),fi,if_neg (Ne.symm a)]
theorem j9(h:w.heap[Hs]?=some (.cells c T fr)):(sortWorldK enc k w Hs 0 m dk os).heap[Hs]?=some (.cells (putCells id 0 (flatK enc k dk) c) T fr):=by
 have hb:Hs<w.heap.size:=by
  rcases bF Hs w.heap.size with g | g
  ·exact g
  rw[bR g]at h;cases h
 show((w.heap.modify Hs _)++os)[Hs]?=_;rw[bG,if_pos (by simpa using hb),fi,if_pos rfl,h];rfl
theorem Lx(hk:∀x,(enc x).length=k)(d:Array α):flatK enc k d=(d.toList.flatMap enc).toArray:=by
 have c:(d.toList.flatMap enc).length=d.size*k:=by
  generalize hd:d.toList=l;have:d.size=l.length:=by rw[<-hd];simp
  rw[this];clear this hd
  induction l with
  |nil=>simp
  |cons x l ih=>rw[bC,aj,ih,hk,ar,fC];omega
 apply ey;intro t;by_cases ht:t<d.size*k
 ·have a:0<k:=fI λe=>by rw[e]at ht;simp at ht
  have h1:t/k<d.size:=(Nat.div_lt_iff_lt_mul a).2 ht;have h2:t%k<k:=Nat.mod_lt _ a;have h3:t%k<(enc d[t/k]!).length:=by rw[hk];exact h2
  have b:(flatK enc k d)[t]?=some ((enc d[t/k]!)[t%k]!):=by
   rw[Array.getElem?_eq_getElem (by rw[size_flatK];exact ht)];have:=get_flatK enc k d t ht;rw[getElem!_pos _ t (by rw[size_flatK];exact ht)]at this;rw[this]
  rw[b,aS];have h4:el d.toList (t/k)=d[t/k]!:=by simp[el,h1]
  have:=JN (f:=enc) hk (l:=d.toList) (i:=t/k) (j:=t%k) (u:=(enc d[t/k]!)[t%k]!) (by simpa using h1) (by rw[h4,av h3,getElem!_pos (enc d[t/k]!) (t%k) h3]);rw[ix,Nat.div_add_mod]at this;exact this.symm
 rw[bR (by rw[size_flatK];omega),aS,bc O]
theorem T6{a b rest:List Value}(h:b.length=a.length):putCells id 0 b.toArray (a++rest).toArray=(b++rest).toArray:=by
 apply ey;intro i;unfold putCells;rw[Array.getElem?_mapIdx,aS,aS,fw,fw];by_cases hi:i<a.length
 ·have c:i<b.length:=O;rw[if_pos hi,if_pos c,av hi,av c];simp[c]
 have c:¬i<b.length:=O;rw[if_neg hi,if_neg c,h];have e:¬(0<=i/\i<0+b.toArray.size):=tK;cases rest[i-a.length]? with
 |none=>rfl
 |some x=>simp only[Option.map_some];rw[if_neg e]
end
def jC(g:FuncId):Prop:=Enters prog g/\∀(w:World) (F:Gs) (a b:ZY),Fits F w->jU F a->jU F b->PW a.t.2->PW b.t.2->@QU ⟨True⟩ prog g [jK a,jK b] w F Unit (λ_=>.int .i64 (Gj a.t.2 b.t.2)) λ_ _=>True
theorem jC.lays(i:jC g){w:World}{F:Gs}{Hs size:Nat}{c:Array Value}{T:TypeId}{fr:Nat×Nat}(f:Fits F w)(h:F Hs=none)(k:T≠297)(hb:w.heap[Hs]?=some (.cells c T fr)):CmpLays prog g #[] (B6 F) 5 (cfT F) Hs 0 size w:=λm os dk _ x y=>by
 have j:=TB (W:=sortWorldK (B6 F) 5 w Hs 0 m dk os) f h k (λb h1 h2=>D4 b h1 h2) (j9 hb);have a:=O6 (W:=sortWorldK (B6 F) 5 w Hs 0 m dk os) f;have:=(i.2 _ _ x.1 y.1 j (x.2.1.le a) (y.2.1.le a) x.2.2 y.2.2).2;refine this.mono ?_;rintro e w' ⟨_,F',rfl,hx,_⟩;exact⟨rfl,_,_,pN (@SX.toBelow ⟨True⟩ _ _ hx) (@SX.dr ⟨True⟩ _ _ hx trivial)⟩
def QHZ(x:uK F):∀v∈B6 F x,v.oneCell'=true:=by
 intro v a;unfold B6 WQ at a;simp only[ay,aI,or_false]at a;rcases a with rfl | rfl | rfl | rfl | rfl<;>rfl
variable[Dr]{w0:World}{F0:Gs}{bs:List (Nat×Obj)}{G:Gs->Prop}
theorem QEx(Y:jC g){b n cap lim:Nat}{ts:List ZY}{rest:List Value}(hG:∀F,G F->GG F ts)(hp:∀t∈ts,PW t.t.2)(hl:ts.length=n)(hn:n<4611686018427387904)(C:lim<4611686018427387904):
  XN prog 314 [.slice (some ⟨b,0,none⟩) n cap,.int .i64 0,.int .i64 (n:Nat),.int .i64 (lim:Nat),.func (.func g) #[] #[]] ⟨w0,F0,(b,.cells (ts.flatMap WQ++rest).toArray 263 (0,0))::bs,G⟩ (λ(_:List ZY)=>.tuple #[])
   (λts'=>⟨w0,F0,(b,.cells (ts'.flatMap WQ++rest).toArray 263 (0,0))::bs,λF=>G F/\ts'.Perm ts/\ts'.Pairwise λx y=>before y.t.2 x.t.2=false⟩):=by
 refine⟨enters_of func314 tH rfl,λw hw=>?_⟩;obtain⟨F,h⟩:=hw;obtain⟨l,L,z⟩:=h.bx (b,_) aB;have N:=hG F h.hG;have s:b<w.heap.size:=(Array.getElem?_eq_some_iff.1 l).1;have Z:(263:TypeId)≠297:=tF;obtain⟨d,hd⟩:∃d:Array (uK F),d.toList.map (·.1)=ts:=by
  refine⟨(ts.attach.map λt=>(⟨t.1,N t.1 t.2,hp t.1 t.2⟩:uK F)).toArray,?_⟩;simp[ir,Function.comp_def]
 have V:d.size=n:=by rw[<-hl,<-hd];simp
 have E:∀d:Array (uK F),flatK (B6 F) 5 d=((d.toList.map (·.1)).flatMap WQ).toArray:=λd=>by
  rw[Lx (enc:=B6 F) (k:=5) (λ_=>rfl),List.flatMap_map];rfl
 have hH:HoldsK (B6 F) 5 w b 0 d:=by
  intro j M;rw[E,hd]at M ⊢;have c:j<(ts.flatMap WQ).length:=by simpa using M
  rw[bL];refine⟨?_,by simp[World.frozen?,l]⟩;simp only[World.cell?,l,Option.isSome_none,Bool.false_eq_true,if_false,aS];rw[List.getElem?_append_left c,av c];show some _=some ((ts.flatMap WQ).toArray[j]!);rw[getElem!_pos (ts.flatMap WQ).toArray j (by simpa using c)];simp
 have hR:RowK (B6 F) 5 w b 0 d:=⟨λ_=>rfl,λx=>QHZ x,hH,s⟩;have eg:=Y.1;have K:=Y.lays (size:=d.size) h.fits z Z l;have R:=AnyQ.pdqsortCmpFunc_all cE 5 (Tl Xw) (K4 Xw) (B6 F) (cfT F) g #[] (QEZ F) b 0 cap d w eg K hR (d.size+1) 0 d.size lim d w O rfl (SWK.start hH) (au _) (aY _) O C (Or.inl I);have A:=pdq_sorts (ltOf (cfT F)) (QEZ F) d 0 d.size lim true true (au _) (aY _) (Or.inl I);generalize pdq (ltOf (cfT F)) d 0 d.size lim true true=d' at R A;obtain⟨⟨S,_,B⟩,Q⟩:=A;rw[V]at R;refine R.mono ?_;rintro e w' ⟨rfl,m,os,rfl⟩;have u:=j9 (enc:=B6 F) (k:=5) (m:=m) (dk:=d') (os:=os) l;have H:=TB (W:=sortWorldK (B6 F) 5 w b 0 m d' os) h.fits z Z (λb h1 h2=>D4 b h1 h2) u;have D:=O6 (W:=sortWorldK (B6 F) 5 w b 0 m d' os) h.fits;have a:(d'.toList.map (·.1)).Perm ts:=by
  rw[<-hd];refine List.Perm.map _ ?_;have e1:(d'.extract 0 d.size).toList=d'.toList:=by rw[<-S];simp
  have e2:(d.extract 0 d.size).toList=d.toList:=tJ;rw[e1,e2]at B;exact B
 have o:putCells id 0 (flatK (B6 F) 5 d') (ts.flatMap WQ++rest).toArray=((d'.toList.map (·.1)).flatMap WQ++rest).toArray:=by
  rw[E];refine T6 ?_;have:=(eV WQ a).length_eq;exact this
 rw[o]at u;have P:w.heap.size<=(sortWorldK (B6 F) 5 w b 0 m d' os).heap.size:=by
  show _<=((w.heap.modify b _)++os).size;simp
 refine⟨d'.toList.map (·.1),rfl,qG w F (sortWorldK (B6 F) 5 w b 0 m d' os),?_⟩;refine⟨Gs.le_trans h.le D,λk hk=>?_,H,⟨⟨?_,?_,?_,?_,?_⟩,?_⟩,λk hk=>?_,h.nd,λF' X=>⟨h.g F' (Gs.le_trans D X),a,?_⟩⟩
 ·have:k<w.heap.size:=fJ hk h.ext.size;rw[GV this];exact h.old k hk
 ·exact h.ext.os
 ·exact h.ext.tape
 ·exact h.ext.output
 ·exact aT h.ext.size P
 ·intro k hk;have h1:k<w.heap.size:=fJ hk h.ext.size;have h2:k≠b:=by rintro rfl;exact absurd hk (Nat.not_lt.2 L)
  rw[D4 k h1 h2];exact h.ext.block k hk
 ·intro hd;exact aT (h.ext.dr hd) (Nat.le_add_right _ _)
 ·rcases List.mem_cons.1 hk with rfl | hk
  ·exact⟨u,L,by rw[GV s];exact z⟩
  obtain⟨g1,g2,g3⟩:=h.bx k (aq _ hk);have h1:k.1<w.heap.size:=(Array.getElem?_eq_some_iff.1 g1).1;have h2:k.1≠b:=by
   have:=h.nd;simp only[af]at this;have:=(List.nodup_cons.1 this).1;rintro e;exact this (e ▸ aa (f:=(·.1)) hk)
  exact⟨by rw[D4 k.1 h1 h2];exact g1,g2,by rw[GV h1];exact g3⟩
 rw[eG,List.pairwise_iff_getElem];intro i j hi M T;have U:i<d'.size:=by simpa using hi
 have c:j<d'.size:=by simpa using M
 have:=Q i j (au _) T O;rw[ltT,getElem!_pos _ i U,getElem!_pos _ j c]at this;simpa using this
end
open Go.RowKit Ig
section
variable[Dr]{w0:World}{F0:Gs}{bs:List (Nat×Obj)}{G:Gs->Prop}
theorem qh(a:Fits F w){n:Nat}(h:n<4611686018427387904):Qf prog 315 [.int .u64 (n:Nat)] w F (.int .i64 (Lib.bitLen n:Nat)) :=
 QU.same (enters_of func315 tH rfl) a (by
  have:=bits_Len (n:Nat) w O O
  rwa [Int.toNat_natCast]at this)
theorem yU:∀ {ts:List ZY},ts.flatMap WQ=[]->ts=[]
 |[],_=>rfl
 |t::l,h=>by rw[bC]at h;simp[WQ]at h
theorem QBP(hg:jC g){n lim:Nat}{v:Value}{ts:List ZY}{ob:List (Nat×Obj)}(hr:Q8 263 5 v n (ts.flatMap WQ) ob)(hG:∀F,G F->GG F ts)(hp:∀t∈ts,PW t.t.2)(hl:ts.length=n)(hn:n<4611686018427387904)(hlim:lim<4611686018427387904):
  XN prog 314 [v,.int .i64 0,.int .i64 (n:Nat),.int .i64 (lim:Nat),.func (.func g) #[] #[]] ⟨w0,F0,ob++bs,G⟩ (λ(_:List ZY×List (Nat×Obj))=>.tuple #[])
   (λc=>⟨w0,F0,c.2++bs,λF=>G F/\Q8 263 5 v n (c.1.flatMap WQ) c.2/\c.1.Perm ts/\c.1.Pairwise λx y=>before y.t.2 x.t.2=false⟩):=by
 generalize hcs:ts.flatMap WQ=cs at hr;cases hr with
 |nil =>
  have:=yU hcs;subst this;refine⟨enters_of func314 tH rfl,λw hw=>?_⟩;refine(AnyF.pdqsortCmpFunc_none cE none 0 (lim:Nat) (.func (.func g) #[] #[]) w).mono ?_;rintro e w' ⟨rfl,rfl⟩;exact⟨([],[]),rfl,hw.B5 λF h=>⟨h,.nil,aK _,bX⟩⟩
 |some h1 h2 h3 h4 =>
  rename_i b cap rest;subst hcs;have h:=QEx (w0:=w0) (F0:=F0) (bs:=bs) (G:=G) hg (b:=b) (n:=n) (cap:=cap) (lim:=lim) (ts:=ts) (rest:=rest) hG hp hl hn hlim;refine⟨h.1,λw hw=>(h.2 w hw).mono ?_⟩;rintro e w' ⟨ts',rfl,hw'⟩;refine⟨(ts',[(b,.cells (ts'.flatMap WQ++rest).toArray 263 (0,0))]),rfl,hw'.B5 λF ⟨hG',hpm,hpw⟩=>⟨hG',?_,hpm,hpw⟩⟩;have hlen:(ts'.flatMap WQ).length=(ts.flatMap WQ).length:=(eV WQ hpm).length_eq;exact .some (by rw[hlen];exact h1) (by rw[hlen];exact h2) h3 h4
theorem QAy(i:jC g){n:Nat}{v:Value}{ts:List ZY}{ob:List (Nat×Obj)}(hr:Q8 263 5 v n (ts.flatMap WQ) ob)(hG:∀F,G F->GG F ts)(hp:∀t∈ts,PW t.t.2)(b:ts.length=n)(a:n<4611686018427387904):
  XN prog 282 [v,.func (.func g) #[] #[]] ⟨w0,F0,ob++bs,G⟩ (λ(_:List ZY×List (Nat×Obj))=>.tuple #[])
   (λc=>⟨w0,F0,c.2++bs,λF=>G F/\Q8 263 5 v n (c.1.flatMap WQ) c.2/\c.1.Perm ts/\c.1.Pairwise λx y=>before y.t.2 x.t.2=false⟩):=by
 refine XN.intro func282 rfl tH rfl rfl<|wb rfl<|QA (Oz rfl hr Yt)<|wZ rfl<|QB<|wW rfl<|wW rfl<|wW rfl<|QA (O0 rfl QEO cZ O)<|QI rfl (λ_ _ f _=>qh f a) λ_=>wW rfl<|XX rfl (aK _) (QBP i hr (λF h=>hG F h.1) hp b a (Nat.lt_of_le_of_lt (Lib.bitLen_le n 62 O O) O)) λc=>QE<|Mh ?_
 exact Y3 (c) rfl .nil (rfl) λw h=>h.B5 λF h=>⟨h.1.1,h.2⟩
end
theorem MJ:∀(n:Nat) (l:List Nat),l.Nodup->(∀j∈l,j<n)->l.length<=n
 |0,l,_,h=>by
  cases l with
  |nil=>exact aY _
  |cons x l=>exact absurd (h x aB) (ia _)
 |n+1,l,a,h=>by
  have h1:=MJ n (l.erase n) (a.erase n) λj b=>by
   have h2:=(a.mem_erase_iff).1 b;have h3:=h j h2.2;have h4:=h2.1;omega
  rw[List.length_erase]at h1;split at h1<;>omega
theorem Cx{l:List Nat}(f:l.Nodup)(h:∀j∈l,j<n)(g:j<n)(c:j∉l):(l++[j]).Nodup/\(∀i∈l++[j],i<n)/\l.length<n:=by
 have h1:(l++[j]).Nodup:=by
  rw[List.nodup_append];exact⟨f,tJ,λa ha b hb=>by rw[List.mem_singleton.1 hb];rintro rfl;exact c ha⟩
 have h2:∀i∈l++[j],i<n:=λi hi=>by
  rcases List.mem_append.1 hi with hi | hi
  ·exact h i hi
  rw[List.mem_singleton.1 hi];exact g
 have h3:=MJ n _ h1 h2;rw[aj]at h3;exact⟨h1,h2,by simp at h3;omega⟩
theorem xN{l:List Nat}(b:l.Nodup)(h:∀j∈l,j<n)(ha:∀j,j<n->j∈l):l.Perm (ai n) :=
 (eX b List.nodup_range).2 λa=>by rw[List.mem_range];exact⟨h a,ha a⟩
theorem UF[Inhabited α](l:List α):(ai l.length).map (el l)=l:=by
 apply List.ext_getElem?;intro i;by_cases h:i<l.length
 ·rw[fK,List.getElem?_range h,av h];simp[Jb h]
 rw[bc tK,bc O]
def XU(F:Gs)(s:Sr)(ts:List ZY)(p:List Tm):Prop:=Qy F s.q s.n 5 (ts.flatMap WQ)/\GG F ts/\J4 ts=p/\s.n<=s.cap/\ts.length=s.n
def XU.le{s:Sr}{ts:List ZY}{p:List Tm}(h:XU F s ts p)(k:Gs.le F F'):XU F' s ts p:=⟨h.1.le k,h.2.1.le k,h.2.2⟩
def O4(ts:List ZY):List ZY:=ts.filter λt=>decide (t.t.1≠0)
def As(ts:List ZY)(t:ZY):O4 (ts++[t])=O4 ts++(if t.t.1≠0 then[t]else[]):=by
 unfold O4;rw[List.filter_append];congr 1;by_cases h:t.t.1=0
 ·simp[h]
 simp[h]
structure QFu(ts:List ZY) where
 seen:List Nat
 v:Value
 n:Nat
 ob:List (Nat×Obj)
 hr:Q8 263 5 v n ((O4 (seen.map (el ts))).flatMap WQ) ob
 nd:seen.Nodup
 lt:∀j∈seen,j<ts.length
 hn:(O4 (seen.map (el ts))).length=n
def CE(ts:List ZY):(He ts).length=ts.length:=by simp[He]
theorem y5:jC 283:=⟨enters_of func283 tH rfl,λw F a b f h g pa c=>@dD ⟨True⟩ w F a b f h g pa c⟩
def xH{r:Rat}:Dm r.num=0↔r=0:=by
 unfold Dm;constructor
 ·intro h;apply Rat.num_eq_zero.1;split at h
  ·omega
  split at h<;>omega
 rintro rfl;rfl
def xA{ts os:List ZY}{l:List Tm}(g:WK ts l)(i:seen.Nodup)(f:∀j∈seen,j<ts.length)(c:∀j,j<ts.length->j∈seen)(hp:os.Perm (O4 (seen.map (el ts))))(h:os.Pairwise λx y=>before y.t.2 x.t.2=false):J4 os=XO l:=by
 have h1:os.Perm (O4 ts):=by
  refine hp.trans ?_;unfold O4;refine List.Perm.filter _ ?_;have:=(xN i f c).map (el ts)
  rwa [UF]at this
 have h2:(J4 os).Perm ((J4 ts).filter λt=>decide (t.1≠0)):=by
  have:=h1.map ZY.t;unfold O4 at this;have e:(ts.filter λt=>decide (t.t.1≠0)).map ZY.t=(ts.map ZY.t).filter λt=>decide (t.1≠0):=by
   rw[List.filter_map];rfl
  rw[e]at this;exact this
 refine g.gG.norm h2 ?_;have a:((J4 os).map (·.2)).Nodup:=by
  have h3:((J4 os).map (·.2)).Perm (((J4 ts).filter λt=>decide (t.1≠0)).map (·.2)):=h2.map _;rw[h3.nodup_iff];exact(List.filter_sublist.map _).nodup g.gG.nd
 unfold J4 at a ⊢;rw[eG];rw[ir]at a;have b:=List.pairwise_map.1 a;refine(h.and b).imp ?_;rintro x y ⟨h1,h2⟩;rcases G8 x.t.2 y.t.2 with e | e | e
 ·exact absurd e h2
 ·exact e
 rw[h1]at e;cases e
def Ln{ts:List ZY}(a:∀j∈seen,j<ts.length){t:ZY}(h:t∈O4 (seen.map (el ts))):t∈ts:=by
 have:=(List.mem_filter.1 h).1;obtain⟨j,b,e⟩:=List.mem_map.1 this;rw[<-e];exact Qw (a j b)
def zR{ts:List ZY}{t:ZY}(e:el ts j=t)(h:t.t.1≠0):O4 ((seen++[j]).map (el ts))=O4 (seen.map (el ts))++[t]:=by
 rw[aL,af,fg,e,As,if_pos h]
def cK{ts:List ZY}{t:ZY}(e:el ts j=t)(h:t.t.1=0):O4 ((seen++[j]).map (el ts))=O4 (seen.map (el ts)):=by
 rw[aL,af,fg,e,As,if_neg (not_not_intro h),eU]
def dH(t:ZY):∀v∈WQ t,v.oneCell'=true:=by
 intro v a;unfold WQ at a;simp only[ay,aI,or_false]at a;rcases a with rfl | rfl | rfl | rfl | rfl<;>rfl
section
variable{w0:World}{F0:Gs}{bs:List (Nat×Obj)}{G:Gs->Prop}
theorem BY{ts:List ZY}{l:List Tm}(Q:WK ts l)(P:ts.length<=1000000000)(hG:∀F,G F->GG F ts):
  XN prog 226 [.map (some m)] ⟨w0,F0,(m,Zy tx (He ts))::bs,G⟩ (λ(c:Sr×List ZY)=>c.1.v) (λc=>⟨w0,F0,(m,Zy tx (He ts))::bs,λF=>G F/\XU F c.1 c.2 (XO l)⟩):=by
 refine XN.intro func226 rfl tH rfl rfl<|Ut hG<|wa<|wZ rfl<|wa<|wZ rfl<|QG<|wb rfl<|IK rfl RQ .here λR=>wY<|QV<|JU (ι:=QFu ts) [(7,_)] (λi=>[(3,i.v)]) (λi=>(R,jM m (He ts).length i.seen)::(m,Zy tx (He ts))::(i.ob++bs)) (λi F=>True) (λi=>ts.length-i.seen.length) (⟨[],_,0,[],.nil,ee,(λ_ h=>by cases h),rfl⟩) wk wk we tL λi=>?_
 simp only[ab,ag];have T:i.n<=i.seen.length:=by rw[<-i.hn];exact aT (List.length_filter_le _ _) tJ
 refine wa<|OG (kv:=He ts) (K:=tx) (b:=m) rfl .here .u1 λx hx=>QA (Qa I (QE4 x))<|wY<|QG ?_
 refine QQ I (λhc=>?_) λhc=>?_
 ·obtain⟨j,rfl⟩:∃j,x=some j:=by
   cases x with
   |none=>cases hc
   |some j=>exact⟨j,rfl⟩
  obtain⟨D,N⟩:=hx;rw[CE]at D;obtain⟨z,y,S⟩:=Cx i.nd i.lt D N;have u:=Qw D;have C:(He ts)[j]?=some (KS (el ts j).t.2,jK (el ts j)):=by rw[He,fK,av D,Jb D];rfl
  generalize g:el ts j=t at u C;refine wC 5 I<|QA (gk (kv:=He ts) (K:=tx) (p:=(KS t.t.2,jK t)) I .here .u1 C)<|wB 1 I<|Qc GN λY=>QW (vs:=[_,_,_,_,_]) I I I Xw I .here .h5 wy<|wY<|wa<|QA (QH I Wy QS)<|QA (wP I QS .here)<|QI I (λ_ _ f k=>UW f ((k.1.2 t u).1)) λ_=>wD 3 I ?_
  refine QQ I (λhc=>?_) λhc=>?_
  ·have B:t.t.1≠0:=λe=>by rw[e]at hc;cases hc
   refine wA 2 I<|QA (QJ (vs:=[_,_,_,_,_]) I Xw .here .h5 rfl)<|Qb I (Q5 Yt) Xw GN I I λX=>ZL (bs':=(_::_::_::bs)++i.ob) (.cons _ (.cons _ (.cons _ bH))) ?_
   refine Z4 (ob:=i.ob) (k:=1) (sz:=5) (news:=WQ t) rfl rfl Yt Xw GN I QCI i.hr (Src.row (off:=0) tO (λj v L=>by rw[bL];show((WQ t).toArray)[j]?=some v;rw[aS];exact L) rfl) O O (dH t) (λH o A=>?_);refine ZL (bs':=_::_::_::(o++bs)) (.cons _ (.cons _ (.cons _ bH)))<|wB 2 I<|Qj ?_
   exact Ql (⟨i.seen++[j],H,i.n+1,o,by rw[zR g B,aW];simpa using A,z,y,by rw[zR g B,aj,i.hn];rfl⟩) (by show _-(i.seen++[j]).length<_;rw[aj];simp only[bZ];omega) wm (.cons _ we) λF h=>⟨h.1.1.1,trivial⟩
  have hz:t.t.1=0:=xH.1 (by simpa using hc);refine QN<|Qj ?_
  exact Ql (⟨i.seen++[j],i.v,i.n,i.ob,by rw[cK g hz];exact i.hr,z,y,by rw[cK g hz];exact i.hn⟩) (by show _-(i.seen++[j]).length<_;rw[aj];simp only[bZ];omega) wm (.cons _ we) λF h=>⟨h.1.1,trivial⟩
 obtain rfl:x=none:=by
  cases x with
  |none=>rfl
  |some j=>cases hc
 rw[show nxP (He ts).length i.seen none=∀j,j<(He ts).length->j∈i.seen from rfl,CE]at hx;refine Qx ?_
 repeat first|refine QY ?_|refine QO tH ?_
 refine QZ<|wE 4 I<|XX I (List.perm_middle.trans (.cons _ eN)).symm (QAy y5 i.hr (λF ⟨⟨V,U⟩,_⟩ t ht=>U t (Ln i.lt ht)) (λt ht=>Q.pw t (Ln i.lt ht)) i.hn (tD<|MJ _ _ i.nd i.lt)) λc=>JQ _ (λ_ _ f h=>h.2) λa=>?_
 obtain⟨r,L,s,M,E⟩:=Q8.fix (w0:=w0) (F0:=F0) (bs1:=(R,jM m (He ts).length (nxS i.seen none))::(m,Zy tx (He ts))::bs) (G:=_) a.1;refine ZL bH<|Zj E ?_
 rw[L];refine wD 9 I ?_;exact Y3 (⟨r,c.1⟩) I (wT I) (rfl) λw h=>St.imp h (.cons _ we) λF h9=>⟨h9.1.1.1.1,by rw[s];exact h9.2,λt ht=>h9.1.1.1.2 t (Ln i.lt (a.2.1.mem_iff.1 ht)),xA Q i.nd i.lt hx a.2.1 a.2.2,by rw[s];exact M,a.2.1.length_eq.trans (i.hn.trans s.symm)⟩
end
section
variable[Dr][df:Df]{P:Program}{N:Nat}{m:Sl}{w0:World}{F0:Gs}{bs:List (Nat×Obj)}{G:Gs->Prop}
theorem gj{yT ty e:TypeId}{y:Operand}{q:Option Addr}{Y:World->Prop}(hx:ev m x=some (.slice q n c))(hy:ev m y=some (.slice none 0 0))(b:Gp P T=some e):Qt P N m Y (.binOp .eql T x y yT) ty (.bool q.isNone):=λa w _ _ _ _ ha _=>by
 have:=Lib.run_eql_slice_nil (P:=P) w T e q n c 0 0 (Q5 b);simp[execOp,ha.ev hx,ha.ev hy,eqGuard,this]
theorem Src.QEk{sz:Nat}{a:Addr}{news:List Value}(hr:∀F,G F->Qy F (some a) k sz news)(g:news.length=k*sz):Src ⟨w0,F0,bs,G⟩ sz (.slice (some a) k c) k news:=by
 refine⟨g,.inr ⟨a,c,rfl,λw i j v f=>?_⟩⟩;have hk:0<k:=by
  rcases eE k with h | h
  ·rw[h,fk]at g;rw[List.length_eq_zero_iff.1 g]at f;simp at f
  exact h
 obtain⟨F,h⟩:=id i;obtain⟨b,off,_,_,e,_,_⟩:=(hr F h.hG).2 hk;cases e;rw[BP];exact W3 i hr hk f
theorem Src.gR{q:Option Addr}{sz:Nat}{news:List Value}(h0:q=none->k=0)(hr:∀F,G F->Qy F q k sz news)(b:news.length=k*sz):Src ⟨w0,F0,bs,G⟩ sz (.slice q k c) k news:=by
 cases q with
 |some a=>exact .QEk hr b
 |none =>
  have h:=h0 rfl;subst h;rw[fk,List.length_eq_zero_iff]at b;subst b;exact .nil
theorem zL(h:J8 F ⟨none,n,c⟩ l):Q8 3 1 (.slice none 0 0) n (l.map Jo) []:=by
 obtain⟨⟨_,h1⟩,h2,_⟩:=h;have h0:n=0:=by
  rcases eE n with h | h
  ·exact h
  obtain⟨_,_,_,_,e,_⟩:=h1 h;cases e
 subst h0;rw[List.length_eq_zero_iff.1 h2];exact .nil
theorem CI(l:List Int):∀v∈l.map Jo,v.oneCell'=true:=by
 intro v a;obtain⟨x,_,rfl⟩:=List.mem_map.1 a;rfl
end
section
variable{w0:World}{F0:Gs}{bs:List (Nat×Obj)}{G:Gs->Prop}
theorem Uk{r:Sr}(hG:∀F,G F->J8 F r l)(g:l.length=r.n)(m:l.length<=1000000000):
  XN prog 224 [r.v] ⟨w0,F0,bs,G⟩ (λ(c:Value×List (Nat×Obj))=>c.1) (λc=>⟨w0,F0,bs++c.2,λF=>G F/\Q8 3 1 c.1 r.n (l.map Jo) c.2⟩):=by
 obtain⟨q,n,c⟩:=r;dsimp only[Sr.v]at g ⊢;refine XN.intro func224 rfl tH rfl rfl<|Ut hG<|wa<|wZ rfl<|QG<|wb rfl<|QA (gj rfl rfl Q2)<|QE<|QC ?_
 refine QQ I (λhc=>?_) λhc=>?_
 ·obtain rfl:q=none:=by
   cases q with
   |none=>rfl
   |some a=>cases hc
  refine wA 6 I ?_;exact Y3 (⟨.slice none 0 0,[]⟩) I (wT I) (rfl) λw h=>St.imp h tJ λF h9=>⟨h9.1,zL h9.2⟩
 obtain⟨a,rfl⟩:∃a,q=some a:=by
  cases q with
  |none=>cases hc
  |some a=>exact⟨a,rfl⟩
 refine wC 4 I<|Gf (Q5 Q2) JK λi=>wW I<|ZL (bs':=bs++[(i,.cells ([]++[]:List Value).toArray 3 (0,0))]) (bH (l₁:=[_]))<|Z4 (ob:=[(i,.cells ([]++[]:List Value).toArray 3 (0,0))]) (n:=0) (k:=n) (sz:=1) (news:=l.map Jo) rfl rfl Q2 JK R4 I F6 (.some rfl rfl (aY _) tF) (Src.QEk (λF hG=>hG.2.1) (by simp[g])) O O (CI l) λj f b=>?_
 rw[bL,ag]at b;refine wD 4 I ?_;exact Y3 (⟨j,f⟩) I (wT I) (rfl) λw h=>St.imp h we λF h9=>⟨h9.1,b⟩
end
structure V0 where
 f:List UInt8
 r:Sr
 k:List Int
variable{ps:List V0}
instance :Inhabited V0:=⟨⟨[],⟨none,0,0⟩,[]⟩⟩
def VM(t:V0):List Value:=[tx t.f,.slice t.r.q t.r.n t.r.cap]
def YR(t:V0):(VM t).length=2:=rfl
def Yy(F:Gs)(ts:List V0):Prop:=∀t∈ts,J8 F t.r t.k
def Yy.le{ts:List V0}(h:Yy F ts)(k:Gs.le F F'):Yy F' ts:=λt ht=>(h t ht).le k
def R6(t:V0):Tm:=(Qz t.f,t.k)
structure QFs(ps:List V0) where
 i:Nat
 ts:List ZY
 le:i<=ps.length
 hI:WK ts ((ps.take i).map R6)
def OW(l:List Tm)(i:Nat):Yr (l.take i)<=Yr l:=by
 have:=Zi (l.take i) (l.drop i);rw[aR]at this;omega
theorem Nn{l:List Tm}{t:Tm}(h:t∈l):JW t.1<=Yr l:=by
 induction l with
 |nil=>cases h
 |cons x l ih =>
  have e:Yr (x::l)=JW x.1+1+Yr l:=by unfold Yr;rw[af,bQ]
  rcases List.mem_cons.1 h with rfl | h
  ·omega
  have:=ih h;omega
section
variable{P:Program}{w:World}{F:Gs}{f:FuncId}{args:List Value}{γ:Type}{val:γ->Value}{fact:γ->Gs->Prop}
theorem p6{r:Sr}(x:Fits F w)(m:J8 F r l)(u:l.length<=1000000000):QU prog 224 [r.v] w F (λ(c:Sr)=>c.v) (λc F=>J8 F c l):=by
 have h:=Uk (w0:=w) (F0:=F) (bs:=[]) (G:=λF'=>Gs.le F F') (r:=r) (l:=l) (λF' h=>m.le h) m.2.1 u;refine⟨h.1,(h.2 w (St.start x λ_ h=>h)).mono ?_⟩;rintro e w' ⟨⟨v,ob⟩,rfl,i⟩;obtain⟨F1,h1⟩:=id i;have n:=(h1.hG).2;dsimp only at n i;obtain⟨s,o,a,j,b⟩:=Q8.fix (w0:=w) (F0:=F) (bs1:=[]) n;obtain⟨F',f⟩:=b w' i;exact⟨s,F',by rw[o],f.ext,f.le,f.old,f.fits,λF'' k=>⟨by rw[a];exact(f.g F'' k).2,by rw[a];exact m.2.1,by rw[a];exact j⟩⟩
end
section
theorem gp{r:Sr}(Q:Fits F w)(D:JE F)(L:Qy F r.q r.n 2 (ps.flatMap VM))(P:Yy F ps)(M:ps.length=r.n)(R:ps.length<=100000)(s:∀t∈ps,Jp t.f=0/\t.f.length<=1000000/\PW t.k)(hz:Yr (ps.map R6)<=40000000):
  QU prog 146 [r.v] w F (λ(c:Sr×List ZY)=>c.1.v) (λc F=>XU F c.1 c.2 (XO (ps.map R6))):=by
 obtain⟨q,n,cap⟩:=r;dsimp only[Sr.v]at M L ⊢;refine QU.intro (G:=λF=>JE F/\Qy F q n 2 (ps.flatMap VM)/\Yy F ps) func146 rfl tH rfl rfl Q (λF' g=>⟨D.le g,L.le g,P.le g⟩)<|wa<|wZ rfl<|wa<|HM tx λm=>wZ rfl<|QG<|wb rfl<|QA (Qg rfl Zg)<|wW rfl<|wY<|QV<|JU (ι:=QFs ps) [(3,_),(7,_),(8,_)] (λi=>[(9,.int .i64 ((i.i:Nat):Int))]) (λi=>[(m,Zy tx (He i.ts))]) (λi F=>GG F i.ts) (λi=>ps.length-i.i) (⟨0,[],au _,WK.nil⟩) wu wk we (λ_ _ _ h=>by cases h) λi=>?_
 simp only[ab,ag];have hi:=i.le;refine wA 6 I ?_;refine QQ I (λhc=>?_) λhc=>?_
 ·have a:i.i<ps.length:=tD<|wi hc
  have b:=s _ (Qw a);have z:=OW (ps.map R6) i.i;rw[<-List.map_take]at z;have y:JW (R6 (el ps i.i)).1<=Yr (ps.map R6):=Nn (aa (Qw a));dsimp only[R6]at y;have N:=b.2.2.2;refine wC 6 I<|QA (Q3 (n:=n) i.i (λF h9=>h9.1.2.1) rfl rfl Zg Xh O)<|QA (JZ (n:=n) (vs:=[tx (el ps i.i).f,.slice (el ps i.i).r.q (el ps i.i).r.n (el ps i.i).r.cap]) ((i.i)*2) (λF h9=>h9.1.2.1) O rfl Xh I λj v s=>JN (f:=VM) (l:=ps) YR O s)<|Qc KV λS=>QW (vs:=[_,_]) I I I Xh I .here .h2 wm<|wY<|JG (.cons_cons _ (.cons _ .slnil)) mixed tE<|QK (QD I)<|QK (QH I GM JF)<|QK (Qe I JF .here .h1)<|QR I (λ_ _ f k=>Ki f k.1.1 ((XM (s _ (Qw a)).1).1) (tD<|(s _ (Qw a)).2.1)) λu=>QK (QH I Yh JM)<|QK (Qe I JM .here (.skip .h1))<|QR I (λ_ _ f k=>p6 f (r:=(el ps i.i).r) (k.1.1.2.2 _ (Qw a)) O) λK=>IP I (eM _ _ _) (D5 (r:=K) (x:=u) i.hI b.2.2 O O λF h9=>⟨h9.1.1.1.1,h9.1.1.2,h9.1.2,h9.2⟩) (λn w h=>St.imp h (.cons _ we) λF h=>h.1.1.1) λo=>Yl _ (λ_ _ f h=>h.2.2) λE=>?_
  have B:WK (addN i.ts o) ((ps.take (i.i+1)).map R6):=by
   have:=i.hI.add b.2.2 E;rw[XE a,aL];exact this
  refine Q7<|Qj<|QC<|QB<|QA (Qu I I O)<|wB 2 I ?_
  exact Ql (⟨i.i+1,addN i.ts o,a,B⟩) (by show ps.length-(i.i+1)<ps.length-i.i;omega) wv (.cons_cons _ (.cons _ .slnil)) λF h=>⟨h.1.1.1.1,h.2.1⟩
 have A:i.i=ps.length:=tD<|wj hc
 refine Qx ?_
 repeat first|refine QY ?_|refine QO tH ?_
 refine QZ<|wE 4 I ?_
 have C:=i.hI;rw[A,aC]at C;refine XX I (aK _) (BY C (by have:=C.ln;rw[bw]at this;omega) tO) (λH=>wD 4 I ?_);exact QP (H) rfl (wT I) (rfl) tO
end
abbrev WS:=Sr×List ZY
variable{ls:List WS}
instance :Inhabited WS:=⟨(⟨none,0,0⟩,[])⟩
def Nk(F:Gs)(ls:List WS):Prop:=∀e∈ls,XU F e.1 e.2 (J4 e.2)
def Nk.le(h:Nk F ls)(k:Gs.le F F'):Nk F' ls:=λe he=>(h e he).le k
def Er(ls:List WS):List Tm:=ls.flatMap λe=>J4 e.2
structure QIB(ls:List WS) where
 i:Nat
 ts:List ZY
 le:i<=ls.length
 hI:WK ts (Er (ls.take i))
structure IU(l0:List Tm)(te:List ZY) where
 j:Nat
 ts:List ZY
 le:j<=te.length
 hI:WK ts (l0++J4 (te.take j))
def VN{a:List ZY}(h:j<a.length):J4 (a.take (j+1))=J4 (a.take j)++[(el a j).t]:=by unfold J4;rw[XE h,aL];rfl
def qk(h:i<ls.length):Er (ls.take (i+1))=Er (ls.take i)++J4 (el ls i).2:=by unfold Er;rw[XE h,aW];simp
def uE(h:i<ls.length):Yr (Er (ls.take i)++J4 ((el ls i).2.take j))<=Yr (Er ls):=by
 have b:Er ls=Er (ls.take i)++(J4 (el ls i).2++Er (ls.drop (i+1))):=by
  have:ls=ls.take i++el ls i::ls.drop (i+1):=by rw[<-Bp h,aR]
  unfold Er
  conv=>lhs;rw[this]
  rw[aW,bC]
 have a:J4 (el ls i).2=J4 ((el ls i).2.take j)++J4 ((el ls i).2.drop j):=by unfold J4;rw[<-aL,aR]
 have h1:=congrArg Yr b;have h2:=congrArg Yr a;rw[Zi,Zi]at h1;rw[Zi]at h2;rw[Zi];omega
theorem QBQ{p q:WS}(V:Fits F w)(H:JE F)(Q:XU F p.1 p.2 (J4 p.2))(P:XU F q.1 q.2 (J4 q.2))(hp:(∀t∈p.2,PW t.t.2)/\∀t∈q.2,PW t.t.2)(N:p.2.length<=400000000/\q.2.length<=400000000)(hz:Yr (J4 p.2++J4 q.2)<=40000000):
  QU prog 296 [p.1.v,q.1.v] w F (λ(c:WS)=>c.1.v) (λc F=>XU F c.1 c.2 (XO (J4 p.2++J4 q.2))):=by
 have C:∀e∈[p,q],(∀t∈e.2,PW t.t.2)/\e.2.length<=400000000/\e.2.length=e.1.n:=by
  intro e he;simp only[ay,aI,or_false]at he;rcases he with rfl | rfl
  ·exact⟨hp.1,N.1,Q.2.2.2.2⟩
  exact⟨hp.2,N.2,P.2.2.2.2⟩
 have y:Er [p,q]=J4 p.2++J4 q.2:=by simp[Er]
 rw[<-y]at hz ⊢;dsimp only[Sr.v];refine QU.intro (G:=λF=>JE F/\Nk F [p,q]) func296 rfl tH rfl rfl V (λF' A=>⟨H.le A,Nk.le (by intro e he;simp only[ay,aI,or_false]at he;rcases he with rfl | rfl;exact Q;exact P) A⟩)<|wa<|wZ rfl<|wa<|HM tx λm=>wZ rfl<|QG<|wb rfl<|wW rfl<|Qb rfl (Q5 YT) YJ U6 rfl rfl λX=>QA (Qg rfl YT)<|wW rfl<|wY<|QV<|JU (ι:=QIB [p,q]) [(5,_),(13,_),(14,_)] (λi=>[(15,.int .i64 ((i.i:Nat):Int))]) (λi=>[(m,Zy tx (He i.ts))]) (λi F=>GG F i.ts) (λi=>2-i.i) (⟨0,[],au _,WK.nil⟩) wu wk we (λ_ _ _ h=>by cases h) λi=>?_
 simp only[ab,ag];have hi:=i.le;simp only[ar,bW]at hi;refine wA 6 I ?_;refine QQ I (λhc=>?_) λhc=>?_
 ·have b:i.i<[p,q].length:=by have:=wi hc;simp only[ar,bW];omega
  have g:=Qw b;have u:=C _ g;have U:=u.2.2;have M:=u.2.1;refine wC 6 I<|QA (Q3 (n:=2) i.i (λF h9=>Qy.of (n:=2) (sz:=1) (cs:=[p,q].map λe=>e.1.v) h9.1.2 I) rfl rfl YT YJ (by simpa using b))<|QA (JA (n:=2) (i.i*1) (λF h9=>Qy.of (n:=2) (sz:=1) (cs:=[p,q].map λe=>e.1.v) h9.1.2 I) tF rfl YJ (XT (f:=λe:WS=>e.1.v) (l:=[p,q]) b))<|wD 6 I<|QA (Qg I Yt)<|wD 4 I<|JU (ι:=IU (Er ([p,q].take i.i)) (el [p,q] i.i).2) [(5,_),(13,_),(14,_),(15,_),(19,_),(20,_)] (λa=>[(21,.int .i64 ((a.j:Nat):Int))]) (λa=>[(m,Zy tx (He a.ts))]) (λa F=>GG F a.ts) (λa=>(el [p,q] i.i).2.length-a.j) (⟨0,i.ts,au _,by simpa[J4]using i.hI⟩) wz wk we tO λa=>?_
  simp only[ab,ag];have Y:=a.le;refine wA 6 I ?_;refine QQ I (λhc=>?_) λhc=>?_
  ·have o:a.j<(el [p,q] i.i).2.length:=tD<|wi hc
   have k:=Qw o;have S:=uE (j:=a.j) b;have R:JW (el (el [p,q] i.i).2 a.j).t.1<=Yr (Er [p,q]):=Nn (List.mem_flatMap.2 ⟨_,g,aa k⟩);refine wC 6 I<|QA (Q3 (n:=(el [p,q] i.i).1.n) (a.j) (λF h9=>(h9.1.1.1.2 _ g).1) rfl rfl Yt Xw O)<|QA (JZ (n:=(el [p,q] i.i).1.n) (vs:=[.int .i64 (el (el [p,q] i.i).2 (a.j)).x.n.s,.slice (el (el [p,q] i.i).2 (a.j)).x.n.q (el (el [p,q] i.i).2 (a.j)).x.n.n (el (el [p,q] i.i).2 (a.j)).x.n.cap,.int .i64 (el (el [p,q] i.i).2 (a.j)).x.d.s,.slice (el (el [p,q] i.i).2 (a.j)).x.d.q (el (el [p,q] i.i).2 (a.j)).x.d.n (el (el [p,q] i.i).2 (a.j)).x.d.cap,.slice (el (el [p,q] i.i).2 (a.j)).r.q (el (el [p,q] i.i).2 (a.j)).r.n (el (el [p,q] i.i).2 (a.j)).r.cap]) ((a.j)*5) (λF h9=>(h9.1.1.1.2 _ g).1) O rfl Xw I λj v T=>JN (f:=WQ) (l:=(el [p,q] i.i).2) Bf O T)<|Qc GN λZ=>QW (vs:=[_,_,_,_,_]) I I I Xw I .here .h5 wy<|wD 4 I<|QA (QH I Wy QS)<|QA (wP I QS .here)<|QA (QH I V7 JM)<|QA (Qe I JM .here (.skip (.skip (.skip (.skip .h1)))))<|XX I (eM _ _ _) (D5 (r:=(el (el [p,q] i.i).2 a.j).r) (x:=(el (el [p,q] i.i).2 a.j).x) a.hI (u.1 _ k) O O λF h9=>⟨h9.1.1.1.1,h9.2,((h9.1.1.1.2 _ g).2.1 _ k).1,((h9.1.1.1.2 _ g).2.1 _ k).2⟩) λB=>JQ _ (λ_ _ f h=>h.2.2) λK=>QE<|Qj<|QC<|QB<|QA (Qu I I O) ?_
   refine wB 2 I ?_;exact Ql (⟨a.j+1,addN a.ts B,o,by rw[VN o,<-bP];exact a.hI.add (u.1 _ k) K⟩) (by show _-(a.j+1)<_-a.j;omega) w6 (.cons_cons _ (.cons _ .slnil)) λF h=>⟨h.1.1,h.2.1⟩
  have z:a.j=(el [p,q] i.i).2.length:=tD<|wj hc
  refine Qx ?_
  repeat first|refine QY ?_|refine QO tH ?_
  refine QZ<|Qj<|QC<|QB<|QA (Qu I I O)<|wB 2 I ?_
  exact Ql (⟨i.i+1,a.ts,b,by rw[qk b];have:=a.hI;rw[z,aC]at this;exact this⟩) (by show 2-(i.i+1)<2-i.i;simp only[ar,bW]at b;omega) wv we λF h=>⟨h.1.1,h.2⟩
 have D:i.i=[p,q].length:=by have:=wj hc;simp only[ar,bW];omega
 refine Qx ?_
 repeat first|refine QY ?_|refine QO tH ?_
 refine QZ<|wE 4 I ?_
 have E:=i.hI;rw[D,aC]at E;refine XX I (aK _) (BY E (by have:=E.ln;rw[y,aj]at this;simp only[J4,bw]at this;omega) tO) (λL=>wD 4 I ?_);exact QP (L) rfl (wT I) (rfl) tO
section
variable{P:Program}{Q:Exit->Act->World->Prop}{N:Nat}{m:Sl}{E0:Env}{ops:Array Oper}{l:List Oper}{w0:World}{F0:Gs}{bs:List (Nat×Obj)}{G:Gs->Prop}
theorem Y6[Dr]{bs':List (Nat×Obj)}(hp:bs.Perm bs')(k:JD P ops Q E0 l N m ⟨w0,F0,bs',G⟩):JD P ops Q E0 l N m ⟨w0,F0,bs,G⟩:=λc a w ha b=>k (λw h=>c w (h.perm hp.symm)) a w ha (b.perm hp)
end
abbrev Pt:=List (List UInt8×List Int)
def ZX(ts:List V0):Pt:=ts.map λt=>(t.f,t.k)
abbrev NQ:=Sr×List V0
def Q8.pos{sz:Nat}{v:Value}{cs:List Value}{ob:List (Nat×Obj)}(h:Q8 T sz v n cs ob)(a:0<n):∃b cap rest,v = .slice (Option.some ⟨b,0,Option.none⟩) n cap/\ob=[(b,.cells (cs++rest).toArray T (0,0))]/\cs.length=n*sz/\cs.length+rest.length=cap*sz/\n<=cap/\cap<=maxLen:=by
 cases h with
 |nil=>omega
 |some h1 h2 h3 h4=>exact⟨_,_,_,rfl,rfl,h1,h2,h3,h4⟩
structure PmO(p q:List ZY) where
 i:Nat
 ts:List ZY
 le:i<=p.length
 hI:WK ts (Zr (J4 (p.take i)) (J4 q))
structure PmJ(l0:List Tm)(s:Tm)(q:List ZY) where
 j:Nat
 ts:List ZY
 le:j<=q.length
 hI:WK ts (l0++K6 s (J4 (q.take j)))
structure PmK(n:Nat)(a b:List Int) where
 k:Nat
 L:List Int
 v:Value
 ob:List (Nat×Obj)
 le:k<=b.length
 hr:Q8 3 1 v n (L.map Jo) ob
 hL:L=Wm (a.take k) (b.take k)++a.drop k
def qu{a b:List Int}(h1:k<a.length)(h2:k<b.length):(Wm (a.take k) (b.take k)++a.drop k).set k (Qm a k+Qm b k)=Wm (a.take (k+1)) (b.take (k+1))++a.drop (k+1):=by
 have f:(Wm (a.take k) (b.take k)).length=k:=by unfold Wm;rw[fD,aQ,aQ];omega
 have c:Wm (a.take (k+1)) (b.take (k+1))=Wm (a.take k) (b.take k)++[Qm a k+Qm b k]:=by
  rw[XE h1,XE h2,YW h1,YW h2];unfold Wm;rw[List.zipWith_append (by rw[aQ,aQ];omega)];rfl
 rw[c,Bp h1,List.set_append_right _ _ O,f,iw];simp
def IC{a b:List Int}(h1:k<a.length)(h2:k<b.length):Qm (Wm (a.take k) (b.take k)++a.drop k) k=Qm a k:=by
 have c:(Wm (a.take k) (b.take k)).length=k:=by unfold Wm;rw[fD,aQ,aQ];omega
 have h3:k<(Wm (a.take k) (b.take k)++a.drop k).length:=by rw[aj,c,List.length_drop];omega
 rw[YW h3,YW h1,Jb h3,Jb h1,List.getElem_append_right O];simp[c]
def RD{p q:List ZY}(h:i<p.length):Zr (J4 (p.take (i+1))) (J4 q)=Zr (J4 (p.take i)) (J4 q)++K6 (el p i).t (J4 q):=by
 rw[VN h,EF];congr 1;simp[Zr]
def xr{p q:List ZY}(h:i<p.length):Yr (Zr (J4 (p.take i)) (J4 q)++K6 (el p i).t (J4 (q.take j)))<=Yr (Zr (J4 p) (J4 q)):=by
 have b:J4 p=J4 (p.take (i+1))++J4 (p.drop (i+1)):=by unfold J4;rw[<-aL,aR]
 have a:J4 q=J4 (q.take j)++J4 (q.drop j):=by unfold J4;rw[<-aL,aR]
 have h1:Yr (Zr (J4 p) (J4 q))=Yr (Zr (J4 (p.take (i+1))++J4 (p.drop (i+1))) (J4 q)):=by rw[<-b]
 rw[EF,RD h,Zi,Zi]at h1;have h2:Yr (K6 (el p i).t (J4 q))=Yr (K6 (el p i).t (J4 (q.take j)++J4 (q.drop j))):=by rw[<-a]
 rw[DB,Zi]at h2;rw[Zi];omega
def qA(p q:List Tm):(Zr p q).length=p.length*q.length:=by
 induction p with
 |nil=>simp[Zr]
 |cons s p ih=>rw[Lc,aj,ih,ar,fC];simp[K6];omega
def QBc{a b:Nat}(h:a<=10000)(k:b<=10000):a*b<=100000000:=aX h k
theorem QBK{p q:WS}(hF:Fits F w)(hGl:JE F)(hP:XU F p.1 p.2 (J4 p.2))(Z:XU F q.1 q.2 (J4 q.2))(hw:(∀t∈p.2,t.t.2.length=N)/\∀t∈q.2,t.t.2.length=N)(hN:N<=1000)(hl:p.2.length<=10000/\q.2.length<=10000)
  (B:(∀t∈p.2,PW t.t.2)/\(∀t∈q.2,PW t.t.2)/\∀s∈p.2,∀t∈q.2,PW (Wm s.t.2 t.t.2)) (hz1:Yr (J4 p.2)<=20000000/\Yr (J4 q.2)<=20000000) (hz:Yr (Zr (J4 p.2) (J4 q.2))<=40000000) :
  QU prog 297 [p.1.v,q.1.v] w F (λ(c:WS)=>c.1.v) (λc F=>XU F c.1 c.2 (XO (Zr (J4 p.2) (J4 q.2)))):=by
 have hpn:=hP.2.2.2.2;have hqn:=Z.2.2.2.2;dsimp only[Sr.v];refine QU.intro (G:=λF=>JE F/\XU F p.1 p.2 (J4 p.2)/\XU F q.1 q.2 (J4 q.2)) func297 rfl tH rfl rfl hF (λF' H=>⟨hGl.le H,hP.le H,Z.le H⟩)<|wa<|wZ rfl<|wa<|HM tx λm=>wZ rfl<|QG<|wb rfl<|QA (Qg rfl Yt)<|wW rfl<|wY<|QV<|JU (ι:=PmO p.2 q.2) [(1,_),(5,_),(14,_),(15,_)] (λi=>[(16,.int .i64 ((i.i:Nat):Int))]) (λi=>[(m,Zy tx (He i.ts))]) (λi F=>GG F i.ts) (λi=>p.2.length-i.i) (⟨0,[],au _,WK.nil⟩) wv wk we (λ_ _ _ h=>by cases h) λi=>?_
 simp only[ab,ag];have hi:=i.le;refine wA 6 I ?_;refine QQ I (λhc=>?_) λhc=>?_
 ·have C:i.i<p.2.length:=tD<|wi hc
  have u:=Qw C;have hna:=hw.1 _ u;have M:=(hP.2.1 _ u).2.2.1;refine wC 6 I<|QA (Q3 (n:=p.1.n) i.i (λF h9=>(h9.1.2.1).1) rfl rfl Yt Xw O)<|QA (JZ (n:=p.1.n) (vs:=[.int .i64 (el p.2 i.i).x.n.s,.slice (el p.2 i.i).x.n.q (el p.2 i.i).x.n.n (el p.2 i.i).x.n.cap,.int .i64 (el p.2 i.i).x.d.s,.slice (el p.2 i.i).x.d.q (el p.2 i.i).x.d.n (el p.2 i.i).x.d.cap,.slice (el p.2 i.i).r.q (el p.2 i.i).r.n (el p.2 i.i).r.cap]) ((i.i)*5) (λF h9=>(h9.1.2.1).1) O rfl Xw I λj v K=>JN (f:=WQ) (l:=p.2) Bf O K)<|Qc GN λb7=>QW (vs:=[_,_,_,_,_]) I I I Xw I .here .h5 wy<|wD 5 I<|QA (Qg I Yt)<|wD 4 I<|JU (ι:=PmJ (Zr (J4 (p.2.take i.i)) (J4 q.2)) (el p.2 i.i).t q.2) [(1,_),(5,_),(7,_),(14,_),(15,_),(16,_),(20,_),(21,_)] (λa=>[(22,.int .i64 ((a.j:Nat):Int))]) (λa=>[(b7,.cells (WQ (el p.2 i.i)).toArray 263 (0,0)),(m,Zy tx (He a.ts))]) (λa F=>GG F a.ts) (λa=>q.2.length-a.j) (⟨0,i.ts,au _,by simpa[J4,K6]using i.hI⟩) w8 wk we tO λa=>?_
  simp only[ab,ag];have hj:=a.le;refine wA 6 I ?_;refine QQ I (λhc=>?_) λhc=>?_
  ·have A:a.j<q.2.length:=tD<|wi hc
   have g:=Qw A;have hnb:=hw.2 _ g;have hrb:=(Z.2.1 _ g).2.2.1;have hzz:=xr (q:=q.2) (j:=a.j) C;have hza:JW (el p.2 i.i).t.1<=Yr (J4 p.2):=Nn (aa u);have hzb:JW (el q.2 a.j).t.1<=Yr (J4 q.2):=Nn (aa g);refine wC 6 I<|QA (Q3 (n:=q.1.n) (a.j) (λF h9=>(h9.1.1.2.2).1) rfl rfl Yt Xw O)<|QA (JZ (n:=q.1.n) (vs:=[.int .i64 (el q.2 (a.j)).x.n.s,.slice (el q.2 (a.j)).x.n.q (el q.2 (a.j)).x.n.n (el q.2 (a.j)).x.n.cap,.int .i64 (el q.2 (a.j)).x.d.s,.slice (el q.2 (a.j)).x.d.q (el q.2 (a.j)).x.d.n (el q.2 (a.j)).x.d.cap,.slice (el q.2 (a.j)).r.q (el q.2 (a.j)).r.n (el q.2 (a.j)).r.cap]) ((a.j)*5) (λF h9=>(h9.1.1.2.2).1) O rfl Xw I λj v K=>JN (f:=WQ) (l:=q.2) Bf O K)<|Qc GN λb9=>QW (vs:=[_,_,_,_,_]) I I I Xw I .here .h5 wy<|wY<|wa<|QA (QH I V7 JM)<|QA (Qe I JM .u1 (.skip (.skip (.skip (.skip .h1)))))<|XX I (aK _) (Uk (r:=(el p.2 i.i).r) (l:=(el p.2 i.i).t.2) (λF h9=>(h9.1.1.2.1.2.1 _ u).2) M O) λT=>JQ _ (λ_ _ f h=>h.2) λh28=>wD 6 I<|QA (QH I V7 JM) ?_
   refine QA (Qe I JM .here (.skip (.skip (.skip (.skip .h1)))))<|QA (Qg I Q2)<|wD 4 I<|JU (ι:=PmK (el p.2 i.i).r.n (el p.2 i.i).t.2 (el q.2 a.j).t.2) [(1,_),(5,_),(7,_),(9,_),(14,_),(15,_),(16,_),(20,_),(21,_),(22,_),(30,_),(31,_)] (λz=>[(10,z.v),(32,.int .i64 ((z.k:Nat):Int))]) (λz=>[(b9,.cells (WQ (el q.2 a.j)).toArray 263 (0,0)),(b7,.cells (WQ (el p.2 i.i)).toArray 263 (0,0)),(m,Zy tx (He a.ts))]++z.ob) (λz F=>True) (λz=>(el q.2 a.j).t.2.length-z.k) (⟨0,(el p.2 i.i).t.2,T.1,T.2,au _,h28,by simp[Wm]⟩) tC wm we tL λz=>?_
   simp only[ab,ag];have hk:=z.le;refine wA 6 I ?_;refine QQ I (λhc=>?_) λhc=>?_
   ·obtain⟨k,L,v,ob,hk0,hr,hL⟩:=z;dsimp only at hk hc ⊢;have y:k<(el q.2 a.j).t.2.length:=tD<|wi hc
    have D:k<(el p.2 i.i).t.2.length:=O;have S:L.length=(el p.2 i.i).t.2.length:=by rw[hL];unfold Wm;simp;omega
    have hb1:=(B.1 _ u).el D;have hb2:=(B.2.1 _ g).el y;obtain⟨b,cap,rest,rfl,rfl,e1,e2,e3,e4⟩:=Q8.pos hr O;have hdL:Qm L k=Qm (el p.2 i.i).t.2 k:=by rw[hL];exact IC D y
    refine wC 7 I<|QA (Q3 (n:=(el q.2 a.j).r.n) k (λF h9=>(h9.1.1.1.1.2.2.2.1 _ g).2.1) rfl rfl Q2 JK O)<|QA (JA (n:=(el q.2 a.j).r.n) (k*1) (λF h9=>(h9.1.1.1.1.2.2.2.1 _ g).2.1) O rfl JK (Jz (o:=(el q.2 a.j).t.2) O))<|wD 7 I<|QA (JL (i:=k) rfl rfl Q2 JK O)<|QA (V1 (c:=(L).map Jo++rest) (T':=3) rfl JK .u3 (WR (by first | omega | (simp only[aZ];omega))))<|wW I<|QA (Qu I I O)<|QA (JL (i:=k) rfl rfl Q2 JK O)<|QW (vs:=[_]) I I I JK I .u3 (BB (by first | omega | (simp only[aZ];omega)) ((Qm (L) (k)+Qm (el q.2 a.j).t.2 k))) wk<|QE<|Qj<|QC ?_
    refine QB<|QA (Qu I I O)<|wB 2 I ?_
    exact Ql (⟨k+1,_,_,_,y,Q8.some (by simpa using e1) (by simpa using e2) e3 e4,by rw[hL,IC D y];exact qu D y⟩) (by show(el q.2 a.j).t.2.length-(k+1)<(el q.2 a.j).t.2.length-k;omega) ⟨rfl,rfl,rfl,rfl,rfl,rfl,rfl,rfl,rfl,rfl,rfl,rfl,rfl,rfl,trivial⟩ we λF h=>⟨h.1,trivial⟩
   have P:z.k=(el q.2 a.j).t.2.length:=tD<|wj hc
   have hLe:z.L=Wm (el p.2 i.i).t.2 (el q.2 a.j).t.2:=by
    have h1:=z.hL;rw[P,aC]at h1;rw[h1,bS O,ax O,eU]
   have S:(Wm (el p.2 i.i).t.2 (el q.2 a.j).t.2).length=(el p.2 i.i).r.n:=by rw[IB O];exact M
   refine Qx ?_
   repeat first|refine QY ?_|refine QO tH ?_
   refine QZ<|wE 3 I<|QA (QH I Wy QS)<|QA (wP I QS .u1)<|QA (QH I Wy QS)<|QA (wP I QS .here)<|QI I (λ_ _ f k=>GD f ((k.1.1.1.1.2.1.2.1 _ u).1) ((k.1.1.1.1.2.2.2.1 _ g).1) O O) λU=>wW I ?_
   obtain⟨r,K,E,X,R⟩:=Q8.fix (w0:=w) (F0:=F) (bs1:=[(b9,.cells (WQ (el q.2 a.j)).toArray 263 (0,0)),(b7,.cells (WQ (el p.2 i.i)).toArray 263 (0,0)),(m,Zy tx (He a.ts))]) (G:=_) z.hr;refine Zj R ?_;rw[K];refine ZL (eN (l₁:=[_,_]) (l₂:=[]))<|XX I (aK _) (D5 (r:=r) (x:=U) a.hI (B.2.2 _ u _ g) (tD<|YN (el p.2 i.i).t.1 (el q.2 a.j).t.1) O λF h9=>⟨h9.1.1.1.1.1.1.1,h9.1.1.1.1.2,⟨h9.1.2.1,h9.1.2.2⟩,by rw[E,<-hLe];exact h9.2,by rw[E];exact S,by rw[E];exact X⟩) λV=>JQ _ (λ_ _ f h=>h.2.2) λh52=>ZL (bs':=[_,_,_]) (eN (l₁:=[_,_]) (l₂:=[])).symm<|QE<|Qj<|QC<|QB<|QA (Qu I I O)<|wB 2 I ?_
   exact Ql (⟨a.j+1,addN a.ts V,A,by rw[VN A,DB,<-bP];exact a.hI.add (B.2.2 _ u _ g) h52⟩) (by show q.2.length-(a.j+1)<q.2.length-a.j;omega) w9 (.cons _ we) λF h=>⟨h.1.1.1.1.1.1,h.2.1⟩
  have Q:a.j=q.2.length:=tD<|wj hc
  refine Qx ?_
  repeat first|refine QY ?_|refine QO tH ?_
  refine QZ<|Qj<|QC<|QB<|QA (Qu I I O)<|wB 2 I ?_
  exact Ql (⟨i.i+1,a.ts,C,by rw[RD C];have:=a.hI;rw[Q,aC]at this;exact this⟩) (by show p.2.length-(i.i+1)<p.2.length-i.i;omega) wy (.cons _ we) λF h=>⟨h.1.1,h.2⟩
 have Y:i.i=p.2.length:=tD<|wj hc
 refine Qx ?_
 repeat first|refine QY ?_|refine QO tH ?_
 refine QZ<|wE 4 I ?_
 have hI:=i.hI;rw[Y,aC]at hI;refine XX I (aK _) (BY hI (by have h1:=hI.ln;rw[qA]at h1;simp only[J4,bw]at h1;have h2:=QBc hl.1 hl.2;omega) tO) (λc56=>wD 4 I ?_);exact QP (c56) rfl (wT I) (rfl) tO
def Yb(ts:List ZY):(J4 ts).length=ts.length:=by simp[J4]
def BL(v:Int):Int:=if decide (v<0)=true\/decide (v>24)=true then 3 else 0
def Bs(v:Int):BL v=0↔0<=v/\v<=24:=by unfold BL;simp only[decide_eq_true_eq];split<;>omega
def qZ{v:Int}(h:¬v<0):BL v=if decide (v>24)=true then 3 else 0:=by unfold BL;simp[h]
def GI(l:List Int):Int:=(l.map λk=>if 13<k then 13 else k).sum
def Y8(f:List UInt8)(l:List Int)(v:Int):Int :=
 if(l.length:Int)≠v+1 then 2 else if l.any (λk=>decide (k<0))=true then 3 else Qs [if decide (GI l>12)=true then 4 else 0,Jp f]
def Ik(h:i<l.length):GI (l.take (i+1))=GI (l.take i)+(if 13<Qm l i then 13 else Qm l i):=by
 unfold GI;rw[XE h,aL,eT,YW h];simp
theorem MY(l:List Int)(h:∀k∈l,0<=k):0<=GI l/\GI l<=13*l.length:=by
 induction l with
 |nil=>simp[GI]
 |cons x l ih =>
  have h1:=ih λk hk=>h k (by simp[hk]);have h2:=h x tJ;have e:GI (x::l)=(if 13<x then 13 else x)+GI l:=by unfold GI;rw[af,bQ]
  rw[e,ar];split<;>omega
structure QGs(l:List Int) where
 i:Nat
 le:i<=l.length
 nn:∀k∈l.take i,0<=k
def jd(h:i<l.length)(a:Qm l i<0):l.any (λk=>decide (k<0))=true:=by
 rw[eO];exact⟨el l i,Qw h,by rw[<-YW h];exact decide_eq_true a⟩
def uB(h:∀k∈l,0<=k):¬l.any (λk=>decide (k<0))=true:=by
 rw[eO];rintro⟨k,hk,e⟩;have:=wi e;have:=h k hk;omega
theorem qY{v:Int}(b:Fits F w):Qf prog 231 [.int .i64 v] w F (.int .i64 (BL v)):=by
 refine QU.intro (G:=λF=>True) func231 rfl tH rfl rfl b tL<|wa<|wZ rfl<|wb rfl<|QA (QT rfl rfl rfl)<|wW rfl ?_
 refine Qn (t:=5) rfl (λa=>?_) λa=>?_
 ·refine wB 3 I<|QI I (λ_ _ f _=>Pm f ) λ_=>wD 4 I ?_
  exact wg I I (congrArg (aA .i64) (by unfold BL;simp_all)) tL
 refine wB 5 I<|QI I (λ_ _ f _=>Pm f ) λ_=>wD 4 I ?_
 exact wg I I (congrArg (aA .i64) (qZ (wj a))) tL
theorem pc{f:List UInt8}{q:Option Addr}{v:Int}(C:Fits F w)(y:JE F)(A:J8 F ⟨q,n,cap⟩ l)(B:f.length<=1000000)(H:l.length<=1000000)(E : -1000000<=v/\v<=1000000):Qf prog 294 [.agg #[tx f,.slice q n cap],.int .i64 v] w F (.int .i64 (Y8 f l v)):=by
 have b:l.length=n:=A.2.1;refine QU.intro (G:=λF=>JE F/\J8 F ⟨q,n,cap⟩ l) func294 rfl tH rfl rfl C (λF' u=>⟨y.le u,A.le u⟩)<|wa<|Qp rfl (vs:=[_,_]) rfl λb2=>wZ rfl<|QG<|wa<|QA (QH rfl Yh JM)<|QA (Qe rfl JM .here (.skip .h1))<|QA (Qg rfl Q2)<|wW rfl<|QA (Qu rfl rfl O)<|QA (QT rfl rfl rfl)<|QE<|QC ?_
 refine QQ I (λhc=>?_) λhc=>?_
 ·have x:=bne_iff_ne.1 hc;refine wA 6 I ?_;exact wg I I (congrArg (aA .i64) (by unfold Y8;rw[if_pos (by rw[b];exact x)])) tL
 have s:=bne_eq_false_iff_eq.1 hc;refine wC 10 I<|QA (QH I Yh JM)<|QA (Qe I JM .here (.skip .h1))<|QA (Qg I Q2)<|wD 4 I<|J9 (ι:=QGs l) [(2,_),(15,_),(16,_)] (λi=>[(5,.int .i64 (GI (l.take i.i))),(17,.int .i64 ((i.i:Nat):Int))]) (λi=>l.length-i.i) (⟨0,au _,tJ⟩) wu wm λi=>?_
 simp only[ab,ag];have hi:=i.le;have hb:=MY _ i.nn;rw[aQ]at hb;refine wA 6 I ?_;refine QQ I (λhc=>?_) λhc=>?_
 ·have a:i.i<l.length:=tD<|wi hc
  refine wC 6 I<|QA (Q3 (n:=n) i.i (λF h9=>(h9.2).1) rfl rfl Q2 JK O)<|QA (JA (n:=n) ((i.i)*1) (λF h9=>(h9.2).1) O rfl JK (Jz (o:=l) O))<|wD 10 I ?_
  refine QQ I (λhc=>?_) λhc=>?_
  ·have j:=wi hc;refine wA 6 I ?_
   repeat first|refine Q6 ?_|refine Qv ?_
   exact wg I I (congrArg (aA .i64) (by unfold Y8;rw[if_neg (by rw[b];exact λh=>h s),if_pos (jd a j)])) tL
  have j:=wj hc;refine wC 5 I<|QA (vR I I)<|QA (Qu I I O)<|wB 2 I<|Qj<|QC<|QB<|QA (Qu I I O)<|wB 2 I ?_
  exact Ql (⟨i.i+1,a,by intro k hk;rw[XE a]at hk;rcases List.mem_append.1 hk with hk | hk;exact i.nn k hk;rw[List.mem_singleton.1 hk,<-YW a];omega⟩) (by show l.length-(i.i+1)<l.length-i.i;omega) ⟨rfl,rfl,rfl,(congrArg (λz:Int=>some (aA .i64 z)) (Ik a).symm),rfl,trivial⟩ we tM
 have m:i.i=l.length:=tD<|wj hc
 refine Qx ?_
 repeat first|refine QY ?_|refine QO tH ?_
 refine QZ<|QC<|QG<|JG we mixed tE ?_
 rw[m,aC];have c:=i.nn;rw[m,aC]at c;refine QK (QD I)<|QK (QT I I I)<|QR I (λ_ _ f k=>Pm f ) λ_=>QK (QH I GM JF)<|QK (Qe I JF .here .h1)<|QR I (λ_ _ f k=>Eo f k.1.1 (B)) λ_=>?_
 refine Qo I (Q5 ZM) YS Ht I I (λD=>?_) (λw h=>h.imp tP λF h=>h.1.1);refine QR I (λ_ _ g k=>CM g (Qy.of (cs:=fu Jo [if decide (GI l>12)=true then 4 else 0,Jp f]) k.2 I) tF) (λ_=>QK (QF I)<|Q7<|QC<|QX ?_);exact wg I I (congrArg (aA .i64) (by unfold Y8;rw[if_neg (by rw[b];exact λh=>h s),if_neg (uB c)])) tL
theorem Rc{a b:Int}(h:Qs [a,b]=0):a=0/\b=0:=by
 unfold Qs at h;by_cases g:a=0
 ·rw[if_pos g]at h;unfold Qs at h;by_cases k:b=0
  ·exact⟨g,k⟩
  rw[if_neg k]at h;exact⟨g,h⟩
 rw[if_neg g]at h;exact absurd h g
def GH(p:Pt)(v:Int)(i:Nat):Int :=
 let e:=Qs [Y8 (el p i).1 (el p i).2 v,if((el p i).1==[48])=true then 6 else 0]
 if e=0/\0<i/\0<=Gj (el p (i-1)).2 (el p i).2 then 11 else e
def Zh(p:Pt)(v:Int):Int:=if decide ((p.length:Int)>64)=true then 5 else Qs ((ai p.length).map (GH p v))
def ZG(h:i<n):el (ai n) i=i:=by rw[Jb (by simpa using h)];simp
def F9{ts:List V0}(h:i<ts.length):el (ZX ts) i=((el ts i).f,(el ts i).k):=by rw[Jb (by simpa[ZX]using h),Jb h];simp[ZX]
theorem OA(h:∀k∈l,0<=k)(hc:GI l<=12):∀k∈l,k<=12:=by
 induction l with
 |nil=>intro k hk;cases hk
 |cons x l ih =>
  have a:∀k∈l,0<=k:=λk hk=>h k (by simp[hk]);have h1:=(MY l a).1;have h2:=h x tJ;have e:GI (x::l)=(if 13<x then 13 else x)+GI l:=by unfold GI;rw[af,bQ]
  rw[e]at hc;intro k hk;rcases List.mem_cons.1 hk with rfl | hk
  ·split at hc<;>omega
  refine ih a ?_ k hk;split at hc<;>omega
theorem Wv{f:List UInt8}{v:Int}(h:Y8 f l v=0):(l.length:Int)=v+1/\(∀k∈l,0<=k/\k<=12)/\GI l<=12/\Jp f=0:=by
 unfold Y8 at h;split at h
 ·omega
 rename_i h1;split at h
 ·omega
 rename_i h2;have hn:∀k∈l,0<=k:=λk hk=>by
  rcases fm k 0 with g | g
  ·exact absurd (List.any_eq_true.2 ⟨k,hk,decide_eq_true g⟩) h2
  exact g
 obtain⟨g1,g2⟩:=Rc h;have hc:GI l<=12:=by
  rcases fm 12 (GI l)with g | g
  ·rw[if_pos (decide_eq_true g)]at g1;omega
  exact g
 exact⟨O,λk hk=>⟨hn k hk,OA hn hc k hk⟩,hc,g2⟩
theorem GB{f:List UInt8}{v:Int}(h:Y8 f l v=0)(a:v<=24):PW l:=by
 obtain⟨h1,h2,_⟩:=Wv h;exact⟨λk hk=>tD<|h2 k hk,O⟩
theorem Pc{p:Pt}{v:Int}(h:GH p v i=0):Y8 (el p i).1 (el p i).2 v=0/\(el p i).1≠[48]/\(0<i->Gj (el p (i-1)).2 (el p i).2<0):=by
 unfold GH at h;dsimp only at h;by_cases g:Qs [Y8 (el p i).1 (el p i).2 v,if((el p i).1==[48])=true then 6 else 0]=0/\0<i/\0<=Gj (el p (i-1)).2 (el p i).2
 ·rw[if_pos g]at h;omega
 rw[if_neg g]at h;obtain⟨h1,a⟩:=Rc h;have h2:(el p i).1≠[48]:=by
  intro q;rw[if_pos (by rw[q];rfl)]at a;omega
 refine⟨h1,h2,λhi=>?_⟩;rcases fm (Gj (el p (i-1)).2 (el p i).2) 0 with q | q
 ·exact q
 exact absurd ⟨h,hi,q⟩ g
structure jQ(p:Pt)(v:Int)(n:Nat) where
 i:Nat
 le:i<=n
 z:∀j,j<i->GH p v j=0
def jQ.scan{p:Pt}{v:Int}{n:Nat}(s:jQ p v n):X7 (ai n) (GH p v):=⟨s.i,by rw[eI];exact s.le,by
 have a:∀i,i<=n->(∀j,j<i->GH p v j=0)->Qs ((ai n).map (GH p v))=Qs (((ai n).map (GH p v)).drop i):=by
  intro i
  induction i with
  |zero=>intro _ _;rfl
  |succ i ih =>
   intro hi hz;rw[ih O (λj b=>hz j O),Wx tK (by simp;exact hz i O)]
 exact a s.i s.le s.z⟩
def DQ{p:Pt}{v x:Int}{n:Nat}(b:p.length=n)(hp:¬(n:Int)>64)(s:jQ p v n)(h:s.i<n)(a:GH p v s.i=x)(hx:x≠0):Zh p v=x:=by
 unfold Zh;rw[b,if_neg (by rw[decide_eq_true_eq];exact hp),s.scan.hit (by rw[eI];exact h) (by rw[show s.scan.i=s.i from rfl,ZG h,a];exact hx),show s.scan.i=s.i from rfl,ZG h,a]
def OZ{p:Pt}{v:Int}{n:Nat}(a:p.length=n)(hp:¬(n:Int)>64)(s:jQ p v n)(h:n<=s.i):Zh p v=0:=by
 unfold Zh;rw[a,if_neg (by rw[decide_eq_true_eq];exact hp),s.scan.stop (by rw[eI];exact h)]
def step_eq{v E:Int}(h:i<ps.length)(a:Qs [Y8 (el ps i).f (el ps i).k v,if((el ps i).f==[48])=true then 6 else 0]=E):GH (ZX ps) v i=if E=0/\0<i/\0<=Gj (el ps (i-1)).k (el ps i).k then 11 else E:=by
 unfold GH;rw[F9 h,F9 (show i-1<ps.length by omega)];dsimp only;rw[a]
theorem yb{q:Option Addr}{v:Int}(U:Fits F w)(M:JE F)(S:Qy F q n 2 (ps.flatMap VM))(T:Yy F ps)(K:ps.length=n)(P:∀t∈ps,t.f.length<=1000000/\t.k.length<=1000000)(X:ps.length<=1000000)(D:0<=v/\v<=24):Qf prog 232 [.slice q n cap,.int .i64 v] w F (.int .i64 (Zh (ZX ps) v)):=by
 have u:(ZX ps).length=n:=by unfold ZX;rw[bw];exact K
 refine QU.intro (G:=λF=>JE F/\Qy F q n 2 (ps.flatMap VM)/\Yy F ps) func232 rfl tH rfl rfl U (λF' y=>⟨M.le y,S.le y,T.le y⟩)<|wa<|wZ rfl<|QG<|wb rfl<|QA (Qg rfl Zg)<|QA (QT rfl rfl rfl)<|QE<|QC ?_
 refine QQ I (λhc=>?_) λhc=>?_
 ·have o:=hc;refine wA 6 I ?_;exact wg I I (congrArg (aA .i64) (by unfold Zh;rw[u,if_pos o])) tL
 have o:=wj hc;refine wC 6 I<|QA (Qg I Zg)<|wD 4 I<|J9 (ι:=jQ (ZX ps) v n) [(0,_),(1,_),(11,_),(12,_)] (λi=>[(13,.int .i64 ((i.i:Nat):Int))]) (λi=>n-i.i) (⟨0,au _,λj C=>absurd C (ia _)⟩) wv wk λi=>?_
 simp only[ab,ag];have hi:=i.le;refine wA 6 I ?_;refine QQ I (λhc=>?_) λhc=>?_
 ·have s:i.i<n:=tD<|wi hc
  have x:el ps i.i∈ps:=Qw O;refine wC 7 I<|QA (Q3 (n:=n) i.i (λF h9=>h9.2.1) rfl rfl Zg Xh O)<|QA (JZ (n:=n) (vs:=[tx (el ps i.i).f,.slice (el ps i.i).r.q (el ps i.i).r.n (el ps i.i).r.cap]) ((i.i)*2) (λF h9=>h9.2.1) O rfl Xh I λj v D=>JN (f:=VM) (l:=ps) YR O D)<|Qc KV λY=>wX I<|QW (vs:=[_,_]) I I I Xh I .here .h2 wm<|wY<|QG<|JG we mixed tE<|QK (wN I Xh .here)<|QK (QD I)<|QR I (λ_ _ g h=>pc g (h.1) (f:=(el ps i.i).f) (l:=(el ps i.i).k) (h.2.2 _ x) ((P _ x).1) ((P _ x).2) O) λ_=>QK (QH I GM JF)<|QK (Qe I JF .here .h1)<|QK (VE I I)<|QR I (λ_ _ f k=>Pm f ) λ_=>?_
  refine Qo I (Q5 ZM) YS Ht I I (λV=>?_) (λw h=>h.imp tP λF h=>h.1.1);refine QR I (λ_ _ g h=>CM g (Qy.of (cs:=fu Jo [Y8 (el ps i.i).f (el ps i.i).k v,if((el ps i.i).f==[48])=true then 6 else 0]) h.2 I) tF) (λ_=>QK (QF I)<|Q7<|wE 3 I<|JG we mixed tE ?_);generalize Q:Qs [Y8 (el ps i.i).f (el ps i.i).k v,if((el ps i.i).f==[48])=true then 6 else 0]=E;have b:=step_eq (v:=v) (show i.i<ps.length by omega) Q;refine QK (QD I)<|QK (QT I I I)<|QK (QD I) ?_
  refine Gg (t:=29) rfl (λa=>?_) λa=>?_
  ·refine XA I I<|QK (QD I)<|XA I I<|QK (QT I I I)<|QK (Qh I I I)<|QK (QD I) ?_
   refine Gg (t:=33) rfl (λc=>?_) λc=>?_
   ·refine XA I I<|QK (QD I)<|XA I I<|QK (QD I)<|XA I I<|QK (X3 I I O)<|XA I I ?_
    have R:0<i.i:=tD<|wi c
    refine QK (Q3 (n:=n) ((i.i-1)) (λF h9=>h9.1.1.1.1.2.1) rfl wS Zg Xh O)<|XA I I<|QK (QH I Yh JM)<|XA I I<|QK (JA (n:=n) (((i.i-1))*2+1) (λF h9=>h9.1.1.1.1.2.1) O rfl JM (JN (f:=VM) (l:=ps) YR O rfl))<|XA I I<|QK (QH I Yh JM)<|XA I I<|QK (Qe I JM .here (.skip .h1))<|XA I I ?_
    have A:=(Pc (i.z (i.i-1) O)).1;rw[F9 (show i.i-1<ps.length by omega)]at A;have N:E=0:=eq_of_beq a;obtain⟨H,_⟩:=Rc (Q.trans N);have B:el ps (i.i-1)∈ps:=Qw O;refine QR I (λ_ _ f k=>RH f (ra:=(el ps (i.i-1)).r) (rb:=(el ps i.i).r) (k.1.1.1.1.2.2 _ B) (k.1.1.1.1.2.2 _ x) (GB A D.2) (GB H D.2)) (λ_=>XA I I<|QK (QT I I I)<|QK (Qh I I I)<|Q7<|QC ?_);refine QQ I (λhc=>?_) λhc=>?_
    ·have m:=wi hc;refine wC 10 I ?_;refine QQ I (λhc=>?_) λhc=>?_
     ·refine wA 7 I ?_
      repeat first|refine Q6 ?_|refine Qv ?_
      exact wg I I (congrArg (aA .i64) (DQ u o i s (by first | (rw[b];exact if_pos ⟨eq_of_beq a,tD<|wi c,m⟩) | (rw[b];exact if_neg λh=>m h.2.2) | (rw[b];exact if_neg λh=>tD<|wj c) | (rw[b];exact if_neg λh=>by rw[h.1]at a;cases a)) (bne_iff_ne.1 hc))) tL
     refine QN<|Qj<|QC<|QB<|QA (Qu I I O)<|wB 2 I ?_
     exact Ql (⟨i.i+1,s,λj C=>by
      rcases bF j i.i with g | g
      ·exact i.z j g
      rw[show j=i.i from by omega];first | exact absurd hc tF | (rw[b,if_neg (λh=>m h.2.2)];exact bne_eq_false_iff_eq.1 hc) | (rw[b,if_neg (λh=>tD<|wj c)];exact bne_eq_false_iff_eq.1 hc) | (rw[b,if_neg (λh=>by rw[h.1]at a;cases a)];exact bne_eq_false_iff_eq.1 hc)⟩) (by show n-(i.i+1)<n-i.i;omega) wy (.cons _ .slnil) λF h=>h.1.1.1.1.1
    have m:=wj hc;refine wC 8 I ?_;refine QQ I (λhc=>?_) λhc=>?_
    ·refine wA 7 I ?_
     repeat first|refine Q6 ?_|refine Qv ?_
     exact wg I I (congrArg (aA .i64) (DQ u o i s (by first | (rw[b];exact if_pos ⟨eq_of_beq a,tD<|wi c,m⟩) | (rw[b];exact if_neg λh=>m h.2.2) | (rw[b];exact if_neg λh=>tD<|wj c) | (rw[b];exact if_neg λh=>by rw[h.1]at a;cases a)) (bne_iff_ne.1 hc))) tL
    refine QN<|Qj<|QC<|QB<|QA (Qu I I O)<|wB 2 I ?_
    exact Ql (⟨i.i+1,s,λj C=>by
     rcases bF j i.i with g | g
     ·exact i.z j g
     rw[show j=i.i from by omega];first | exact absurd hc tF | (rw[b,if_neg (λh=>m h.2.2)];exact bne_eq_false_iff_eq.1 hc) | (rw[b,if_neg (λh=>tD<|wj c)];exact bne_eq_false_iff_eq.1 hc) | (rw[b,if_neg (λh=>by rw[h.1]at a;cases a)];exact bne_eq_false_iff_eq.1 hc)⟩) (by show n-(i.i+1)<n-i.i;omega) wy (.cons _ .slnil) λF h=>h.1.1.1.1.1
   refine Jj I I I<|Jj I I I<|Jj I I I<|Jj I I I<|Jj I I I<|Jj I I I<|Jj I I I<|Jj I I I<|Jj I I I<|Jj I I I<|QK (Qd I I I)<|Q7<|QC<|Yj I<|wC 8 I ?_
   refine QQ I (λhc=>?_) λhc=>?_
   ·refine wA 7 I ?_
    repeat first|refine Q6 ?_|refine Qv ?_
    exact wg I I (congrArg (aA .i64) (DQ u o i s (by first | (rw[b];exact if_pos ⟨eq_of_beq a,tD<|wi c,m⟩) | (rw[b];exact if_neg λh=>m h.2.2) | (rw[b];exact if_neg λh=>tD<|wj c) | (rw[b];exact if_neg λh=>by rw[h.1]at a;cases a)) (bne_iff_ne.1 hc))) tL
   refine QN<|Qj<|QC<|QB<|QA (Qu I I O)<|wB 2 I ?_
   exact Ql (⟨i.i+1,s,λj C=>by
     rcases bF j i.i with g | g
     ·exact i.z j g
     rw[show j=i.i from by omega];first | exact absurd hc tF | (rw[b,if_neg (λh=>m h.2.2)];exact bne_eq_false_iff_eq.1 hc) | (rw[b,if_neg (λh=>tD<|wj c)];exact bne_eq_false_iff_eq.1 hc) | (rw[b,if_neg (λh=>by rw[h.1]at a;cases a)];exact bne_eq_false_iff_eq.1 hc)⟩) (by show n-(i.i+1)<n-i.i;omega) wy (.cons _ .slnil) λF h=>h.1.1.1.1
  refine Jj I I I<|Jj I I I<|QK (Qd I I I)<|QK (QD I)<|Jj I I I<|Jj I I I<|Jj I I I<|Jj I I I<|Jj I I I<|Jj I I I<|Jj I I I<|Jj I I I<|Jj I I I<|Jj I I I<|QK (Qd I I I)<|Q7<|QC<|Yj I<|wC 7 I ?_
  refine QC ?_;refine QQ I (λhc=>?_) λhc=>?_
  ·refine wA 7 I ?_
   repeat first|refine Q6 ?_|refine Qv ?_
   exact wg I I (congrArg (aA .i64) (DQ u o i s (by first | (rw[b];exact if_pos ⟨eq_of_beq a,tD<|wi c,m⟩) | (rw[b];exact if_neg λh=>m h.2.2) | (rw[b];exact if_neg λh=>tD<|wj c) | (rw[b];exact if_neg λh=>by rw[h.1]at a;cases a)) (bne_iff_ne.1 hc))) tL
  refine QN<|Qj<|QC<|QB<|QA (Qu I I O)<|wB 2 I ?_
  exact Ql (⟨i.i+1,s,λj C=>by
     rcases bF j i.i with g | g
     ·exact i.z j g
     rw[show j=i.i from by omega];first | exact absurd hc tF | (rw[b,if_neg (λh=>m h.2.2)];exact bne_eq_false_iff_eq.1 hc) | (rw[b,if_neg (λh=>tD<|wj c)];exact bne_eq_false_iff_eq.1 hc) | (rw[b,if_neg (λh=>by rw[h.1]at a;cases a)];exact bne_eq_false_iff_eq.1 hc)⟩) (by show n-(i.i+1)<n-i.i;omega) wy (.cons _ .slnil) λF h=>h.1.1.1.1
 have L:n<=i.i:=tD<|wj hc
 refine Qx ?_
 repeat first|refine QY ?_|refine QO tH ?_
 refine QZ<|wE 7 I ?_
 exact wg I I (congrArg (aA .i64) (OZ u o i L)) tL
def Hc(p:Pt)(v:Int):Int:=if BL v=0 then Zh p v else BL v
theorem G6{q:Option Addr}{v:Int}(o:Fits F w)(g:JE F)(l:Qy F q n 2 (ps.flatMap VM))(m:Yy F ps)(c:ps.length=n)(j:∀t∈ps,t.f.length<=1000000/\t.k.length<=1000000)(i:ps.length<=1000000):Qf prog 143 [.slice q n cap,.int .i64 v] w F (.int .i64 (Hc (ZX ps) v)):=by
 refine QU.intro (G:=λF=>JE F/\Qy F q n 2 (ps.flatMap VM)/\Yy F ps) func143 rfl tH rfl rfl o (λF' b=>⟨g.le b,l.le b,m.le b⟩)<|wa<|wZ rfl<|QG<|wb rfl<|QI rfl (λ_ _ f k=>qY f ) λ_=>wZ rfl<|wb rfl<|QA (QT rfl rfl rfl)<|QE<|QC ?_
 refine QQ I (λhc=>?_) λhc=>?_
 ·have a:=bne_iff_ne.1 hc;refine wA 7 I ?_;exact wg I I (congrArg (aA .i64) (by unfold Hc;rw[if_neg a])) tL
 have a:=bne_eq_false_iff_eq.1 hc;have h:=(Bs v).1 a;refine wC 6 I<|QI I (λ_ _ f k=>yb f (k.1.1) (k.1.2.1) (k.1.2.2) (c) (j) (i) (h)) λ_=>wD 4 I ?_
 exact wg I I (congrArg (aA .i64) (by unfold Hc;rw[if_pos a])) tL
instance :Inhabited NQ:=⟨(⟨none,0,0⟩,[])⟩
section
variable[Dr][df:Df]{P:Program}{N:Nat}{m:Sl}{S:World->Prop}{ty:TypeId}
theorem VD{cap:Array Operand}{vs:List Value}(b:E3 m cap.toList=some vs):Qt P N m S (.makeFunc (.func g) #[] cap) ty (.func (.func g) #[] vs.toArray):=λa w _ _ _ _ ha _=>by
 have:=ha.E3 b;have e:cap.map a.eval=vs.toArray:=by rw[<-this];apply fG;simp
 simp[execOp,Instr.makeFunc,e]
end
def IT(F:Gs)(ls:List NQ):Prop:=∀e∈ls,Qy F e.1.q e.1.n 2 (e.2.flatMap VM)/\Yy F e.2
def IT.le{ls:List NQ}(h:IT F ls)(k:Gs.le F F'):IT F' ls:=λe he=>⟨(h e he).1.le k,(h e he).2.le k⟩
def Up(e:NQ):Prop:=e.2.length=e.1.n/\(∀t∈e.2,t.f.length<=1000000/\t.k.length<=1000000)/\e.2.length<=1000000
def Xq(p:Pt):List Tm:=p.map λx=>(Qz x.1,x.2)
def Mo(ts:List V0):ts.map R6=Xq (ZX ts):=by simp[Xq,ZX,R6]
theorem QAx{l:List Tm}(h:∀t∈l,JW t.1<=k):Yr l<=l.length*(k+1):=by
 induction l with
 |nil=>simp[Yr]
 |cons x l ih =>
  have e:Yr (x::l)=JW x.1+1+Yr l:=by unfold Yr;rw[af,bQ]
  have h1:=ih λt ht=>h t (by simp[ht]);have h2:=h x tJ;rw[e,ar,fC];omega
def SS{a b:List Int}(h:Gj a b<0):before a b=true:=by rw[Bt];exact decide_eq_true h
theorem GU[Inhabited α]{R:α->α->Prop}(ht:∀a b c,R a b->R b c->R a c):∀(l:List α),(∀i,0<i->i<l.length->R (el l (i-1)) (el l i))->l.Pairwise R
 |[],_=>bX
 |x::l,h=>by
  have ih:=GU ht l λi h0 hi=>by
   have:=h (i+1) O tK;have g:el (x::l) (i+1)=el l i:=rfl;have f:el (x::l) (i+1-1)=el l (i-1):=by
    obtain⟨j,rfl⟩:∃j,i=j+1:=⟨i-1,O⟩;rfl
   rw[g,f]at this;exact this
  refine List.pairwise_cons.2 ⟨?_,ih⟩;cases l with
  |nil=>intro y hy;cases hy
  |cons z l =>
   have hz:R x z:=h 1 O tJ;intro y hy;rcases List.mem_cons.1 hy with rfl | hy
   ·exact hz
   exact ht _ _ _ hz ((List.pairwise_cons.1 ih).1 y hy)
structure Dk(p:Pt)(v:Int):Prop where
 len:p.length<=64
 term:∀x∈p,Y8 x.1 x.2 v=0
 can:Canon (Xq p)
theorem H4{p:Pt}{v:Int}(h:Zh p v=0):Dk p v:=by
 unfold Zh at h;split at h
 ·omega
 rename_i hl;have hl':p.length<=64:=by rw[decide_eq_true_eq]at hl;omega
 have hz:∀i,i<p.length->GH p v i=0:=by
  have key:∀(l:List Int),Qs l=0->∀x∈l,x=0:=by
   intro l
   induction l with
   |nil=>intro _ x hx;cases hx
   |cons a l ih =>
    intro h x hx;unfold Qs at h;by_cases g:a=0
    ·rw[if_pos g]at h;rcases List.mem_cons.1 hx with rfl | hx
     ·exact g
     exact ih h x hx
    rw[if_neg g]at h;exact absurd h g
  intro i hi;exact key _ h _ (List.mem_map.2 ⟨i,by simpa using hi,rfl⟩)
 have hs:=λi hi=>Pc (hz i hi);have hel:∀x∈p,∃i,i<p.length/\el p i=x:=λx hx=>by
  obtain⟨i,hi,e⟩:=fF hx;exact⟨i,hi,by rw[Jb hi];exact e⟩
 refine⟨hl',λx hx=>?_,⟨?_,λt ht=>?_⟩⟩
 ·obtain⟨i,hi,rfl⟩:=hel x hx;exact(hs i hi).1
 ·unfold Xq;rw[eG];refine GU (R:=λa b:List UInt8×List Int=>before a.2 b.2=true) (λa b c h k=>before_trans h k) p λi h0 hi=>?_;exact SS ((hs i hi).2.2 h0)
 unfold Xq at ht;obtain⟨x,hx,rfl⟩:=List.mem_map.1 ht;obtain⟨i,hi,rfl⟩:=hel x hx;have h1:=(Wv (hs i hi).1).2.2.2;have h2:=(hs i hi).2.1;intro e;have h3:=(XM h1).1;have e':Qz (el p i).1=0:=e;rw[e']at h3;exact h2 (h3.trans Sv)
theorem Dk.sz{p:Pt}{v:Int}(h:Dk p v):∀t∈Xq p,JW t.1<=2400:=λt ht=>by
 unfold Xq at ht;obtain⟨x,hx,rfl⟩:=List.mem_map.1 ht;exact KO (Wv (h.term x hx)).2.2.2
def Dk.Yr{p:Pt}{v:Int}(h:Dk p v):YtjcphjpkimmmjaaGreatDoor.Yr (Xq p)<=160000:=by
 have h1:=QAx h.sz;have h2:(Xq p).length<=64:=by unfold Xq;rw[bw];exact h.len
 have:=fB 2401 h2;omega
theorem Ns{a:NQ}{v:Int}(o:Fits F w)(i:JE F)(l:Qy F a.1.q a.1.n 2 (a.2.flatMap VM))(m:Yy F a.2)(ht:Up a)(g:Dk (ZX a.2) v)(j:0<=v/\v<=24):
  QU prog 146 [a.1.v] w F (λ(c:WS)=>c.1.v) (λc F=>XU F c.1 c.2 (Xq (ZX a.2))):=by
 have s:=g.Yr;have h:=gp o i (r:=a.1) (ps:=a.2) l m ht.1 (by have:=g.len;simp[ZX]at this;omega) (λt b=>?_) (by rw[Mo];omega)
 ·rw[Mo,RN g.can]at h;exact h
 have h1:=g.term (t.f,t.k) (List.mem_map.2 ⟨t,b,rfl⟩);exact⟨(Wv h1).2.2.2,(ht.2.1 t b).1,GB h1 j.2⟩
def XU.len{s:Sr}{ts:List ZY}{p:List Tm}(h:XU F s ts p):ts.length=p.length:=by rw[<-h.2.2.1];simp[J4]
def OS{ts:List ZY}{p:List Tm}{Q:Tm->Prop}(h:J4 ts=p)(hq:∀t∈p,Q t):∀t∈ts,Q t.t:=λt ht=>hq _ (h ▸ aa ht)
def TU(v:Nat)(t:Tm):List Tm:=if 0<Qm t.2 v then[(t.1*((Qm t.2 v:Int):Rat),t.2.set v (Qm t.2 v-1))]else[]
def ZT(v:Nat)(l:List Tm):List Tm:=l.flatMap (TU v)
structure QH8(v:Nat)(ps:List ZY) where
 i:Nat
 ts:List ZY
 le:i<=ps.length
 hI:WK ts (ZT v (J4 (ps.take i)))
def TV{v:Nat}{ps:List ZY}(h:i<ps.length):ZT v (J4 (ps.take (i+1)))=ZT v (J4 (ps.take i))++TU v (el ps i).t:=by
 rw[VN h];unfold ZT;rw[aW];simp
def pv(v:Nat)(ps:List ZY)(i:Nat):Yr (ZT v (J4 (ps.take i)))<=Yr (ZT v (J4 ps)):=by
 have e:J4 ps=J4 (ps.take i)++J4 (ps.drop i):=by unfold J4;rw[<-aL,aR]
 have h:Yr (ZT v (J4 ps))=Yr (ZT v (J4 (ps.take i)++J4 (ps.drop i))):=by rw[<-e]
 unfold ZT at h ⊢;rw[aW,Zi]at h;omega
theorem PW.set(h:PW l){v:Nat}(hk:0<Qm l v):PW (l.set v (Qm l v-1)):=by
 refine⟨λx hx=>?_,by rw[aZ];exact h.2⟩;rcases List.mem_or_eq_of_mem_set hx with hx | rfl
 ·exact h.1 x hx
 by_cases a:v<l.length
 ·have:=h.el a;omega
 have:Qm l v=0:=by simp[Qm,List.getD];intro h;exact absurd h a
 omega
theorem IY{x:Int}(h:0<=x/\x<=1000000):sz x<=64:=aT (KX (b:=1000000) O) tF
def yr(v:Nat)(l:List Tm):(ZT v l).length<=l.length:=by
 unfold ZT
 induction l with
 |nil=>simp
 |cons t l ih =>
  rw[bC,aj,ar];have:(TU v t).length<=1:=by unfold TU;split<;>simp
  omega
theorem Lf{p:WS}{v:Nat}(V:Fits F w)(H:JE F)(E:XU F p.1 p.2 (J4 p.2))(hp:∀t∈p.2,PW t.t.2/\v<t.t.2.length)(hl:p.2.length<=100000)(N:∀t∈p.2,JW t.t.1<=20000000)(hz:Yr (ZT v (J4 p.2))<=40000000):
  QU prog 132 [p.1.v,.int .i64 (v:Nat)] w F (λ(c:WS)=>c.1.v) (λc F=>XU F c.1 c.2 (XO (ZT v (J4 p.2)))):=by
 have hpn:=E.2.2.2.2;dsimp only[Sr.v];refine QU.intro (G:=λF=>JE F/\XU F p.1 p.2 (J4 p.2)) func132 rfl tH rfl rfl V (λF' K=>⟨H.le K,E.le K⟩)<|wa<|wZ rfl<|QG<|QB ?_
 refine HM tx (λm=>?_);refine wD 7 I<|QA (Qg I Yt)<|wD 4 I ?_
 refine JU (ι:=QH8 v p.2) [(1,_),(5,_),(11,_),(12,_)] (λi=>[(13,.int .i64 ((i.i:Nat):Int))]) (λi=>[(m,Zy tx (He i.ts))]) (λi F=>GG F i.ts) (λi=>p.2.length-i.i) (⟨0,[],au _,WK.nil⟩) wv wk we (λ_ _ _ h=>by cases h) (λi=>?_);simp only[ab,ag];have hi:=i.le;refine wA 6 I ?_;refine QQ I (λhc=>?_) λhc=>?_
 ·have u:i.i<p.2.length:=tD<|wi hc
  have a:=Qw u;have g:=hp _ a;have B:=(E.2.1 _ a).2.2.1;have hdl:=pv v p.2 i.i;have hzz:=N _ a;have D:=g.1.el g.2;have hl2:=g.1.2;refine wC 6 I<|QA (Q3 (n:=p.1.n) i.i (λF h9=>(h9.1.2).1) rfl rfl Yt Xw O)<|QA (JZ (n:=p.1.n) (vs:=[.int .i64 (el p.2 i.i).x.n.s,.slice (el p.2 i.i).x.n.q (el p.2 i.i).x.n.n (el p.2 i.i).x.n.cap,.int .i64 (el p.2 i.i).x.d.s,.slice (el p.2 i.i).x.d.q (el p.2 i.i).x.d.n (el p.2 i.i).x.d.cap,.slice (el p.2 i.i).r.q (el p.2 i.i).r.n (el p.2 i.i).r.cap]) ((i.i)*5) (λF h9=>(h9.1.2).1) O rfl Xw I λj v P=>JN (f:=WQ) (l:=p.2) Bf O P) ?_
  refine Qc GN (λb7=>?_);refine QW (vs:=[_,_,_,_,_]) I I I Xw I .here .h5 wy<|wY<|wa<|QA (QH I V7 JM)<|QA (Qe I JM .here (.skip (.skip (.skip (.skip .h1)))))<|wW I<|QA (Q3 (n:=(el p.2 i.i).r.n) (v) (λF h9=>((h9.1.2.2.1 _ a).2).1) rfl rfl Q2 JK O)<|QA (JA (n:=(el p.2 i.i).r.n) ((v)*1) (λF h9=>((h9.1.2.2.1 _ a).2).1) O rfl JK (Jz (o:=(el p.2 i.i).t.2) O))<|wD 9 I ?_
  refine QQ I (λhc=>?_) λhc=>?_
  ·have y:=wi hc;refine wa<|QA (QH I V7 JM)<|QA (Qe I JM .here (.skip (.skip (.skip (.skip .h1))))) ?_
   refine XX I (aK _) (Uk (r:=(el p.2 i.i).r) (l:=(el p.2 i.i).t.2) (λF h9=>(h9.1.2.2.1 _ a).2) B O) (λZ=>?_);refine JQ _ (λ_ _ f h=>h.2) (λL=>?_);obtain⟨v26,ob26⟩:=Z;dsimp only at L ⊢;obtain⟨bb,cap,rest,rfl,rfl,e1,e2,e3,e4⟩:=Q8.pos L O;refine wD 7 I<|QA (JL (i:=v) rfl rfl Q2 JK O)<|QA (V1 (c:=((el p.2 i.i).t.2).map Jo++rest) (T':=3) rfl JK .u2 (WR (by first | omega | (simp only[aZ];omega))))<|QA (X3 I I O)<|QA (JL (i:=v) rfl rfl Q2 JK O)<|QW (vs:=[_]) I I I JK I .u2 (BB (by first | omega | (simp only[aZ];omega)) ((Qm ((el p.2 i.i).t.2) (v)-1))) wk<|QE<|QC ?_
   obtain⟨r,P,z,Q,C⟩:=Q8.fix (w0:=w) (F0:=F) (bs1:=[(b7,.cells (WQ (el p.2 i.i)).toArray 263 (0,0)),(m,Zy tx (He i.ts))]) (G:=_) (Q8.some (T:=3) (sz:=1) (b:=bb) (n:=(el p.2 i.i).r.n) (cap:=cap) (l:=((el p.2 i.i).t.2.set v (Qm (el p.2 i.i).t.2 v-1)).map Jo) (rest:=rest) (by simpa using e1) (by simpa using e2) e3 e4);refine jH C ?_;rw[P];refine JG (.cons_cons _ (.cons _ .slnil)) mixed tE<|QK (QD I)<|QK (QH I Wy QS)<|QK (wP I QS .here)<|QK (QD I) ?_
   refine QR I (λ_ _ f k=>TN f O O) (λx37=>?_);refine QR I (λw F V ⟨⟨⟨⟨⟨H,E⟩,hT⟩,_⟩,hrow⟩,⟨h37,h37_⟩⟩=>GD V ((E.2.1 _ a).1) ⟨by assumption,by assumption⟩ O (by have h2:=GK (Qm (el p.2 i.i).t.2 v);have h3:sz (Qm (el p.2 i.i).t.2 v)<=64:=IY D;omega)) (λM=>?_);refine QK (QD I) ?_;refine IP I (eM _ _ _) (D5 (r:=r) (x:=M) i.hI (g.1.set y) (by have h1:=YN (el p.2 i.i).t.1 ((Qm (el p.2 i.i).t.2 v:Int):Rat);have h2:=GK (Qm (el p.2 i.i).t.2 v);have h3:sz (Qm (el p.2 i.i).t.2 v)<=64:=IY D;omega) O λF h9=>⟨h9.1.1.1.1.1.1,h9.1.1.1.1.2,⟨h9.2.1,h9.2.2⟩,by rw[z];exact h9.1.1.2,by rw[z,aZ];exact B,by rw[z];exact Q⟩) (λn w h=>St.imp h (.cons _ we) λF h=>h.1.1.1) (λA=>?_);refine Yl _ (λ_ _ f h=>h.2.2) (λX=>?_);have S:WK (addN i.ts A) (ZT v (J4 (p.2.take (i.i+1)))):=by
    rw[TV u,show TU v (el p.2 i.i).t=[((el p.2 i.i).t.1*((Qm (el p.2 i.i).t.2 v:Int):Rat),(el p.2 i.i).t.2.set v (Qm (el p.2 i.i).t.2 v-1))]from if_pos y];exact i.hI.add (g.1.set y) X
   refine Q7<|Qj<|QC<|QB<|QA (Qu I I O)<|wB 2 I ?_
   exact Ql (⟨i.i+1,addN i.ts A,u,S⟩) (by show p.2.length-(i.i+1)<p.2.length-i.i;omega) wy (.cons_cons _ (.cons _ .slnil)) λF h=>⟨h.1.1.1.1.1.1,h.2.1⟩
  have y:=wj hc;refine QN<|Qj<|QC<|QB<|QA (Qu I I O)<|wB 2 I ?_
  exact Ql (⟨i.i+1,i.ts,u,by rw[TV u,show TU v (el p.2 i.i).t=[]from if_neg y,eU];exact i.hI⟩) (by show p.2.length-(i.i+1)<p.2.length-i.i;omega) wy (.cons _ we) λF h=>⟨h.1,h.2⟩
 have R:i.i=p.2.length:=tD<|wj hc
 refine Qx ?_
 repeat first|refine QY ?_|refine QO tH ?_
 refine QZ<|wE 4 I ?_
 have U:=i.hI;rw[R,aC]at U;refine XX I (aK _) (BY U (by have h1:=U.ln;have h2:=yr v (J4 p.2);rw[Yb]at h2;omega) tO) (λY=>?_);refine wD 4 I ?_;exact QP (Y) rfl (wT I) (rfl) tO
def Nt{a z v r:List Value}(h:z.length=v.length):VG (a++(z++r)) a.length v (a++(v++r)):=by
 have:=VG.mk' a.length (a++(z++r)) v (by simp only[aj];omega);rw[List.take_left,fQ,ax O,ag,Nat.add_sub_cancel_left,fQ,ax O,ag,<-h,iw,List.drop_zero,bP]at this;exact this
def Rz(F:Gs)(a:List (Fr×Rat)):Prop:=∀p∈a,JR F p.1 p.2
def Rz.le{a:List (Fr×Rat)}(h:Rz F a)(k:Gs.le F F'):Rz F' a:=λp hp=>(h p hp).le k
def Fj(a:List (Fr×Rat)):List Value:=a.flatMap λp=>Kj p.1
instance :Inhabited Fr:=⟨⟨⟨0,none,0,0⟩,⟨1,none,0,0⟩⟩⟩
instance :Inhabited (Fr×Rat):=⟨(default,0)⟩
theorem SZ{B:Nat}:∀(l:List Rat) (s:Rat×Rat),JW s.1<=B->JW s.2<=B->(∀x∈l,JW x<=B)->JW (l.foldl ZC s).1<=B/\JW (l.foldl ZC s).2<=B
 |[],s,h1,h2,_=>⟨h1,h2⟩
 |x::l,s,h1,h2,h=>by
  have hx:=h x tJ;exact SZ l (ZC s x) (by unfold ZC;dsimp only;split<;>assumption) (by unfold ZC;dsimp only;split<;>assumption) λy hy=>h y (by simp[hy])
def yS(x y:Fr):∀v∈Kj x++Kj y,v.oneCell'=true:=by
 intro v a;simp only[Kj,ab,ag,ay,aI,or_false]at a;rcases a with rfl | rfl | rfl | rfl | rfl | rfl | rfl | rfl<;>rfl
def VT(c:Rat×Rat)(bs:List (Rat×Rat))(ks:List Int)(i:Nat):Rat×Rat:=(ai i).foldl (λa j=>if Qm ks j>0 then Jg a (Y5 (el bs j) (Qm ks j))else a) c
def Wp(c:Rat×Rat)(bs:List (Rat×Rat))(ks:List Int)(i:Nat):VT c bs ks (i+1)=if Qm ks i>0 then Jg (VT c bs ks i) (Y5 (el bs i) (Qm ks i))else VT c bs ks i:=by
 unfold VT;rw[List.range_succ,fL];rfl
def Vz(a b:Rat×Rat):Rat×Rat:=(a.1+b.1,a.2+b.2)
def J3(bs:List (Rat×Rat))(l:List Tm):Rat×Rat:=l.foldl (λa t=>Vz a (VT (t.1,t.1) bs t.2 t.2.length)) (0,0)
def Xf(a:Rat×Rat)(k:Nat):Prop:=JW a.1<=k/\JW a.2<=k
def Xf.mono{l:Nat}(h:Xf a k)(g:k<=l):Xf a l:=⟨aT h.1 g,aT h.2 g⟩
def Dt{r:Rat}{l:List Rat}(h:JW r<=k)(a:∀x∈l,JW x<=k):Xf (Yi r l) k:=SZ l (r,r) h h a
theorem K7(ha:Xf a m)(hb:Xf b n):Xf (Jg a b) (m+n):=by
 have h:∀x y:Rat,JW x<=m->JW y<=n->JW (x*y)<=m+n:=λx y h1 h2=>tD<|YN x y
 unfold Jg;refine Dt (h _ _ ha.1 hb.1) λx hx=>?_;simp only[ay,aI,or_false]at hx;rcases hx with rfl | rfl | rfl
 ·exact h _ _ ha.1 hb.2
 ·exact h _ _ ha.2 hb.1
 exact h _ _ ha.2 hb.2
def JB(s:List UInt8×List UInt8):Rat×Rat:=(Qz s.1,Qz s.2)
def Xs(x:Sp):List Value:=Kj x.lo++Kj x.hi
def UK(m x:Rat):Rat:=if Yw x m<0 then x else m
def E2(m x:Rat):Rat:=if Yw x m>0 then x else m
theorem ZO(r:Rat)(l:List Rat):Yi r l=(l.foldl UK r,l.foldl E2 r):=by
 have:∀(l:List Rat) (a b:Rat),l.foldl ZC (a,b)=(l.foldl UK a,l.foldl E2 b):=by
  intro l
  induction l with
  |nil=>intro a b;rfl
  |cons x l ih=>intro a b;rw[bK,bK,bK];exact ih _ _
 exact this l r r
theorem MS(b:∀m x,f m x=m\/f m x=x){P:Rat->Prop}:∀(l:List Rat) (r:Rat),P r->(∀x∈l,P x)->P (l.foldl f r)
 |[],_,h,_=>h
 |x::l,r,h,a=>MS b l (f r x) (by rcases b r x with e | e<;>rw[e];exact h;exact a x tJ) λy hy=>a y (by simp[hy])
def QBk(m x:Rat):UK m x=m\/UK m x=x:=by unfold UK;split<;>simp
def QCB(m x:Rat):E2 m x=m\/E2 m x=x:=by unfold E2;split<;>simp
structure LgI(f:Rat->Rat->Rat)(r:Rat)(l:List Rat) where
 i:Nat
 x:Fr
 s:Rat
 le:i<=l.length
 h:s=(l.take i).foldl f r
def LgI.step{r:Rat}{l:List Rat}(s:LgI f r l)(h:s.i<l.length):f s.s (el l s.i)=(l.take (s.i+1)).foldl f r:=by
 rw[XE h,fL,<-s.h];rfl
def LgI.end_{r:Rat}{l:List Rat}(s:LgI f r l)(h:s.i=l.length):s.s=l.foldl f r:=by
 rw[s.h,h,aC]
theorem V5{x:Fr}{r:Rat}{q:Option Addr}{ps:List (Fr×Rat)}(M:Fits F w)(h:JR F x r)(z:Qy F q n 4 (ps.flatMap λe=>Kj e.1))(o:∀p∈ps,JR F p.1 p.2)(K:ps.length=n)(hb:n<=1000000)(hz:JW r<=100000000/\∀p∈ps,JW p.2<=100000000):
  X1 prog 245 [x.v,.slice q n c] w F ((ps.map (·.2)).foldl UK r):=by
 have L:(ps.map (·.2)).length=n:=by simpa using K
 dsimp only[Fr.v];refine QU.intro (G:=λF=>JR F x r/\Qy F q n 4 (ps.flatMap λe=>Kj e.1)/\(∀p∈ps,JR F p.1 p.2)) func245 rfl tH rfl rfl M (λF' m=>⟨h.le m,z.le m,λp hp=>(o p hp).le m⟩)<|wa<|Qp rfl (vs:=[_,_,_,_]) rfl λb2=>Qc Jw λb4=>wY<|QG<|wb rfl<|QA (Qg rfl Xb)<|wW rfl<|wY<|QV<|JU (ι:=LgI UK r (ps.map (·.2))) [(2,_),(4,_),(7,_),(8,_)] (λi=>[(9,.int .i64 ((i.i:Nat):Int))]) (λi=>[(b4,.cells [.int .i64 0,.slice none 0 0,.int .i64 0,.slice none 0 0].toArray 135 (0,0)),(b2,.cells [.int .i64 i.x.n.s,.slice i.x.n.q i.x.n.n i.x.n.cap,.int .i64 i.x.d.s,.slice i.x.d.q i.x.d.n i.x.d.cap].toArray 135 (0,0))]) (λi F=>JR F i.x i.s) (λi=>n-i.i) (⟨0,x,r,au _,rfl⟩) wv wk we tN λi=>?_
 simp only[ab,ag];have hi:=i.le;have B:JW i.s<=100000000:=by rw[i.h];exact MS (P:=λy=>JW y<=100000000) QBk _ _ hz.1 λy hy=>by obtain⟨p,hp,rfl⟩:=List.mem_map.1 (ei hy);exact hz.2 p hp
 refine wA 6 I ?_;refine QQ I (λhc=>?_) λhc=>?_
 ·have b:i.i<ps.length:=tD<|wi hc
  have g:=Qw b;have A:=hz.2 _ g;have u:el (ps.map (·.2)) i.i=(el ps i.i).2:=by rw[Jb (by simpa using b),Jb b];simp
  refine wC 6 I<|QA (Q3 (n:=n) i.i (λF h9=>h9.1.2.1) rfl rfl Xb QS O)<|QA (JZ (n:=n) (vs:=[.int .i64 (el ps i.i).1.n.s,.slice (el ps i.i).1.n.q (el ps i.i).1.n.n (el ps i.i).1.n.cap,.int .i64 (el ps i.i).1.d.s,.slice (el ps i.i).1.d.q (el ps i.i).1.d.n (el ps i.i).1.d.cap]) ((i.i)*4) (λF h9=>h9.1.2.1) O rfl QS I λj v H=>JN (f:=(λe=>Kj e.1)) (l:=ps) (λ_=>rfl) O H)<|Qc Jw λN=>QW (vs:=[_,_,_,_]) I I I QS I .here .h4 wv<|wY<|wa<|QA (wP I QS .here)<|QA (wP I QS .u2)<|QI I (λ_ _ f k=>G3 (x:=(el ps i.i).1) (y:=i.x) (r:=(el ps i.i).2) (s:=i.s) f (k.1.2.2 _ g) k.2 A B) λ_=>wD 3 I ?_
  refine QQ I (λhc=>?_) λhc=>?_
  ·have a:=wi hc;refine QB<|QA (wP I QS .here)<|QW (vs:=[_,_,_,_]) I I I QS I .u2 .h4 wv<|QE<|Qj<|QC<|QB<|QA (Qu I I O)<|wB 2 I ?_
   exact Ql (⟨i.i+1,(el ps i.i).1,(el ps i.i).2,O,by rw[<-i.step O,u];unfold UK;rw[if_pos a]⟩) (by show n-(i.i+1)<n-i.i;omega) wy (.cons _ we) λF ⟨⟨⟨D,z,o⟩,E⟩,_⟩=>⟨⟨D,z,o⟩,o _ g⟩
  have a:=wj hc;refine QN<|Qj<|QC<|QB<|QA (Qu I I O)<|wB 2 I ?_
  exact Ql (⟨i.i+1,i.x,i.s,O,by rw[<-i.step O,u];unfold UK;rw[if_neg a]⟩) (by show n-(i.i+1)<n-i.i;omega) wy (.cons _ we) λF ⟨⟨⟨D,z,o⟩,E⟩,_⟩=>⟨⟨D,z,o⟩,E⟩
 have C:i.i=(ps.map (·.2)).length:=tD<|wj hc
 refine Qx ?_
 repeat first|refine QY ?_|refine QO tH ?_
 refine QZ<|QC<|wa<|QA (wP I QS .u1)<|QW (vs:=[_,_,_,_]) I I I QS I .here .h4 wv<|wY<|QX ?_
 exact QP (i.x) rfl (.JX (c:=[_,_,_,_]) I QS .here .nil) (rfl) λF h=>by rw[<-i.end_ C];exact h.2
theorem Xo{x:Fr}{r:Rat}{q:Option Addr}{ps:List (Fr×Rat)}(M:Fits F w)(h:JR F x r)(z:Qy F q n 4 (ps.flatMap λe=>Kj e.1))(o:∀p∈ps,JR F p.1 p.2)(K:ps.length=n)(hb:n<=1000000)(hz:JW r<=100000000/\∀p∈ps,JW p.2<=100000000):
  X1 prog 133 [x.v,.slice q n c] w F ((ps.map (·.2)).foldl E2 r):=by
 have L:(ps.map (·.2)).length=n:=by simpa using K
 dsimp only[Fr.v];refine QU.intro (G:=λF=>JR F x r/\Qy F q n 4 (ps.flatMap λe=>Kj e.1)/\(∀p∈ps,JR F p.1 p.2)) func133 rfl tH rfl rfl M (λF' m=>⟨h.le m,z.le m,λp hp=>(o p hp).le m⟩)<|wa<|Qp rfl (vs:=[_,_,_,_]) rfl λb2=>Qc Jw λb4=>wY<|QG<|wb rfl<|QA (Qg rfl Xb)<|wW rfl<|wY<|QV<|JU (ι:=LgI E2 r (ps.map (·.2))) [(2,_),(4,_),(7,_),(8,_)] (λi=>[(9,.int .i64 ((i.i:Nat):Int))]) (λi=>[(b4,.cells [.int .i64 0,.slice none 0 0,.int .i64 0,.slice none 0 0].toArray 135 (0,0)),(b2,.cells [.int .i64 i.x.n.s,.slice i.x.n.q i.x.n.n i.x.n.cap,.int .i64 i.x.d.s,.slice i.x.d.q i.x.d.n i.x.d.cap].toArray 135 (0,0))]) (λi F=>JR F i.x i.s) (λi=>n-i.i) (⟨0,x,r,au _,rfl⟩) wv wk we tN λi=>?_
 simp only[ab,ag];have hi:=i.le;have B:JW i.s<=100000000:=by rw[i.h];exact MS (P:=λy=>JW y<=100000000) QCB _ _ hz.1 λy hy=>by obtain⟨p,hp,rfl⟩:=List.mem_map.1 (ei hy);exact hz.2 p hp
 refine wA 6 I ?_;refine QQ I (λhc=>?_) λhc=>?_
 ·have b:i.i<ps.length:=tD<|wi hc
  have g:=Qw b;have A:=hz.2 _ g;have u:el (ps.map (·.2)) i.i=(el ps i.i).2:=by rw[Jb (by simpa using b),Jb b];simp
  refine wC 6 I<|QA (Q3 (n:=n) i.i (λF h9=>h9.1.2.1) rfl rfl Xb QS O)<|QA (JZ (n:=n) (vs:=[.int .i64 (el ps i.i).1.n.s,.slice (el ps i.i).1.n.q (el ps i.i).1.n.n (el ps i.i).1.n.cap,.int .i64 (el ps i.i).1.d.s,.slice (el ps i.i).1.d.q (el ps i.i).1.d.n (el ps i.i).1.d.cap]) ((i.i)*4) (λF h9=>h9.1.2.1) O rfl QS I λj v H=>JN (f:=(λe=>Kj e.1)) (l:=ps) (λ_=>rfl) O H)<|Qc Jw λN=>QW (vs:=[_,_,_,_]) I I I QS I .here .h4 wv<|wY<|wa<|QA (wP I QS .here)<|QA (wP I QS .u2)<|QI I (λ_ _ f k=>G3 (x:=(el ps i.i).1) (y:=i.x) (r:=(el ps i.i).2) (s:=i.s) f (k.1.2.2 _ g) k.2 A B) λ_=>wD 3 I ?_
  refine QQ I (λhc=>?_) λhc=>?_
  ·have a:=wi hc;refine QB<|QA (wP I QS .here)<|QW (vs:=[_,_,_,_]) I I I QS I .u2 .h4 wv<|QE<|Qj<|QC<|QB<|QA (Qu I I O)<|wB 2 I ?_
   exact Ql (⟨i.i+1,(el ps i.i).1,(el ps i.i).2,O,by rw[<-i.step O,u];unfold E2;rw[if_pos a]⟩) (by show n-(i.i+1)<n-i.i;omega) wy (.cons _ we) λF ⟨⟨⟨D,z,o⟩,E⟩,_⟩=>⟨⟨D,z,o⟩,o _ g⟩
  have a:=wj hc;refine QN<|Qj<|QC<|QB<|QA (Qu I I O)<|wB 2 I ?_
  exact Ql (⟨i.i+1,i.x,i.s,O,by rw[<-i.step O,u];unfold E2;rw[if_neg a]⟩) (by show n-(i.i+1)<n-i.i;omega) wy (.cons _ we) λF ⟨⟨⟨D,z,o⟩,E⟩,_⟩=>⟨⟨D,z,o⟩,E⟩
 have C:i.i=(ps.map (·.2)).length:=tD<|wj hc
 refine Qx ?_
 repeat first|refine QY ?_|refine QO tH ?_
 refine QZ<|QC<|wa<|QA (wP I QS .u1)<|QW (vs:=[_,_,_,_]) I I I QS I .here .h4 wv<|wY<|QX ?_
 exact QP (i.x) rfl (.JX (c:=[_,_,_,_]) I QS .here .nil) (rfl) λF h=>by rw[<-i.end_ C];exact h.2
structure Me{α:Type}(l:List α)(p:α->Bool) where
 i:Nat
 le:i<=l.length
 z:∀x∈l.take i,p x=false
section
variable{α:Type}[Inhabited α]{l:List α}{p:α->Bool}
def Me.start(l:List α)(p:α->Bool):Me l p:=⟨0,au _,tJ⟩
def Me.next(s:Me l p)(h:s.i<l.length)(e:p (el l s.i)=false):Me l p:=⟨s.i+1,h,λx hx=>by
 rw[XE h]at hx;rcases List.mem_append.1 hx with hx | hx
 ·exact s.z x hx
 rw[List.mem_singleton.1 hx];exact e⟩
theorem Me.stop(s:Me l p)(h:l.length<=s.i):¬l.any p=true:=by
 rw[eO];rintro⟨x,hx,e⟩;have:=s.z x (by rw[bS h];exact hx);rw[this]at e;cases e
end
structure kU(p q:List Tm)(N:Nat):Prop where
 wp:∀t∈p,t.2.length=N
 wq:∀t∈q,t.2.length=N
 lp:p.length<=10000
 lq:q.length<=10000
 pp:∀t∈p,PW t.2
 pq:∀t∈q,PW t.2
 pm:∀s∈p,∀t∈q,PW (Wm s.2 t.2)
 zp:Yr p<=20000000
 zq:Yr q<=20000000
 zm:Yr (Zr p q)<=40000000
theorem xy{p q:WS}(j:Fits F w)(a:JE F)(g:XU F p.1 p.2 (J4 p.2))(f:XU F q.1 q.2 (J4 q.2))(i:N<=1000)(h:kU (J4 p.2) (J4 q.2) N):
  QU prog 297 [p.1.v,q.1.v] w F (λ(c:WS)=>c.1.v) (λc F=>XU F c.1 c.2 (XO (Zr (J4 p.2) (J4 q.2)))) :=
 QBK j a g f ⟨λt ht=>h.wp _ (aa ht),λt ht=>h.wq _ (aa ht)⟩ i ⟨by have:=h.lp;rwa [Yb]at this,by have:=h.lq;rwa [Yb]at this⟩
  ⟨λt ht=>h.pp _ (aa ht),λt ht=>h.pq _ (aa ht),λs b t ht=>h.pm _ (aa b) _ (aa ht)⟩ ⟨h.zp,h.zq⟩ h.zm
structure kc(p q:List Tm):Prop where
 pp:∀t∈p,PW t.2
 pq:∀t∈q,PW t.2
 lp:p.length<=400000000
 lq:q.length<=400000000
 zs:Yr (p++q)<=40000000
theorem zG{p q:WS}(g:Fits F w)(a:JE F)(f:XU F p.1 p.2 (J4 p.2))(b:XU F q.1 q.2 (J4 q.2))(h:kc (J4 p.2) (J4 q.2)):
  QU prog 296 [p.1.v,q.1.v] w F (λ(c:WS)=>c.1.v) (λc F=>XU F c.1 c.2 (XO (J4 p.2++J4 q.2))) :=
 QBQ g a f b ⟨λt ht=>h.pp _ (aa ht),λt ht=>h.pq _ (aa ht)⟩ ⟨by have:=h.lp;rwa [Yb]at this,by have:=h.lq;rwa [Yb]at this⟩ h.zs
def jI(a:List WS):List (List Tm):=a.map λe=>J4 e.2
theorem QCF(h:∀x∈l,0<=x)(v:Nat):0<=Qm l v:=by
 by_cases g:v<l.length
 ·rw[Z9 g];exact h _ (List.getElem_mem g)
 rw[MX O];exact Int.le_refl _
def jv{ts:List ZY}(h:i<ts.length):(el ts i).t=el (J4 ts) i:=by rw[Jb h,Jb (by simpa[J4]using h)];simp[J4]
structure Open(F:Fence):Prop where
 fn:∀f,F.fn f
 depth:F.depth=none
 calls:∀ {n:Nat} {P:Program} {f:FuncId} {args:Array Value} {w:World} {R:Ending->World->Prop},Calls P f args w R->CallsIn F n P f args w R
 rows:∀ {n:Nat} {P:Program} {row:String} {args:Array Value} {w:World} {R:Value->World->Prop},Rows P row args w R->RowsIn F n P row args w R
theorem S8:Open bM where
 fn:=λ_=>trivial
 depth:=rfl
 calls:=λh=>callsIn_wide.2 h
 rows:=λh c cs _=>by
  obtain⟨v,w',h1,h2⟩:=h c cs;exact⟨v,w',h1,stepsIn_wide.2 h2⟩
def RL(l:Nat):Open (Fence.wide.inRound l) where
 fn:=λ_=>trivial
 depth:=rfl
 calls:=λh=>(callsIn_wide.2 h:CallsIn bM _ _ _ _ _ _)
 rows:=λh=>S8.rows h
section
variable{F:Fence}{P:Program}
theorem Open.op(b:Open F){o:Oper}(g:∀c,o.op≠.defer c){a:Act}{w:World}{K K':Act->World->Prop}{j Q:Exit->Act->World->Prop}(hp:∀c a w,j (.panic c) a w->Q (.panic c) a w)(l:∀a w,j .outgrown a w->Q .outgrown a w)(i:∀a w,K a w->K' a w)(h:o.wp P a w K j):o.wpIn F 0 P a w K' Q:=by
 unfold Oper.wp at h;unfold Oper.wpIn;refine⟨λf _=>b.fn f,?_⟩;rw[fT F a.eval o g];generalize (execOp a.eval o).run P w=r at *
 have hd:F.depth.isSome=true->1<=0:=λe=>by rw[b.depth]at e;cases e
 cases r with
 |ok x w' =>
  cases x<;>simp only[Oper.upon,iz]at h ⊢ <;>
   first
    |exact i _ _ h
    |exact⟨hd,b.calls (h.mono λe k he=>by
      cases e with
      |returned u=>exact i _ _ he
      |panicked c=>exact hp _ _ _ he
      |outgrown=>obtain⟨a,w,h⟩:=he;exact⟨a,w,l _ _ h⟩)⟩
    |exact⟨hd,b.rows (h.mono λ_ _ he=>i _ _ he)⟩
 |halt x w'=>cases x<;>simp only[Oper.upon,iz]at h ⊢<;>exact hp _ _ _ h
def Nx(l:List Oper):Bool:=l.all λo=>match o.op with | .defer _=>false | _=>true
def Lj{o:Oper}(h:(match o.op with | .defer _=>false | _=>true)=true):∀c,o.op≠.defer c:=λc e=>by rw[e]at h;cases h
theorem Open.list(hF:Open F){ops:Array Oper}{Q:Exit->Act->World->Prop}(hQ:¬LetsOut Q):∀(l:List Oper) (a:Act) (w:World),Nx l=true->wpList P ops Q l a w->wpListIn F 0 P ops Q l a w
 |[],_,_,_,h=>h
 |o::rest,a,w,hd,h=>by
  simp only[Nx,fa,ae]at hd;unfold wpList at h;unfold wpListIn;split
  ·rename_i hw;rw[if_pos hw]at h;rcases h with h | ⟨_,h⟩
   ·exact hF.op (Lj hd.1) (λ_ _ _ h=>h) (λ_ _ h=>h) (λa w h=>hF.list hQ rest a w hd.2 h) h
   exact absurd h hQ
  rename_i hw;rw[if_neg hw]at h;exact⟨λf _=>hF.fn f,hF.list hQ rest _ _ hd.2 h⟩
end
section
variable[Dr][df:Df]{F:Fence}{P:Program}{Q:Exit->Act->World->Prop}{N:Nat}{m:Sl}{E:Env}
def JI(F:Fence)(P:Program)(c:Code)(Q:Exit->Act->World->Prop)(N:Nat)(m:Sl)(E:Env):Prop:=∀a w,Ja N m a->St E w->c.wpIn F 0 P Q a w
theorem kY{b:Nat}{c:Code}(h:JI F P c (Exit.inBlock b Q) N m E):JI F P (.block b c) Q N m E:=λa w ha f=>wpIn_block (h a w ha f)
theorem Tf(g:Open F){b:Nat}{l:List Oper}(f:¬LetsOut Q)(hd:Nx l=true)(h:JS P l.toArray Q l N m E):JI F P (.region b l.toArray false) Q N m E :=
 λa w ha c=>wpIn_region_lit (g.list f l a w hd (h a w ha c))
section
variable{w0:World}{F0:Gs}{bs:List (Nat×Obj)}{G:Gs->Prop}{l:Nat}{r:Loop}{f:Obj->List (Nat×Obj)}
theorem St.put(h:St ⟨w0,F0,bs,G⟩ w){b:Nat}{o:Obj}(a:Obj)(g:Own bs b o f)(i:∀c fr,a≠.cells c 297 fr):St ⟨w0,F0,f a,G⟩ (w.putObj b a):=by
 obtain⟨pre,post,k,j⟩:=g.split;subst k;rw[j];exact h.write pre ⟨rfl,rfl,rfl,rfl,rfl⟩ i
theorem uR{b:Code}{i:Exit->Act->World->Prop}(h:Own bs l (.loop r) f)(hr:r.state = .ready)(k:JI F P b i N m ⟨w0,F0,f (.loop { r with state:=.busy }),G⟩):
  Fin (Exit.then (λa₁ w₁=>∃w₂,(fN l).run P w₁ = .ok () w₂/\b.wpIn F 0 P i a₁ w₂) λ_ _ _=>False) .normal N m ⟨w0,F0,bs,G⟩ :=
 λa w ha g=>⟨_,run_beginRound (g.own h) hr,k a _ ha (g.put _ h λc fr e=>by cases e)⟩
theorem uP{R:Ending->World->Prop}(g:Own bs l (.loop r) f)(k:∀w,St ⟨w0,F0,f (.loop { r with state:=.ready,pending:=none }),G⟩ w->R (.returned (.bool true)) w):Fin (roundPost P l R) .normal N m ⟨w0,F0,bs,G⟩ :=
 λa w ha b=>⟨_,_,run_endRound none (b.own g),k _ (b.put _ g λc fr e=>by cases e)⟩
end
end
section
variable[Dr]{P:Program}{w0:World}{F0:Gs}{bs:List (Nat×Obj)}{G:Gs->Prop}{l:Nat}{r:Loop}{f:Obj->List (Nat×Obj)}
def Ty(r:Loop)(vs:Array Value):Act:={ tmps:=(r.params.zip vs).foldl (λtmps (t,a)=>tmps.setIfInBounds t a) r.tmps,defers:=[] }
theorem I1{W:World}{vs:Array Value}{R:Ending->World->Prop}{m:Sl}(a:St ⟨w0,F0,bs,G⟩ W)(g:Own bs l (.loop r) f)(b:vs.size=r.params.size)(c:Ja N m (Ty r vs))
  (h:JI (Fence.wide.inRound l) P r.assign (Exit.then (λa₁ w₁=>∃w₂,(fN l).run P w₁ = .ok () w₂/\r.body.wpIn (Fence.wide.inRound l) 0 P (roundPost P l R) a₁ w₂) λ_ _ _=>False) N m ⟨w0,F0,bs,G⟩) :
  YieldAt bM 0 P l vs W R :=
 ⟨_,_,_,_,run_yield (a.own g) b,roundIn_of_wpIn trivial (h _ W c a)⟩
end
section
variable[Dr][df:Df]{P:Program}{Q:Exit->Act->World->Prop}{N:Nat}{m:Sl}{E E0:Env}{ops:Array Oper}{l:List Oper}{w0:World}{F0:Gs}{bs:List (Nat×Obj)}{G:Gs->Prop}
def JSI(P:Program)(b:Array Oper)(Q:Exit->Act->World->Prop)(l:List Oper)(N:Nat)(m:Sl)(E:Env):Prop:=∀a w,Ja N m a->St E w->wpListIn bM 0 P b Q l a w
theorem QCZ(c:¬LetsOut Q)(hd:Nx l=true)(h:JS P ops Q l N m E):JSI P ops Q l N m E:=λa w ha b=>S8.list c l a w hd (h a w ha b)
theorem jA{d r:Nat}{args:Array Operand}{g:Array TypeId}{vs:List Value}{ty:TypeId}{pos:String}{aft:Array Edge}{ι:Type}{E':ι->Env}(hx:ev m x=some (.func (.yield r) #[] #[]))(n:E3 m args.toList=some vs)
  (hy:∀w,St E w->YieldAt bM 0 P r vs.toArray w λe w'=>e = .returned (.bool true)/\∃s,St (E' s) w')
  (k:∀s,JSI P ops Q l N ((d,.bool true)::m) (E' s)) (hd:J5 N (some d)=true:=by rfl):JSI P ops Q (⟨some d,.call ⟨.value x,args,g⟩,ty,pos,aft,none⟩::l) N m E:=by
 intro a w ha j;refine wpListIn_plain rfl λK y=>?_;obtain⟨fn,tmps,b,i,hr,u⟩:=hy w j;refine⟨λf _=>trivial,?_⟩;have z:args.map a.eval=vs.toArray:=by rw[<-ha.E3 n];apply fG;simp
 have h:(execOp a.eval ⟨some d,.call ⟨.value x,args,g⟩,ty,pos,aft,none⟩).run P w = .ok (.round r fn tmps b i) w:=by
  simp only[execOp,resolve,ha.ev hx,Deferred.ofValue,bY,fp,bO,invoke,z];simpa using hr
 rw[fT bM a.eval _ (λc e=>by cases e),h];refine⟨λe=>(by cases e),u.mono ?_⟩;rintro e w' ⟨rfl,s,o⟩;exact y _ _ (k s _ w' (ha.put hd (.bool true)) o)
end
section
variable[Dr]{P:Program}{Q:Exit->Act->World->Prop}{N:Nat}{m:Sl}{w0:World}{F0:Gs}{bs:List (Nat×Obj)}{G:Gs->Prop}
structure kS(N:Nat)(m:Sl)(ps:Array Tmp)(assign body:Code)(r:Loop):Prop where
 state:r.state = .ready
 QI7:r.pending=none
 params:r.params=ps
 assign:r.assign=assign
 body:r.body=body
 QEf:Ja (df:=DH) N m { tmps:=r.tmps,defers:=[] }
theorem QU.QB6{f:FuncId}{fn:Func}{c:Code}{args:List Value}{γ:Type}{val:γ->Value}{a:γ->Gs->Prop}{G:Gs->Prop}(i:P.funcs[f]?=some fn)(hb:fn.body=some c)(k:(fn.name == "runtime.NumGoroutine")=false)(n:fn.ntmps=N)(l:Nat.ble args.length N=true)
  (j:Fits F w) (m:∀F',Gs.le F F'->G F') (h:J (df:=DH) P c (bodyPostM bM 0 P fn (SH w F val a)) N (Rt 0 args) ⟨w,F,[],G⟩):QU P f args w F val a:=by
 refine⟨enters_of i k (by rw[hb];rfl),callsIn_wide.1 (callsIn_of_wp_marks i hb trivial (wpIn_wide.2 (h _ w ⟨?_,rfl,λt v ht=>?_⟩ (St.start j m))))⟩
 ·have:=Nat.le_of_ble_eq_true l;simp[n];omega
 obtain⟨_,h2⟩:=Gy args 0 t v ht;have b:t<args.length:=by rcases bF t args.length with g | g;exact g;rw[eL,bc g]at h2;cases h2
 simp only[eL]at h2;rw[bG,if_pos (by simpa using b)];simpa using h2
end
section
variable{P:Program}{e:TypeId}
theorem equal_txs{t:TypeId}{h g:Field}(ht:P.underlying t=some (.struct (P.fieldsOf t)))(hp:P.stoodInHeld t=false)(j:(P.fieldsOf t).toList=[h,g])(h1:h.name ≠ "_" /\ h.offset=0/\P.underlying h.type=some .string)(h2:g.name ≠ "_" /\ g.offset=1/\P.underlying g.type=some .string)(w:World)(a b c d:List UInt8):
  (Op.equal t (.agg #[tx a,tx b]) (.agg #[tx c,tx d])).run P w = .ok (decide (a=c)&&decide (b=d)) w:=by
 have i:∀(f:TypeId),P.underlying f=some .string->∀x y:List UInt8,(Op.equalIn 9999 f (tx x) (tx y)).run P w = .ok (decide (x=y)) w:=λf j x y=>by
  rw[show(9999:Nat)=9998+1 from rfl,show tx x = .string ⟨x.toArray⟩from rfl,show tx y = .string ⟨y.toArray⟩from rfl,run_equalIn_string w 9998 f _ _ j];congr 1;rw[fb,fb,ba];simp
 show(Op.equalIn (9999+1) t _ _).run P w=_;rw[run_equalIn_struct w 9999 t _ _ ht hp,j];have k:∀x y:List UInt8,(part h.type #[tx x,tx y] 0).run P w = .ok (tx x) w:=λx y=>by simp[part,isAgg,run_underlying h1.2.2]
 have p2:∀x y:List UInt8,(part g.type #[tx x,tx y] 1).run P w = .ok (tx y) w:=λx y=>by simp[part,isAgg,run_underlying h2.2.2]
 simp only[Op.eqFields,h1.1,h2.1,h1.2.1,h2.2.1,ne_eq,not_false_eq_true,if_true,bY,k,p2,i h.type h1.2.2,i g.type h2.2.2,bO];by_cases m:a=c<;>by_cases l:b=d<;>simp[m,l,p2,i g.type h2.2.2]
end
section
variable[Dr][df:Df]{P:Program}{Q:Exit->Act->World->Prop}{N:Nat}{m:Sl}{ops:Array Oper}{l:List Oper}{E E':Env}
theorem IM{w0:World}{F0:Gs}{bs bs':List (Nat×Obj)}{G:Gs->Prop}{E0:Env}(hp:bs.Perm bs')(k:JD P ops Q E0 l N m ⟨w0,F0,bs',G⟩):JD P ops Q E0 l N m ⟨w0,F0,bs,G⟩:=λc a w ha b=>k (λw h=>c w (h.perm hp.symm)) a w ha (b.perm hp)
end
def LU{m:Sl}{ps:Array Tmp}{a b:Code}{r:Loop}(h:kS N m ps a b r):{ ({ r with state:=.busy }:Loop)with state:=.ready,pending:=none }=r:=by
 obtain⟨h1,h2,_,_,_,_⟩:=h;cases r;simp only at h1 h2;subst h1;subst h2;rfl
theorem Cv:((prog.fieldsOf 40).toList.map λf=>(f.name,f.offset,f.type))=[("Low",0,22),("High",1,22)]:=tE
theorem LH:prog.underlying 40=some (.struct (prog.fieldsOf 40)):=tE
theorem Cu:prog.stoodInHeld 40=false:=tE
theorem LI:prog.eqGuardType prog.depth 40=false:=tE
theorem Ow:prog.underlying 22=some .string:=tE
def I6{β:Type}{f:α->β}{l:List α}{x y:β}(h:l.map f=[x,y]):∃a b,l=[a,b]/\f a=x/\f b=y:=by
 match l,h with
 |[a,b],h=>simp only[af,fg,fy,and_true]at h;exact⟨a,b,rfl,h.1,h.2⟩
theorem equal_span(w:World)(a b c d:List UInt8):(Op.equal 40 (.agg #[tx a,tx b]) (.agg #[tx c,tx d])).run prog w = .ok (decide (a=c)&&decide (b=d)) w:=by
 obtain⟨h,g,f,h1,h2⟩:=I6 Cv;simp only[eW]at h1 h2;exact equal_txs LH Cu f ⟨by rw[h1.1];decide,h1.2.1,by rw[h1.2.2];exact Ow⟩ ⟨by rw[h2.1];decide,h2.2.1,by rw[h2.2.2];exact Ow⟩ w a b c d
section
variable[Dr][df:Df]{N:Nat}{m:Sl}{S:World->Prop}{ty:TypeId}
theorem xe{yT:TypeId}{y:Operand}{a b c d:List UInt8}(hx:ev m x=some (.agg #[tx a,tx b]))(hy:ev m y=some (.agg #[tx c,tx d])):Qt prog N m S (.binOp .neq 40 x y yT) ty (.bool (!(decide (a=c)&&decide (b=d)))):=λf w _ _ _ _ ha _=>by
 have h1:=equal_span w a b c d;simp only[execOp,ha.ev hx,ha.ev hy,bY];have h2:(eqGuard .neq 40 x y (.agg #[tx a,tx b]) (.agg #[tx c,tx d])).run prog w = .ok () w:=by
  simp[eqGuard,LI]
 rw[h2];simp[binOp,h1]
end
def zc(f:List UInt8)(b:Nat)(k:List Int):V0:=⟨f,⟨some ⟨b,0,none⟩,k.length,k.length⟩,k⟩
def ko(b:Nat)(ts:List V0):NQ:=(⟨some ⟨b,0,none⟩,ts.length,ts.length⟩,ts)
def WX{b:Nat}{k:List Int}(h:F b=some ((k.map Jo).toArray,T)):J8 F ⟨some ⟨b,0,none⟩,k.length,k.length⟩ k:=⟨Qy.of h tJ,rfl,aY _⟩
def ze{b:Nat}{ts:List V0}(h:∀t∈ts,t.f.length<=1000000/\t.k.length<=1000000)(a:ts.length<=1000000):Up (ko b ts):=⟨rfl,h,a⟩
section
theorem O8{b:Nat}{ts:List V0}(h:F b=some ((ts.flatMap VM).toArray,T)):Qy F (ko b ts).1.q (ko b ts).1.n 2 ((ko b ts).2.flatMap VM) :=
 Qy.of h (Dq (f:=VM) YR ts)
theorem ub{b:Nat}{ts:List V0}(P:Pt)(a:ZX ts=P)(hp:∀e∈P,e.1.length<=1000000/\e.2.length<=1000000)(c:P.length<=1000000):Up (ko b ts):=by
 refine ze (λt ht=>?_) ?_
 ·have:(t.f,t.k)∈ZX ts:=List.mem_map.2 ⟨t,ht,rfl⟩;rw[a]at this;exact hp _ this
 have:=congrArg List.length a;simp only[ZX,bw]at this;omega
def QE8(a:List UInt8):It .neq (tx a) (tx a)=some (.bool false):=by simp[It,tx]
def QFk{t:V0}(h:J8 F t.r t.k):Yy F [t]:=λx hx=>by rw[List.mem_singleton.1 hx];exact h
theorem QFj{t:V0}{ts:List V0}(h:J8 F t.r t.k)(a:Yy F ts):Yy F (t::ts):=λx hx=>by
 rcases List.mem_cons.1 hx with rfl | hx
 ·exact h
 exact a x hx
variable{w:World}{F:Gs}
end
def RY(i:Nat):ZW i*((2^i:Int):Rat)=1:=by
 unfold ZW
 induction i with
 |zero=>decide +kernel
 |succ i ih =>
  have e:((2^(i+1):Int):Rat)=((2^i:Int):Rat)*2:=by rw[iy,fY];rfl
  rw[aN,e];have h2:aU 1 2*2=1:=tG;rw[show aU 1 2^i*aU 1 2*(((2^i:Int):Rat)*2)=(aU 1 2^i*((2^i:Int):Rat))*(aU 1 2*2)from by
   rw[bJ,bJ];congr 1;rw[<-bJ,Rat.mul_comm (aU 1 2),bJ],ih,h2,fA]
def N2(i:Nat):ZW i≠0:=λe=>qQ i (by rw[e];rfl)
def Rn(x:Rat)(i:Nat):x/ZW i=x*((2^i:Int):Rat):=by
 have h:=RY i;rw[iD];congr 1;have h1:=Rat.inv_mul_cancel (ZW i) (N2 i)
 calc (ZW i)⁻¹=(ZW i)⁻¹*(ZW i*((2^i:Int):Rat)):=by rw[h,fA]
  _=((ZW i)⁻¹*ZW i)*((2^i:Int):Rat):=by rw[bJ]
  _=_:=by rw[h1,iB]
def FU(n:Int)(i:Nat):aU n (2^i)=(n:Rat)*ZW i:=by
 have h:=Rn (((n:Int):Rat)*ZW i) i;have a:=N2 i;rw[eK];have h2:((2^i:Int):Rat)≠0:=λe=>by have:=RY i;rw[e,iu]at this;exact absurd this tF
 have h3:(ZW i)=(((2^i:Int):Rat))⁻¹:=by
  have h1:=Rat.mul_inv_cancel (((2^i:Int):Rat)) h2
  calc ZW i=ZW i*(((2^i:Int):Rat)*(((2^i:Int):Rat))⁻¹):=by rw[h1,fA]
   _=(ZW i*((2^i:Int):Rat))*(((2^i:Int):Rat))⁻¹:=by rw[bJ]
   _=_:=by rw[RY,iB]
 rw[h3,iD]
def RI(r:Rat×Rat)(b:Int):Z7 r b=(YL r.1 b.toNat,-YL (-r.2) b.toNat):=by
 unfold Z7 two YL;rw[FU,FU,Rn,Rn,Rat.intCast_neg,iC,iC]
theorem N8(x y:Rat):Yw x y<=0↔x<=y:=by
 unfold Yw;by_cases h:x<y
 ·rw[if_pos h];exact⟨λ_=>fj h,λ_=>tF⟩
 rw[if_neg h];by_cases e:x=y
 ·rw[if_pos e,e];exact⟨λ_=>aD,λ_=>tF⟩
 rw[if_neg e];refine⟨λk=>absurd k tF,λk=>absurd (Rat.lt_of_le_of_ne k e) h⟩
theorem Uj(x y:Rat):Yw x y>=0↔y<=x:=by
 unfold Yw;by_cases h:x<y
 ·rw[if_pos h];exact⟨λk=>absurd k tF,λk=>absurd k (Rat.not_le.2 h)⟩
 rw[if_neg h];refine⟨λ_=>Rat.not_lt.1 h,λ_=>?_⟩;split<;>decide
def V9(x y:Rat):Yw x y<0↔x<y:=by
 rw[<-fH,<-Uj];omega
def K3(x y:Rat):Yw x y>0↔y<x:=by
 rw[<-fH,<-N8];omega
def GR(x:Rat)(a:Rat×Rat):Prop:=a.1<=x/\x<=a.2
theorem jm(s:Rat×Rat)(x:Rat):(ZC s x).1<=s.1/\s.2<=(ZC s x).2/\GR x (ZC s x)\/¬s.1<=s.2:=by
 by_cases h:s.1<=s.2
 ·left;unfold ZC GR;dsimp only;by_cases h1:x<s.1
  ·rw[if_pos ((V9 x s.1).2 h1),if_neg (λk=>by have:=(K3 x s.2).1 k;grind)]
   grind
  rw[if_neg (λk=>h1 ((V9 x s.1).1 k))];by_cases h2:s.2<x
  ·rw[if_pos ((K3 x s.2).2 h2)];grind
  rw[if_neg (λk=>h2 ((K3 x s.2).1 k))];grind
 exact .inr h
theorem ND:∀(l:List Rat) (s:Rat×Rat),s.1<=s.2->((l.foldl ZC s).1<=s.1/\s.2<=(l.foldl ZC s).2)/\∀y∈l,GR y (l.foldl ZC s)
 |[],s,_=>⟨⟨aD,aD⟩,λy hy=>by cases hy⟩
 |x::l,s,h=>by
  rcases jm s x with ⟨h1,h2,h3⟩ | h1
  ·obtain⟨⟨b,a⟩,c⟩:=ND l (ZC s x) (by unfold GR at h3;grind);unfold GR at h3;refine⟨⟨ao b h1,ao h2 a⟩,λy hy=>?_⟩;rcases List.mem_cons.1 hy with rfl | hy
   ·exact⟨ao b h3.1,ao h3.2 a⟩
   exact c y hy
  exact absurd h h1
def KE{r:Rat}{l:List Rat}(h:y∈r::l):GR y (Yi r l):=by
 obtain⟨h1,h2⟩:=ND l (r,r) aD;rcases List.mem_cons.1 h with rfl | h
 ·exact h1
 exact h2 y h
theorem OB(l:List Rat):∀(s:Rat×Rat),((l.foldl ZC s).1=s.1\/(l.foldl ZC s).1∈l)/\((l.foldl ZC s).2=s.2\/(l.foldl ZC s).2∈l):=by
 induction l with
 |nil=>intro s;exact⟨.inl rfl,.inl rfl⟩
 |cons x l ih =>
  intro s;obtain⟨h1,h2⟩:=ih (ZC s x);rw[bK];have b:(ZC s x).1=s.1\/(ZC s x).1=x:=by unfold ZC;dsimp only;split;exact .inr rfl;exact .inl rfl
  have a:(ZC s x).2=s.2\/(ZC s x).2=x:=by unfold ZC;dsimp only;split;exact .inr rfl;exact .inl rfl
  constructor
  ·rcases h1 with h1 | h1
   ·rw[h1];rcases b with w | w
    ·exact .inl w
    exact .inr (by rw[w];exact aB)
   exact .inr (aq _ h1)
  rcases h2 with h2 | h2
  ·rw[h2];rcases a with w | w
   ·exact .inl w
   exact .inr (by rw[w];exact aB)
  exact .inr (aq _ h2)
def NF(r:Rat)(l:List Rat):(Yi r l).1∈r::l/\(Yi r l).2∈r::l:=by
 obtain⟨h1,h2⟩:=OB l (r,r);unfold Yi;refine⟨?_,?_⟩
 ·rcases h1 with h | h
  ·rw[h];exact aB
  exact aq _ h
 rcases h2 with h | h
 ·rw[h];exact aB
 exact aq _ h
def Yd(a b:Rat×Rat):Prop:=b.1<=a.1/\a.1<=a.2/\a.2<=b.2
def xC(h1:GR a.1 b)(h2:GR a.2 b)(h:a.1<=a.2):Yd a b:=⟨h1.1,h,h2.2⟩
theorem MA(a b:Rat×Rat):(Jg a b).1<=(Jg a b).2:=by
 have:=KE (r:=a.1*b.1) (l:=[a.1*b.2,a.2*b.1,a.2*b.2]) aB;exact ao this.1 this.2
theorem GO{x:Rat}(hx:GR x a)(hy:GR y b):GR (x*y) (Jg a b):=by
 have s:GR (a.1*b.1) (Jg a b):=KE tJ;have o:GR (a.1*b.2) (Jg a b):=KE tJ;have n:GR (a.2*b.1) (Jg a b):=KE tJ;have m:GR (a.2*b.2) (Jg a b):=KE tJ;generalize Jg a b=t at *
 obtain⟨j,i⟩:=hx;obtain⟨g,f⟩:=hy;unfold GR at *
 have l:GR (a.1*y) t:=by
  rcases bD (a:=0) (b:=a.1)with h | h
  ·have:=ah g h;have:=ah f h;unfold GR;grind
  have c:0<=-a.1:=by grind
  have:=ah g c;have:=ah f c;unfold GR;grind
 have k:GR (a.2*y) t:=by
  rcases bD (a:=0) (b:=a.2)with h | h
  ·have:=ah g h;have:=ah f h;unfold GR;grind
  have c:0<=-a.2:=by grind
  have:=ah g c;have:=ah f c;unfold GR;grind
 unfold GR at l k;rcases bD (a:=0) (b:=y)with h | h
 ·have:=aM j h;have:=aM i h
  grind
 have c:0<=-y:=by grind
 have:=aM j c;have:=aM i c
 grind
def GR.sub{x:Rat}(h:GR x a)(k:Yd a b):GR x b:=⟨ao k.1 h.1,ao h.2 k.2.2⟩
def Yd.ends(k:Yd a b):GR a.1 b/\GR a.2 b:=⟨⟨k.1,ao k.2.1 k.2.2⟩,⟨ao k.1 k.2.1,k.2.2⟩⟩
def Se{c d:Rat×Rat}(h:Yd a c)(k:Yd b d):Yd (Jg a b) (Jg c d):=by
 obtain⟨g,f⟩:=h.ends;obtain⟨b1,b2⟩:=k.ends;have all:∀z∈[a.1*b.1,a.1*b.2,a.2*b.1,a.2*b.2],GR z (Jg c d):=λz hz=>by
  simp only[ay,aI,or_false]at hz;rcases hz with rfl | rfl | rfl | rfl
  ·exact GO g b1
  ·exact GO g b2
  ·exact GO f b1
  exact GO f b2
 obtain⟨h1,h2⟩:=NF (a.1*b.1) [a.1*b.2,a.2*b.1,a.2*b.2];exact xC (all _ h1) (all _ h2) (MA a b)
def X0{x:Rat}(h0:0<=x)(h:x<=y):∀n:Nat,x^n<=y^n
 |0=>by rw[bj,bj];exact aD
 |n+1=>by
  have ih:=X0 h0 h n;have hx:0<=x^n:=bN h0;rw[aN,aN];have h1:=ah h hx;have h2:=aM ih (ao h0 h);exact ao h1 h2
theorem neg_pow(x:Rat):∀n:Nat,(-x)^(2*n)=x^(2*n)/\(-x)^(2*n+1) = -(x^(2*n+1))
 |0=>by
  refine⟨by rw[fl,bj,bj],?_⟩;rw[aN,aN,fl,bj,bj];grind
 |n+1=>by
  obtain⟨h1,h2⟩:=neg_pow x n;have e:(-x)^(2*(n+1))=x^(2*(n+1)):=by
   rw[show 2*(n+1)=2*n+1+1 by omega,aN,h2,aN x];grind
  exact⟨e,by rw[aN,e,aN x];grind⟩
theorem xJ(x:Rat):Dm x.num<0↔x<0:=by
 rw[Ia];by_cases h:x<0
 ·rw[if_pos h];exact⟨λ_=>h,λ_=>tF⟩
 rw[if_neg h];refine⟨λk=>?_,λk=>absurd k h⟩;split at k<;>omega
theorem Oh(x:Rat):Dm x.num>0↔0<x:=by
 rw[Ia];by_cases h:x<0
 ·rw[if_pos h];refine⟨λk=>O,λk=>?_⟩;grind
 rw[if_neg h];by_cases e:x=0
 ·rw[if_pos e];refine⟨λk=>O,λk=>?_⟩;grind
 rw[if_neg e];refine⟨λ_=>?_,λ_=>tF⟩;grind
theorem RE{x:Rat}(hx:GR x a){n:Int}(o:0<=n):GR (x^n.toNat) (Y5 a n):=by
 have c1:GR (a.1^n.toNat) (Yi (a.1^n.toNat) [a.2^n.toNat]):=KE tJ;have c2:GR (a.2^n.toNat) (Yi (a.1^n.toNat) [a.2^n.toNat]):=KE tJ;unfold Y5;generalize Yi (a.1^n.toNat) [a.2^n.toNat]=t at *
 obtain⟨m,hm⟩:∃m,n.toNat=2*m\/n.toNat=2*m+1:=⟨n.toNat/2,O⟩;obtain⟨j,i⟩:=hx;unfold GR at c1 c2;by_cases hc:(decide (n>0)&&(decide (n%2=0)&&(decide (Dm a.1.num<0)&&decide (Dm a.2.num>0))))=true
 ·rw[if_pos hc];simp only[ae,decide_eq_true_eq]at hc;obtain⟨_,h2,h3,h4⟩:=hc;rcases hm with hm | hm
  ·rw[hm]at c1 c2 ⊢;refine⟨?_,?_⟩
   ·rcases bD (a:=0) (b:=x)with h | h
    ·exact bN h
    rw[<-(neg_pow x m).1];exact bN (by grind)
   rcases bD (a:=0) (b:=x)with h | h
   ·exact ao (X0 h i _) c2.2
   have:=X0 (x:=-x) (y:=-a.1) (by grind) (by grind) (2*m);rw[(neg_pow x m).1,(neg_pow a.1 m).1]at this;exact ao this c1.2
  omega
 rw[if_neg hc];rcases hm with hm | hm
 ·rw[hm]at c1 c2 ⊢;have c:0<=a.1\/a.2<=0\/m=0:=by
   by_cases h3:a.1<0
   ·by_cases h4:0<a.2
    ·right;right;rcases eE m with g | g
     ·exact g
     exfalso;apply hc;simp only[ae,decide_eq_true_eq];exact⟨O,O,(xJ _).2 h3,(Oh _).2 h4⟩
    right;left;grind
   left;grind
  rcases c with h | h | h
  ·exact⟨ao c1.1 (X0 h j _),ao (X0 (ao h j) i _) c2.2⟩
  ·have l:=X0 (x:=-a.2) (y:=-x) (by grind) (by grind) (2*m);have p2:=X0 (x:=-x) (y:=-a.1) (by grind) (by grind) (2*m);rw[(neg_pow x m).1,(neg_pow a.2 m).1]at l;rw[(neg_pow x m).1,(neg_pow a.1 m).1]at p2;exact⟨ao c2.1 l,ao p2 c1.2⟩
  subst h;rw[fl,bj]at c1 ⊢;exact c1
 have f:∀ {u v:Rat},u<=v->u^(2*m+1)<=v^(2*m+1):=λ{u v} k=>by
  rcases bD (a:=0) (b:=u)with h | h
  ·exact X0 h k _
  rcases bD (a:=0) (b:=v)with g | g
  ·have h1:0<=(-u)^(2*m+1):=bN (by grind);have h2:0<=v^(2*m+1):=bN g;rw[(neg_pow u m).2]at h1
   grind
  have:=X0 (x:=-v) (y:=-u) (by grind) (by grind) (2*m+1);rw[(neg_pow u m).2,(neg_pow v m).2]at this
  grind
 rw[hm]at c1 c2 ⊢;exact⟨ao c1.1 (f j),ao (f i) c2.2⟩
theorem xu(a:Rat×Rat)(h:a.1<=a.2){n:Int}(hn:0<=n):(∃x,GR x a/\(Y5 a n).1=x^n.toNat)/\(∃x,GR x a/\(Y5 a n).2=x^n.toNat):=by
 obtain⟨h1,h2⟩:=NF (a.1^n.toNat) [a.2^n.toNat];have key:∀z∈[a.1^n.toNat,a.2^n.toNat],∃x,GR x a/\z=x^n.toNat:=λz hz=>by
  simp only[ay,aI,or_false]at hz;rcases hz with rfl | rfl
  ·exact⟨a.1,⟨aD,h⟩,rfl⟩
  exact⟨a.2,⟨h,aD⟩,rfl⟩
 unfold Y5;refine⟨?_,key _ h2⟩;dsimp only;split
 ·rename_i hc;simp only[ae,decide_eq_true_eq]at hc;have h3:=(xJ _).1 hc.2.2.1;have h4:=(Oh _).1 hc.2.2.2;refine⟨0,⟨fj h3,fj h4⟩,?_⟩;obtain⟨m,hm⟩:∃m,n.toNat=m+1:=⟨n.toNat-1,O⟩;rw[hm,aN,iu]
 exact key _ h1
theorem gz(a:Rat×Rat)(h:a.1<=a.2){n:Int}(b:0<=n):(Y5 a n).1<=(Y5 a n).2:=by
 have:=RE (x:=a.1) (a:=a) ⟨aD,h⟩ b;exact ao this.1 this.2
theorem gq(h:Yd a b){n:Int}(c:0<=n):Yd (Y5 a n) (Y5 b n):=by
 obtain⟨⟨x,hx,g⟩,⟨y,hy,f⟩⟩:=xu a h.2.1 c;exact xC (by rw[g];exact RE (hx.sub h) c) (by rw[f];exact RE (hy.sub h) c) (gz a h.2.1 c)
section
variable{xs:List Rat}{rs bs:List (Rat×Rat)}{ks:List Int}
theorem AE{r q:Rat×Rat}(hr:Yd r q)(hk:∀k∈ks,0<=k)(hx:∀i,i<rs.length->Yd (el rs i) (el bs i)):∀m,m<=rs.length->Yd (VT r rs ks m) (VT q bs ks m)
 |0,_=>hr
 |m+1,hm=>by
  have ih:=AE hr hk hx m O;have h0:=QCF hk m;rw[Wp,Wp];by_cases g:Qm ks m>0
  ·rw[if_pos g,if_pos g];exact Se ih (gq (hx m O) h0)
  rw[if_neg g,if_neg g];exact ih
theorem TO{l:List Tm}(b:∀t∈l,t.2.length<=rs.length/\∀k∈t.2,0<=k)(hx:∀i,i<rs.length->Yd (el rs i) (el bs i)):Yd (J3 rs l) (J3 bs l):=by
 have c:∀(l:List Tm) (r q:Rat×Rat),(∀t∈l,t.2.length<=rs.length/\∀k∈t.2,0<=k)->Yd r q->Yd (l.foldl (λa t=>Vz a (VT (t.1,t.1) rs t.2 t.2.length)) r) (l.foldl (λa t=>Vz a (VT (t.1,t.1) bs t.2 t.2.length)) q):=by
  intro l
  induction l with
  |nil=>intro r q _ h;exact h
  |cons t l ih =>
   intro r q b h;obtain⟨h1,h2⟩:=b t aB;have f:=AE (r:=(t.1,t.1)) (q:=(t.1,t.1)) ⟨aD,aD,aD⟩ h2 hx t.2.length h1;refine ih _ _ (λu hu=>b u (aq _ hu)) ?_;unfold Yd Vz at *
   dsimp only at *
   grind
 exact c l (0,0) (0,0) b ⟨aD,aD,aD⟩
end
abbrev XP:=Rat×Rat
def My(a b:List XP):List XP:=(ai a.length).map λk=>Vz (el a k) (el b k)
def DM(a b:List XP)(k i:Nat):XP:=(ai i).foldl (λs j=>Vz s (Jg (el a j) (el b (k-j)))) (0,0)
def H2(a b:List XP):List XP:=(ai a.length).map λk=>DM a b k (k+1)
def Ek(a:Rat)(n:Nat):List XP:=(a,a)::ib n (0,0)
def KC(t:XP):Nat->List XP
 |0=>[t]
 |n+1=>t::(1,1)::ib n (0,0)
def NW(y b:List XP)(n:Nat):List XP:=(ai n).foldl (λy _=>H2 y b) y
def B4(c:Rat)(ks:List Int)(all:List (List XP))(n i:Nat):List XP:=(ai i).foldl (λy v=>NW y (el all v) (Qm ks v).toNat) (Ek c n)
def Vw(p:List Tm)(all:List (List XP))(n:Nat):List XP:=p.foldl (λs t=>My s (B4 t.1 t.2 all n all.length)) (Ek 0 n)
def J1(rs:List (List Tm))(t:XP)(box:List XP):Nat->List (List XP)
 |0=>box.map λx=>[x]
 |k+1=>(ai box.length).map λi=>el (J1 rs t box k) i++[Jg (el (Vw (el rs i) (KC t k::J1 rs t box k) k) k) ((((k+1:Nat):Int):Rat)⁻¹,(((k+1:Nat):Int):Rat)⁻¹)]
def S3(a b:List XP):(My a b).length=a.length:=by simp[My]
def Pu(a b:List XP):(H2 a b).length=a.length:=by simp[H2]
def Ej(a:Rat)(n:Nat):(Ek a n).length=n+1:=by simp[Ek]
def En(t:XP)(n:Nat):(KC t n).length=n+1:=by cases n<;>simp[KC]
def G2{β:Type}{f:β->α->β}{P:β->Prop}(c:∀b a,P b->P (f b a)):∀(l:List α) {b:β},P b->P (l.foldl f b)
 |[],_,h=>h
 |a::l,b,h=>G2 c l (c b a h)
theorem BA(y b:List XP)(n:Nat):(NW y b n).length=y.length :=
 G2 (P:=λz:List XP=>z.length=y.length) (λz _ h=>(Pu z b).trans h) (ai n) rfl
theorem Kf(c:Rat)(ks:List Int)(all:List (List XP))(n i:Nat):(B4 c ks all n i).length=n+1 :=
 G2 (P:=λz:List XP=>z.length=n+1) (λz v h=>(BA z _ _).trans h) (ai i) (Ej c n)
theorem KI(p:List Tm)(all:List (List XP))(n:Nat):(Vw p all n).length=n+1 :=
 G2 (P:=λz:List XP=>z.length=n+1) (λz t h=>(S3 z _).trans h) p (Ej 0 n)
def WV(rs:List (List Tm))(t:XP)(box:List XP)(k:Nat):(J1 rs t box k).length=box.length:=by
 cases k<;>simp[J1]
def VR[Inhabited α]{n i:Nat}(f:Nat->α)(h:i<n):el ((ai n).map f) i=f i:=by
 rw[Jb (by simpa using h)];simp
theorem VO(rs:List (List Tm))(t:XP)(box:List XP):∀(k:Nat) {i:Nat},i<box.length->(el (J1 rs t box k) i).length=k+1
 |0,i,h=>by
  show(el (box.map λx=>[x]) i).length=1;rw[Jb (by simpa using h)];simp
 |k+1,i,h=>by
  rw[J1,VR _ h,aj,VO rs t box k h];rfl
theorem uG{a b c d:XP}(h:Yd a c)(k:Yd b d):Yd (Vz a b) (Vz c d):=by
 obtain⟨h1,h2,h3⟩:=h;obtain⟨g,k2,f⟩:=k;refine⟨?_,?_,?_⟩<;>(unfold Vz;grind)
def Yd.self{a:XP}(h:a.1<=a.2):Yd a a:=⟨aD,h,aD⟩
def NT(a b:List XP):Prop:=a.length=b.length/\∀i,i<a.length->Yd (el a i) (el b i)
def NT.of{f g:Nat->XP}(h:∀i,i<n->Yd (f i) (g i)):NT ((ai n).map f) ((ai n).map g) :=
 ⟨tJ,λi hi=>by
  have a:i<n:=by simpa using hi
  rw[VR _ a,VR _ a];exact h i a⟩
def Cl(Q d b:Nat)(x:Rat):Prop:=∃z:Int,x=aU z ((Q^d:Nat):Int)/\z.natAbs<=2^b*Q^d
theorem Cl.add{Q d b:Nat}{x:Rat}(h0:0<Q)(hx:Cl Q d b x)(hy:Cl Q d b y):Cl Q d (b+1) (x+y):=by
 obtain⟨z,rfl,h1⟩:=hx;obtain⟨u,rfl,h2⟩:=hy;have hq:((Q^d:Nat):Int)≠0:=tD (eR (n:=d) h0);refine⟨z+u,?_,?_⟩
 ·rw[Rat.divInt_add_divInt _ _ hq hq,<-Int.add_mul,ep hq]
 have:(z+u).natAbs<=z.natAbs+u.natAbs:=Int.natAbs_add_le z u;rw[Nat.pow_succ];have e:2^b*2*Q^d=2^b*Q^d+2^b*Q^d:=by rw[fe,ix 2,<-fe,Nat.mul_two]
 omega
theorem Cl.mul{Q d b e:Nat}{x:Rat}(h0:0<Q)(hx:Cl Q d b x)(hy:Cl Q e c y):Cl Q (d+e) (b+c) (x*y):=by
 obtain⟨z,rfl,h1⟩:=hx;obtain⟨u,rfl,h2⟩:=hy;refine⟨z*u,?_,?_⟩
 ·rw[Rat.divInt_mul_divInt,er];congr 1
 rw[eu,er,er]
 calc z.natAbs*u.natAbs<=(2^b*Q^d)*(2^c*Q^e):=aX h1 h2
  _=2^b*2^c*(Q^d*Q^e):=by ac_rfl
theorem Cl.mono{Q d b e:Nat}{x:Rat}(h0:0<Q)(h:Cl Q d b x)(hd:d<=e)(hb:b<=c):Cl Q e c x:=by
 obtain⟨z,rfl,h1⟩:=h;obtain⟨k,rfl⟩:=Nat.le.dest hd;have hq:((Q^d:Nat):Int)≠0:=tD (eR (n:=d) h0);have hk:((Q^k:Nat):Int)≠0:=tD (eR (n:=k) h0);refine⟨z*((Q^k:Nat):Int),?_,?_⟩
 ·rw[er,ic,ep hk]
 rw[eu,er,bA,<-fe];exact aX (aT h1 (fB _ (Nat.pow_le_pow_right tF hb))) (aY _)
def Cl.neg{Q d b:Nat}{x:Rat}(h:Cl Q d b x):Cl Q d b (-x):=by
 obtain⟨z,rfl,h1⟩:=h;exact⟨-z,by rw[Rat.neg_divInt],by rw[Int.natAbs_neg];exact h1⟩
theorem Cl.JW{Q d b:Nat}{x:Rat}(h0:0<Q)(h:Cl Q d b x):JW x<=b+d*sz (Q:Int)+2:=by
 obtain⟨z,rfl,h1⟩:=h;have hq:((Q^d:Nat):Int)≠0:=tD (eR (n:=d) h0);refine aT (Vl hq) ?_;have e:((Q^d:Nat):Int)=(Q:Int)^d:=Int.natCast_pow Q d;have h2:sz ((Q^d:Nat):Int)<=d*sz (Q:Int)+1:=by rw[e];exact DR _ _
 have h3:sz z<=b+1+sz ((Q^d:Nat):Int):=by
  refine aT (KX (b:=((2^b:Nat):Int)*((Q^d:Nat):Int)) (by rw[eu,bA,bA];exact h1)) ?_;refine aT (K8 _ _) (Nat.add_le_add_right ?_ _);rw[XD,bA];exact Nat.pow_lt_pow_right tF O
 omega
theorem Cl.of{Q:Nat}(x:Rat)(h0:0<Q)(h:x.den ∣ Q){b:Nat}(hb:sz x.num<=b):Cl Q 1 b x:=by
 obtain⟨k,rfl⟩:=h;have hk:0<k:=Nat.pos_of_mul_pos_left h0 |> λ_=>fI (by rintro rfl;simp at h0)
 have a:(k:Int)≠0:=O;refine⟨x.num*k,?_,?_⟩
 ·rw[iE,ic,ep a,Rat.num_divInt_den]
 rw[iE,eu,bA];have h1:=(XD x.num b).1 hb;have h2:k<=x.den*k:=Nat.le_mul_of_pos_left k x.den_pos;exact aX O h2
def XC(a b:XP):XP:=(Dv a.1 b.1,Gx a.2 b.2)
def DJ(f:XP->XP->XP)(a b:List XP):List XP:=(ai a.length).map λi=>f (el a i) (el b i)
def Lt(a b:XP):Bool:=decide (Yw b.1 a.1<=0)&&decide (Yw a.2 b.2<=0)
def Ir(a b:List XP):Bool:=(ai a.length).all λi=>Lt (el a i) (el b i)
def Jx(l:List XP):Bool:=l.any λs=>Jh s.1||Jh s.2
def YP(rs:List (List Tm))(fr t2:Rat)(x on:List XP):List XP:=(ai x.length).map λi=>Vz (el x i) (Jg (0,t2-fr) (J3 ((fr,t2)::on) (el rs i)))
def SM(b:Int)(v n:XP):XP :=
 Z7 ((XC v n).1-(((XC v n).2-(XC v n).1)*aU 1 4+(((two b:Int):Rat))⁻¹),(XC v n).2+(((XC v n).2-(XC v n).1)*aU 1 4+(((two b:Int):Rat))⁻¹)) b
def D1(rs:List (List Tm))(fr t2:Rat)(x:List XP)(b:Int):Nat->List XP->Option (List XP)
 |0,_=>none
 |k+1,v=>if Jx v=true then none else
  if Ir (YP rs fr t2 x v) v=true then some ((YP rs fr t2 x v).map (Z7 · b))else D1 rs fr t2 x b k (DJ (SM b) v (YP rs fr t2 x v))
def Yu(rs:List (List Tm))(fr t2:Rat)(x:List XP)(b:Int):Option (List XP) :=
 D1 rs fr t2 x b 12 (DJ (λu v=>Z7 (XC u v) b) x (YP rs fr t2 x x))
def B0(l:List XP)(h:Rat)(i:Nat):XP:=(ai i).foldl (λs k=>Vz s (Jg (el l k) (h^k,h^k))) (0,0)
def Yc(rs:List (List Tm))(fr t2:Rat)(x on:List XP)(n:Nat):List XP :=
 (ai x.length).map λi=>Vz (B0 (el (J1 rs (fr,fr) x n) i) (t2-fr) (n+1)) (Jg (el (el (J1 rs (fr,t2) on (n+1)) i) (n+1)) ((t2-fr)^(n+1),(t2-fr)^(n+1)))
def KR(rs:List (List Tm))(fr t2:Rat)(x:List XP)(n:Nat)(b:Int):Option (List XP×List XP) :=
 (Yu rs fr t2 x b).map λw=>(w,(Yc rs fr t2 x w n).map (Z7 · b))
def Gl(rs:List (List Tm))(n:Nat)(b:Int):Rat->List XP->List Rat->Option (List (Rat×List XP×List XP))
 |_,_,[]=>some []
 |fr,x,e::es=>match KR rs fr e x n b with
  |none=>none
  |some (w,l)=>(Gl rs n b e l es).map λr=>(e,w,l)::r
theorem J6:Z5 prog 38=some (true,3):=tE
theorem jk:XI prog 38=some [.slice none 0 0,.slice none 0 0,.slice none 0 0]:=tE
theorem cD:Zx prog 38=some [(0,1),(1,1),(2,1)]:=tE
theorem Hj:Yv prog 38 0=some (0,34):=tE
theorem VY:Yv prog 38 1=some (1,35):=tE
theorem YM:Yv prog 38 2=some (2,36):=tE
theorem Sk:Gp prog 45=some 36:=tE
theorem EC:Gp prog 77=some 123:=tE
theorem X8:Z5 prog 123=some (true,3):=tE
theorem Wt:XI prog 123=some [.string .empty,.slice none 0 0,.slice none 0 0]:=tE
theorem QCM:ZK prog 123=some 64:=tE
theorem RF:Zx prog 123=some [(0,1),(1,1),(2,1)]:=tE
theorem Ec:Yv prog 123 0=some (0,22):=tE
theorem Ub:Yv prog 123 1=some (1,36):=tE
theorem N6:Yv prog 123 2=some (2,36):=tE
theorem QAb:Z5 prog 163=some (false,1):=tE
theorem W9:Gp prog 163=some 173:=tE
theorem Qk:Z5 prog 168=some (true,8):=tE
theorem Jk:XI prog 168=some [.int .i64 0,.slice none 0 0,.int .i64 0,.slice none 0 0,.int .i64 0,.slice none 0 0,.int .i64 0,.slice none 0 0]:=tE
theorem Wh:ZK prog 168=some 128:=tE
theorem Z2:Zx prog 168=some [(0,4),(4,4)]:=tE
theorem Xu:Yv prog 168 0=some (0,135):=tE
theorem Xt:Yv prog 168 1=some (4,135):=tE
theorem JH:Z5 prog 170=some (false,1):=tE
theorem QEL:XI prog 170=some [.slice none 0 0]:=tE
theorem JO:Gp prog 170=some 168:=tE
theorem XK:Z5 prog 173=some (true,1):=tE
theorem WT:XI prog 173=some [.slice none 0 0]:=tE
theorem QCK:ZK prog 173=some 24:=tE
theorem zD:Zx prog 173=some [(0,1)]:=tE
theorem Xk:Yv prog 173 0=some (0,170):=tE
theorem Hv:Z5 prog 183=some (true,9):=tE
theorem OM:XI prog 183=some [.int .i64 0,.slice none 0 0,.int .i64 0,.slice none 0 0,.int .i64 0,.slice none 0 0,.int .i64 0,.slice none 0 0,.slice none 0 0]:=tE
theorem zC:Zx prog 183=some [(0,4),(4,4),(8,1)]:=tE
theorem Bl:Yv prog 183 0=some (0,135):=tE
theorem Bk:Yv prog 183 1=some (4,135):=tE
theorem Bj:Yv prog 183 2=some (8,170):=tE
theorem QEK:XI prog 188=some [.slice none 0 0,.slice none 0 0]:=tE
theorem QBN:Zx prog 188=some [(0,1),(1,1)]:=tE
theorem Bi:Yv prog 188 0=some (0,186):=tE
theorem pY:Yv prog 188 1=some (1,170):=tE
theorem Tr:Gp prog 216=some 218:=tE
theorem KW:Z5 prog 218=some (true,2):=tE
theorem Mn:XI prog 218=some [.slice none 0 0,.slice none 0 0]:=tE
theorem QCJ:ZK prog 218=some 48:=tE
theorem zB:Zx prog 218=some [(0,1),(1,1)]:=tE
theorem pX:Yv prog 218 0=some (0,170):=tE
theorem CN:Yv prog 218 1=some (1,170):=tE
theorem Gk:Z5 prog 276=some (true,5):=tE
theorem SY:XI prog 276=some [.slice none 0 0,.slice none 0 0,.slice none 0 0,.int .i64 0,.slice none 0 0]:=tE
theorem QBM:Zx prog 276=some [(0,3),(3,1),(4,1)]:=tE
theorem pW:Yv prog 276 1=some (3,3):=tE
theorem Ua:Yv prog 276 2=some (4,186):=tE
theorem P1:Gp prog 312=some 170:=tE
section
open Go Go.RowKit Ig
section
variable[Dr][df:Df]{P:Program}{Q:Exit->Act->World->Prop}{N:Nat}{m:Sl}{l:List Oper}{w0:World}{F0:Gs}{bs bs0:List (Nat×Obj)}{G G0:Gs->Prop}
def W8:List Nat->List (List Nat)
 |[]=>[[]]
 |i::A=>(W8 A).map (i::·)++W8 A
def Hr(l:List Oper)(r u:List Nat):List Nat:=(ai l.length).filter λi=>r.contains i||u.contains i
def uF(l:List Oper)(i:Nat):Option (Nat×TypeId):=match l[i]? with
 |some ⟨some d,.alloc T,_,_,_,none⟩=>some (d,T)
 |_=>none
def dI(l:List Oper)(i:Nat):Nat:=((uF l i).getD (0,0)).1
def tI(l:List Oper)(i:Nat):TypeId:=((uF l i).getD (0,0)).2
def zI(P:Program)(l:List Oper)(i:Nat):Obj:=.cells ((XI P (tI l i)).getD []).toArray (tI l i) (0,0)
def qm(P:Program)(N:Nat)(l:List Oper)(i:Nat):Bool:=(uF l i).isSome&&(XI P (tI l i)).isSome&&Hi (tI l i)&&J5 N (some (dI l i))
def DW(b:Nat):Value:=.pointer (some ⟨b,0,none⟩)
def okB(l:List Oper)(A r:List Nat)(k:Nat):Bool:=(W8 A).all λu=>(EH l (Hr l r u)).isNone&&((Hr l r u).filter (GA l (Hr l r u))).all (λi=>u.contains i||aE i k)&&u.all (λi=>(Hr l r u).contains i&&((Hr l r u).erase i==Hr l r (u.erase i))&&(W8 A).contains (u.erase i))&&((Hr l r u).erase k==Hr l (r.erase k) u)&&!(Hr l r u).isEmpty
def QFL(l:List Oper)(A r:List Nat)(i:Nat):Bool:=(W8 A).all λu=>!(u.contains i)||((EH l (Hr l r u)).isNone&&((Hr l r u).filter (GA l (Hr l r u))).all (λj=>u.contains j)&&u.all (λj=>(Hr l r u).contains j&&((Hr l r u).erase j==Hr l r (u.erase j))&&(W8 A).contains (u.erase j))&&!(Hr l r u).isEmpty)
def mxI(l:List Oper)(A u:List Nat)(β:Nat->Nat):Sl:=(A.filter λi=>!(u.contains i)).map λi=>(dI l i,DW (β i))
def kz(P:Program)(l:List Oper)(A u:List Nat)(β:Nat->Nat):List (Nat×Obj):=(A.filter λi=>!(u.contains i)).map λi=>(β i,zI P l i)
def KT(P:Program)(l:List Oper)(Q:Exit->Act->World->Prop)(b:World->Prop)(A r:List Nat)(N:Nat)(m:Sl)(w0:World)(F0:Gs)(bs:List (Nat×Obj))(G:Gs->Prop):Prop :=
 ∀(u:List Nat) (β:Nat->Nat) (a:Act) (w:World),u∈W8 A->Ja N m a->(∀i∈A,i∉u->Ja N [(dI l i,DW (β i))] a)->St ⟨w0,F0,kz P l A u β++bs,G⟩ w->BI P l Q b (Hr l r u).length (Hr l r u) a w
theorem Ja.Sz{a:Act}(h:Ja N m a){d:Nat}(hd:J5 N (some d)=true)(v:Value)(hm:look m d=none):Ja N m (a.put (some d) v):=by
 have h1:=h.put hd v;refine⟨h1.size,h1.df,λt x ht=>h1.get t x ?_⟩;show(bif aE d t then some v else look m t)=some x;have:aE d t=false:=by
  cases e:aE d t with
  |false=>rfl
  |true=>have:=aF e;subst this;rw[hm]at ht;cases ht
 rw[this];exact ht
theorem Wb{d t:Nat}{v:Value}:look [(d,v)] t=(bif aE d t then some v else none):=rfl
theorem D6:∀ {A u:List Nat},u∈W8 A->∀i∈u,i∈A
 |[],u,h,i,hi=>by simp only[W8,eB]at h;subst h;cases hi
 |a::A,u,h,i,hi=>by
  simp only[W8,bV,eH]at h;rcases h with ⟨v,b,rfl⟩ | h
  ·rcases List.mem_cons.1 hi with rfl | hi
   ·simp
   exact aq _ (D6 b i hi)
  exact aq _ (D6 h i hi)
theorem WW:∀ {A u:List Nat},A.Nodup->u∈W8 A->u.Nodup
 |[],u,_,h=>by simp only[W8,eB]at h;subst h;exact ee
 |a::A,u,b,h=>by
  rw[fV]at b;simp only[W8,bV,eH]at h;rcases h with ⟨v,c,rfl⟩ | h
  ·rw[fV];exact⟨λhm=>b.1 (D6 c a hm),WW b.2 c⟩
  exact WW b.2 h
theorem Si:∀A:List Nat,A∈W8 A
 |[]=>by simp[W8]
 |a::A=>by simp only[W8,bV,eH];exact .inl ⟨A,Si A,rfl⟩
theorem EZ{i:Nat}(b:A.Nodup)(hu:u.Nodup)(a:i∈A)(hi:i∈u):(A.filter λj=>!((u.erase i).contains j)).Perm (i::A.filter λj=>!(u.contains j)):=by
 refine(eX (b.filter _) (List.nodup_cons.2 ⟨λh=>?_,b.filter _⟩)).2 λj=>?_
 ·have:=(List.mem_filter.1 h).2;simp[hi]at this
 rw[ay,fW,fW];simp only[aO,aJ,decide_eq_false_iff_not];rw[hu.mem_erase_iff];by_cases e:j=i
 ·subst e;simp[a]
 simp[e]
theorem IA{a:Act}(hA:A.Nodup)(hinj:∀j∈A,∀k∈A,dI l j=dI l k->j=k)(hB:∀j∈A,qm P N l j=true/\look m (dI l j)=none)
  (h0:bs0.Sublist bs) (hg0:∀F,G F->G0 F) (hu:u∈W8 A) (hi:i∈u) (ha:Ja N m a) (hx:∀i∈A,i∉u->Ja N [(dI l i,DW (β i))] a) (hw:St ⟨w0,F0,kz P l A u β++bs,G⟩ w) {R:Act->World->Prop}
  (k:∀β' a' w',Ja N m a'->(∀j∈A,j∉u.erase i->Ja N [(dI l j,DW (β' j))] a')->St ⟨w0,F0,kz P l A (u.erase i) β'++bs,G⟩ w'->R a' w') :
  wpOp P l.toArray (λ_ _ _=>False) i (λa' w'=>St ⟨w0,F0,bs0,G0⟩ w'/\R a' w') a w:=by
 have hiA:=D6 hu i hi;have hun:=WW hA hu;obtain⟨hb,hm⟩:=hB i hiA;simp only[qm,ae]at hb;obtain⟨⟨⟨h1,h2⟩,h3⟩,h4⟩:=hb;obtain⟨⟨d,T⟩,e⟩:=Option.isSome_iff_exists.1 h1;have ed:dI l i=d:=by unfold dI;rw[e];rfl
 have et:tI l i=T:=by unfold tI;rw[e];rfl
 obtain⟨z,ez⟩:=Option.isSome_iff_exists.1 h2;rw[et]at ez h3;rw[ed]at h4 hm;unfold uF at e;split at e
 ·rename_i d' T' ty pos aft he;simp only[Option.some.injEq,eW]at e;obtain⟨rfl,rfl⟩:=e;have ho':l.toArray[i]?=some ⟨some d',.alloc T',ty,pos,aft,none⟩:=by simpa using he
  have hS:=hw.alloc (.cells z.toArray T' (0,0)) (ZN h3);unfold wpOp;simp only[ho'];rw[if_pos (by simp[Region.wanted])];refine .inl (upon_value (Mt ez) ⟨hS.imp ((h0.trans (bm _ _)).trans (List.sublist_cons_self _ _)) hg0,?_⟩);refine k (λj=>if j=i then w.heap.size else β j) _ _ (ha.Sz h4 _ hm) (λj hj hju=>?_) ?_
  ·by_cases ej:j=i
   ·subst ej;rw[if_pos rfl,ed];have:=(ha.put h4 (DW w.heap.size));refine⟨this.size,this.df,λt x ht=>this.get t x ?_⟩;rw[Wb]at ht;show(bif aE d' t then some _ else look m t)=some x;cases e2:aE d' t with
    |true=>rw[e2]at ht;exact ht
    |false=>rw[e2]at ht;cases ht
   rw[if_neg ej];refine(hx j hj λh=>hju ((hun.mem_erase_iff).2 ⟨ej,h⟩)).Sz h4 _ ?_;rw[Wb];have:aE (dI l j) d'=false:=by
    cases e2:aE (dI l j) d' with
    |false=>rfl
    |true=>exact absurd (hinj j hj i hiA ((aF e2).trans ed.symm)) ej
   rw[this];rfl
  refine hS.perm ?_;have hp:=(EZ hA hun hiA hi).map λj=>((if j=i then w.heap.size else β j),zI P l j);have e3:(fu (λj=>((if j=i then w.heap.size else β j),zI P l j)) (i::A.filter λj=>!(u.contains j)))=(w.heap.size,Obj.cells z.toArray T' (0,0))::kz P l A u β:=by
   rw[af,if_pos rfl];have eA:zI P l i=Obj.cells z.toArray T' (0,0):=by unfold zI;rw[et,ez];rfl
   rw[eA];refine congrArg (_::·) ?_;unfold kz;refine List.map_congr_left λj hj=>?_;have:j≠i:=λe=>by subst e;have:=(List.mem_filter.1 hj).2;simp[hi]at this
   rw[if_neg this]
  rw[e3]at hp;exact(hp.symm.append_right bs)
 cases e
theorem BH:∀(x y:Sl) (t:Nat),look (x++y) t=(look x t).or (look y t)
 |[],_,_=>rfl
 |(s,v)::x,y,t=>by
  show(bif aE s t then some v else look (x++y) t)=(bif aE s t then some v else look x t).or (look y t);cases aE s t with
  |true=>rfl
  |false=>exact BH x y t
theorem zT{a:Act}(ha:Ja N m a)(hx:∀i∈A,i∉u->Ja N [(dI l i,DW (β i))] a):Ja N (m++mxI l A u β) a:=by
 refine⟨ha.size,ha.df,λt v ht=>?_⟩;rw[BH]at ht;cases e:look m t with
 |some k=>rw[e]at ht;exact ha.get t v (by rw[e];exact ht)
 |none =>
  rw[e,eQ]at ht;unfold mxI at ht;have:∀B:List Nat,(∀i∈B,i∈A/\i∉u)->look (B.map λi=>(dI l i,DW (β i))) t=some v->a.tmps[t]?=some v:=by
   intro B
   induction B with
   |nil=>intro _ h;cases h
   |cons j B f =>
    intro b h;rw[af]at h;have c:(bif aE (dI l j) t then some (DW (β j))else look (B.map λi=>(dI l i,DW (β i))) t)=some v:=h;cases g:aE (dI l j) t with
    |true =>
     rw[g]at c;exact(hx j (b j tJ).1 (b j tJ).2).get t v (by rw[Wb,g];exact c)
    |false=>rw[g]at c;exact f (λi hi=>b i (by simp[hi])) c
  exact this _ (λi hi=>⟨(List.mem_filter.1 hi).1,by have:=(List.mem_filter.1 hi).2;simpa using this⟩) ht
theorem O7{a:Act}{nw:Sl}(f:∀j∈A,∀k∈A,dI l j=dI l k->j=k)(y:∀j∈A,look m (dI l j)=none)(c:∀j∈A,look nw (dI l j)=none)(b:Ja N (nw++(m++mxI l A u β)) a):Ja N (nw++m) a/\∀i∈A,i∉u->Ja N [(dI l i,DW (β i))] a:=by
 refine⟨⟨b.size,b.df,λt v ht=>b.get t v ?_⟩,λj n s=>⟨b.size,b.df,λt v ht=>b.get t v ?_⟩⟩
 ·rw[<-bP,BH,ht];rfl
 rw[Wb]at ht;cases w:aE (dI l j) t with
 |false=>rw[w]at ht;cases ht
 |true =>
  rw[w]at ht;have z:=aF w;subst z;rw[BH,c j n,eQ,BH,y j n,eQ];unfold mxI;have:∀B:List Nat,j∈B->(∀i∈B,i∈A)->look (B.map λi=>(dI l i,DW (β i))) (dI l j)=some (DW (β j)):=by
   intro B
   induction B with
   |nil=>intro h;cases h
   |cons i B o =>
    intro h g;show(bif aE (dI l i) (dI l j)then some (DW (β i))else look (B.map λi=>(dI l i,DW (β i))) (dI l j))=_;cases x:aE (dI l i) (dI l j)with
    |true=>rw[f i (g i tJ) j n (aF x)];rfl
    |false =>
     rcases List.mem_cons.1 h with rfl | h
     ·simp at x
     exact o h λi hi=>g i (by simp[hi])
  rw[this _ (List.mem_filter.2 ⟨n,by simpa using s⟩) (λi hi=>(List.mem_filter.1 hi).1)];exact ht
theorem Cc{r:List Nat}(k:Nat){o:Oper}{γ:Type}{new:γ->Sl}{bs1:γ->List (Nat×Obj)}{G1:γ->Gs->Prop}(E:okB l A r k=true)(V:A.Nodup)(g:∀j∈A,∀k∈A,dI l j=dI l k->j=k)(U:∀j∈A,qm P N l j=true/\look m (dI l j)=none)
  (h0:bs0.Sublist bs) (C:∀F,G F->G0 F) (ho:l[k]?=some o) (hq:J2 o.op=false) (hkA:k∉A) (z:∀c,∀j∈A,look (new c) (dI l j)=none)
  (y:∀(mX:Sl) (X:List (Nat×Obj)) (K:Act->World->Prop),(∀c a w,Ja N (new c++(m++mX)) a->St ⟨w0,F0,X++bs1 c,G1 c⟩ w->K a w)->JD P l.toArray (ZV K) ⟨w0,F0,bs0,G0⟩ [o] N (m++mX) ⟨w0,F0,X++bs,G⟩)
  (hk:∀c,KT P l Q (St ⟨w0,F0,bs0,G0⟩) A (r.erase k) N (new c++m) w0 F0 (bs1 c) (G1 c)):KT P l Q (St ⟨w0,F0,bs0,G0⟩) A r N m w0 F0 bs G:=by
 intro u;generalize hn:u.length=n
 induction n using fZ generalizing u with
 |ind n ih =>
  intro β a w hu ha hx T;have f:=List.all_eq_true.1 E u hu;simp only[ae,aO]at f;obtain⟨⟨⟨⟨c1,c2⟩,c3⟩,Z⟩,Y⟩:=f;have hun:=WW V hu;obtain⟨x,s,es⟩:=bh (show Hr l r u≠[]from λe=>by rw[e]at Y;cases Y);rw[show(Hr l r u).length=s.length+1 by rw[es];rfl];unfold BI;rw[Option.isNone_iff_eq_none.1 c1];intro i hi D;have h2:=List.all_eq_true.1 c2 i (List.mem_filter.2 ⟨hi,D⟩);simp only[bz,aJ,decide_eq_true_eq]at h2;have B:s.length=((Hr l r u).erase i).length:=by rw[aG hi,es];rfl
  rw[B];by_cases b:i∈u
  ·have h3:=List.all_eq_true.1 c3 i b;simp only[ae,aJ,decide_eq_true_eq,beq_iff_eq]at h3;rw[h3.1.2];refine IA V g U h0 C hu b ha hx T λβ' S w' M L H=>?_;exact ih _ (by rw[<-hn,aG b];have:=bT b;omega) (u.erase i) rfl β' S w' h3.2 M L H
  have R:i=k:=aF (h2.resolve_left b);subst R;rw[beq_iff_eq]at Z;rw[Z];refine Pk (r':=Hr l (r.erase i) u) (Q:=Q) (E0:=⟨w0,F0,bs0,G0⟩) ho hq (y (mxI l A u β) (kz P l A u β) _ λc S w' M L=>?_) (λw h=>h.imp (h0.trans (bm _ _)) C) (zT ha hx) T;obtain⟨H,g4⟩:=O7 g (λj hj=>(U j hj).2) (z c) M;exact hk c u β S w' hu H g4 L
def qtB(l:List Oper)(A r:List Nat)(j:Nat):Bool:=(W8 A).all λu=>(EH l (Hr l r u)==some j)&&((Hr l r u).erase j==Hr l (r.erase j) u)&&!(Hr l r u).isEmpty&&(Hr l r u).contains j
theorem kV{r:List Nat}(j:Nat){o:Oper}{d:Nat}{v:Value}(n:qtB l A r j=true)(i:∀j∈A,∀k∈A,dI l j=dI l k->j=k)(E:∀j∈A,look m (dI l j)=none)(h0:bs0.Sublist bs)(y:∀F,G F->G0 F)(D:l[j]?=some o)(hq:J2 o.op=true)(f:∀j∈A,look [(d,v)] (dI l j)=none)
  (c:∀(mX:Sl) (X:List (Nat×Obj)) (K:Act->World->Prop),(∀a w,Ja N ((d,v)::(m++mX)) a->St ⟨w0,F0,X++bs,G⟩ w->K a w)->JD P l.toArray (ZV K) ⟨w0,F0,bs0,G0⟩ [o] N (m++mX) ⟨w0,F0,X++bs,G⟩)
  (hk:KT P l Q (St ⟨w0,F0,bs0,G0⟩) A (r.erase j) N ((d,v)::m) w0 F0 bs G):KT P l Q (St ⟨w0,F0,bs0,G0⟩) A r N m w0 F0 bs G:=by
 intro u β a w hu ha hx C;have b:=List.all_eq_true.1 n u hu;simp only[ae,aO,beq_iff_eq,aJ,decide_eq_true_eq]at b;obtain⟨⟨⟨c1,c2⟩,z⟩,S⟩:=b;obtain⟨x,s,es⟩:=bh (show Hr l r u≠[]from λe=>by rw[e]at z;cases z);have g:s.length=((Hr l r u).erase j).length:=by rw[aG S,es];rfl
 rw[show(Hr l r u).length=s.length+1 by rw[es];rfl];unfold BI;rw[c1];have h:=c (mxI l A u β) (kz P l A u β) (λa w=>BI P l Q (St ⟨w0,F0,bs0,G0⟩) s.length ((Hr l r u).erase j) a w) (λT w' R M=>by
  obtain⟨L,H⟩:=O7 (nw:=[(d,v)]) i E f R;rw[g,c2];exact hk u β T w' hu L H M) (λw h=>h.imp (h0.trans (bm _ _)) y) a w (zT ha hx) C
 rcases h with ⟨_,B,h1,h2⟩ | ⟨h1,_⟩
 ·exact⟨o,B,D,h1,h2⟩
 rw[hq]at h1;cases h1
theorem kW{r:List Nat}(i:Nat)(U:QFL l (i::A) r i=true)(H:(i::A).Nodup)(o:∀j∈i::A,∀k∈i::A,dI l j=dI l k->j=k)(V:∀j∈i::A,qm P N l j=true/\look m (dI l j)=none)
  (h0:bs0.Sublist bs) (E:∀F,G F->G0 F) {d:Nat} {z:Obj} (hd:dI l i=d) (hz:zI P l i=z) (hk:∀b,KT P l Q (St ⟨w0,F0,bs0,G0⟩) A r N ((d,.pointer (some ⟨b,0,none⟩))::m) w0 F0 ((b,z)::bs) G):KT P l Q (St ⟨w0,F0,bs0,G0⟩) (i::A) r N m w0 F0 bs G:=by
 subst hd hz;have T:=(List.nodup_cons.1 H).1;intro u;generalize S:u.length=n
 induction n using fZ generalizing u with
 |ind n ih =>
  intro β a w hu ha hx K;have M:=WW H hu;by_cases f:i∈u
  ·have g:=List.all_eq_true.1 U u hu;simp only[bz,aO,aJ,decide_eq_false_iff_not,f,not_true_eq_false,false_or,ae]at g;obtain⟨⟨⟨c1,c2⟩,c3⟩,L⟩:=g;obtain⟨x,s,es⟩:=bh (show Hr l r u≠[]from λe=>by rw[e]at L;cases L);rw[show(Hr l r u).length=s.length+1 by rw[es];rfl];unfold BI;rw[Option.isNone_iff_eq_none.1 c1];intro j y D;have c:=List.all_eq_true.1 c2 j (List.mem_filter.2 ⟨y,D⟩);simp only[decide_eq_true_eq]at c;have h3:=List.all_eq_true.1 c3 j c;simp only[ae,aJ,decide_eq_true_eq,beq_iff_eq]at h3;have h:s.length=((Hr l r u).erase j).length:=by rw[aG y,es];rfl
   rw[h,h3.1.2];refine IA H o V h0 E hu c ha hx K λβ' a' w' Z Y X=>?_;exact ih _ (by rw[<-S,aG c];have:=bT c;omega) (u.erase j) rfl β' a' w' h3.2 Z Y X
  have C:u∈W8 A:=by
   simp only[W8,bV,eH]at hu;rcases hu with ⟨v,_,rfl⟩ | hu
   ·exact absurd tJ f
   exact hu
  have R:=hx i tJ f;refine hk (β i) u β a w C ⟨ha.size,ha.df,λt v ht=>?_⟩ (λj y c=>hx j (by simp[y]) c) ?_
  ·have B:(bif aE (dI l i) t then some (DW (β i))else look m t)=some v:=ht;cases e:aE (dI l i) t with
   |true=>rw[e]at B;exact R.get t v (by rw[Wb,e];exact B)
   |false=>rw[e]at B;exact ha.get t v B
  refine K.perm ?_;unfold kz;rw[fP,if_pos (by simpa using f),af,ab];exact List.perm_middle.symm
theorem Kq{r R:List Nat}(hm:Hr l r A=R)(h:KT P l Q (St ⟨w0,F0,bs0,G0⟩) A r N m w0 F0 bs G):JT P l Q ⟨w0,F0,bs0,G0⟩ R N m ⟨w0,F0,bs,G⟩:=by
 subst hm;intro _ a w ha b;refine h A (λ_=>0) a w (Si A) ha (λi hi c=>absurd hi c) ?_;have:kz P l A A (λ_=>0)=[]:=by
  unfold kz;rw[List.filter_eq_nil_iff.2 (λi hi=>by simpa using hi)];rfl
 rw[this];exact b
theorem WL(h:Fin Q .normal N m ⟨w0,F0,bs,G⟩)(hm:Hr l [] []=[]){c:World->Prop}:KT P l (ZV (Q .normal)) c [] [] N m w0 F0 bs G:=by
 intro u β a w hu ha hx b;simp only[W8,eB]at hu;subst hu;rw[hm];exact h a w ha b
def Bu(P:Program)(N:Nat)(l:List Oper)(A:List Nat):Bool:=A.all (λj=>qm P N l j)&&A.all (λj=>A.all λk=>!(aE (dI l j) (dI l k))||aE j k)&&decide A.Nodup
def yD(l:List Oper)(m:Sl)(A:List Nat):Bool:=A.all λj=>!((m.map (·.1)).contains (dI l j))
theorem TI:∀ {m:Sl} {t:Nat},(m.map (·.1)).contains t=false->look m t=none
 |[],_,_=>rfl
 |(k,v)::m,t,h=>by
  rw[af,List.contains_cons,Bool.or_eq_false_iff]at h;show(bif aE k t then some v else look m t)=none;have:aE k t=false:=by
   cases e:aE k t with
   |false=>rfl
   |true=>have:=aF e;subst this;simp at h
  rw[this];exact TI h.2
theorem WC(h:Bu P N l A=true)(hk:yD l m A=true):A.Nodup/\(∀j∈A,∀k∈A,dI l j=dI l k->j=k)/\∀j∈A,qm P N l j=true/\look m (dI l j)=none:=by
 simp only[Bu,ae,decide_eq_true_eq]at h;obtain⟨⟨h1,h2⟩,h3⟩:=h;refine⟨h3,λj a k hk e=>?_,λj a=>⟨List.all_eq_true.1 h1 j a,TI ?_⟩⟩
 ·have h4:=List.all_eq_true.1 (List.all_eq_true.1 h2 j a) k hk;rw[e]at h4;simpa using h4
 have h4:=List.all_eq_true.1 hk j a;simpa using h4
section
variable{A r:List Nat}{ty:TypeId}{pos:String}{aft:Array Edge}
theorem XQ(k:Nat){d:Nat}{f:FuncId}{args:Array Operand}{h:Array TypeId}{vs:List Value}{γ:Type}{val:γ->Value}{a:γ->Gs->Prop}(i:okB l A r k=true)(g:Bu P N l A=true)(b:yD l m A=true)(h0:bs0.Sublist bs)(o:∀F,G F->G0 F)
  (x:l[k]?=some ⟨some d,.call ⟨.value (.func f),args,h⟩,ty,pos,aft,none⟩) (n:A.contains k=false) (s:A.all (λj=>!(aE d (dI l j)))=true) (u:∀mX,E3 (m++mX) args.toList=some vs) (hc:∀w F,Fits F w->G F->QU P f vs w F val a)
  (hk:∀c,KT P l Q (St ⟨w0,F0,bs0,G0⟩) A (r.erase k) N ((d,val c)::m) w0 F0 bs λF=>G F/\a c F) (hd:J5 N (some d)=true:=by rfl):KT P l Q (St ⟨w0,F0,bs0,G0⟩) A r N m w0 F0 bs G:=by
 obtain⟨D,C,B⟩:=WC g b;refine Cc (γ:=γ) (new:=λc=>[(d,val c)]) (bs1:=λ_=>bs) (G1:=λc F=>G F/\a c F) k i D C B h0 o x rfl (by simpa using n) (λc j y=>?_) (λmX X K z=>QR (u mX) hc (λc=>OI (z c)) hd) hk;have:=List.all_eq_true.1 s j y;rw[Wb];simp only[aO]at this;rw[this];rfl
theorem qz(j:Nat){d:Nat}{o:Op}{v:Value}(f:qtB l A r j=true)(b:Bu P N l A=true)(a:yD l m A=true)(h0:bs0.Sublist bs)(h:∀F,G F->G0 F)(k:l[j]?=some ⟨some d,o,ty,pos,aft,none⟩)(i:A.all (λj=>!(aE d (dI l j)))=true)
  (c:∀mX,Qt P N (m++mX) (St ⟨w0,F0,bs0,G0⟩) o ty v) (hk:KT P l Q (St ⟨w0,F0,bs0,G0⟩) A (r.erase j) N ((d,v)::m) w0 F0 bs G) (hq:J2 o=true:=by rfl) (hd:J5 N (some d)=true:=by rfl):KT P l Q (St ⟨w0,F0,bs0,G0⟩) A r N m w0 F0 bs G:=by
 obtain⟨w,u,s⟩:=WC b a;refine kV j f u (λj g=>(s j g).2) h0 h k hq (λj g=>?_) (λmX X K n=>QK (c mX) (OI n) hq hd) hk;have:=List.all_eq_true.1 i j g;rw[Wb];simp only[aO]at this;rw[this];rfl
theorem Hm.skip{l r:List (Nat×Obj)}{b:Nat}{o:Obj}{f:Obj->List (Nat×Obj)}(h:Hm l b o f r):∀p:List (Nat×Obj),Hm (p++l) b o (λo'=>p++f o') (p++r)
 |[]=>h
 |_::p=>.there (h.skip p)
theorem Zv(k:Nat){T T':TypeId}{x y:Operand}{v:Value}{b off n:Nat}{c vs o:List Value}{g:Bool}{f:Obj->List (Nat×Obj)}{bs':List (Nat×Obj)}(s:okB l A r k=true)(i:Bu P N l A=true)(a:yD l m A=true)(h0:bs0.Sublist bs)(h:∀F,G F->G0 F)
  (C:l[k]?=some ⟨none,.store T x y,ty,pos,aft,none⟩) (u:A.contains k=false) (hx:∀mX,ev (m++mX) x=some (.pointer (some ⟨b,off,none⟩))) (hy:∀mX,ev (m++mX) y=some v) (z:v.cells=vs.toArray) (ht:Z5 P T=some (g,n)) (D:vs.length=n)
  (w:Hm bs b (.cells c.toArray T' (0,0)) f bs') (B:bs0.Sublist bs') (hp:VG c off vs o) (h1:RM vs) (hk:KT P l Q (St ⟨w0,F0,bs0,G0⟩) A (r.erase k) N m w0 F0 (f (.cells o.toArray T' (0,0))) G) (hu:Hi T'=true:=by rfl):KT P l Q (St ⟨w0,F0,bs0,G0⟩) A r N m w0 F0 bs G:=by
 obtain⟨M,L,H⟩:=WC i a;exact Cc (γ:=Unit) (new:=λ_=>[]) (bs1:=λ_=>f (.cells o.toArray T' (0,0))) (G1:=λ_=>G) k s M L H h0 h C rfl (by simpa using u) (λ_ j R=>rfl)
  (λmX X K E=>JV (hx mX) (hy mX) z ht D (w.skip X) (B.trans (bm _ _)) h hp h1 (OI (E ())) hu) λ_=>hk
theorem VH(i:Nat)(g:QFL l (i::A) r i=true)(c:Bu P N l (i::A)=true)(a:yD l m (i::A)=true)(h0:bs0.Sublist bs)(f:∀F,G F->G0 F){d:Nat}{z:List Value}{T:TypeId}(hd:dI l i=d)(ht:tI l i=T)(hz:XI P T=some z)
  (hk:∀b,KT P l Q (St ⟨w0,F0,bs0,G0⟩) A r N ((d,.pointer (some ⟨b,0,none⟩))::m) w0 F0 ((b,.cells z.toArray T (0,0))::bs) G):KT P l Q (St ⟨w0,F0,bs0,G0⟩) (i::A) r N m w0 F0 bs G:=by
 obtain⟨k,j,h⟩:=WC c a;exact kW i g k j h h0 f hd (by unfold zI;rw[ht,hz];rfl) hk
end
end
end
theorem BV(b:Int):(((2:Int):Rat))^b.toNat=((two b:Int):Rat):=by
 unfold two;generalize b.toNat=n
 induction n with
 |zero=>rfl
 |succ n ih=>rw[aN,ih,iy,fY]
def zP(r:Rat×Rat)(b:Int):Z7 r b=(((r.1*(((2:Int):Rat))^b.toNat).floor:Rat)/(((2:Int):Rat))^b.toNat,((-(-(r.2*(((2:Int):Rat))^b.toNat)).floor:Int):Rat)/(((2:Int):Rat))^b.toNat):=by
 unfold Z7;rw[BV,eK,eK]
def UJ(x y:Rat):UK x y=Dv x y:=by
 unfold UK Dv;by_cases h:y<x
 ·rw[if_pos ((V9 y x).2 h),if_neg (by rw[N8];exact Rat.not_le.2 h)]
 rw[if_neg (by rw[V9];exact h),if_pos ((N8 x y).2 (Rat.not_lt.1 h))]
def US(x y:Rat):E2 x y=Gx x y:=by
 unfold E2 Gx;by_cases h:x<y
 ·rw[if_pos ((K3 y x).2 h),if_neg (tD<|(V9 x y).2 h)]
 rw[if_neg (by rw[K3];exact h),if_pos (by have h2:=mt (V9 x y).1 h;omega)]
def ML(a:Rat×Rat):Rat:=[-a.1,a.1,-a.2].foldl E2 a.2
def gH(x:Rat):JW ((x.floor:Int):Rat)<=JW x+1:=by
 have:=GK x.floor;have:=Px x;omega
def gI(x:Rat):JW ((-(-x).floor:Int):Rat)<=JW x+1:=by
 have h1:=GK (-(-x).floor);rw[Vm]at h1;have:=Px (-x);rw[Vh]at this;omega
def KU{P:α->Prop}{a:α}(h:P a):∀p∈[a],P p:=λp hp=>by rw[List.mem_singleton.1 hp];exact h
def Es{P:α->Prop}{a b c:α}(h:P a)(k:P b)(l:P c):∀p∈[a,b,c],P p:=λp hp=>by
 simp only[ay,aI,or_false]at hp;rcases hp with rfl | rfl | rfl
 ·exact h
 ·exact k
 exact l
theorem Kc{x:Fr}{r:Rat}(b:Fits F w)(h:JR F x r):Xp prog 147 [x.v] w F (r,r):=by
 refine QU.intro (G:=λF=>JR F x r) func147 rfl tH rfl rfl b (λF' a=>h.le a)<|wa<|Qp rfl (vs:=[_,_,_,_]) rfl λb1=>Qc Jk λb2=>wY<|wa<|QA (wP I QS .u1)<|QA (wP I QS .u1)<|QA (Q4 rfl Z2 Jk (.cons (vs:=[_,_,_,_]) rfl rfl rfl .h4 (.cons (vs:=[_,_,_,_]) rfl rfl rfl (.skip (.skip (.skip (.skip .h4)))) .nil)))<|QW (vs:=[_,_,_,_,_,_,_,_]) rfl rfl rfl Qk rfl .here .h8 w8<|wY<|QX ?_
 exact QP (⟨x,x⟩) I (.JX (c:=[_,_,_,_,_,_,_,_]) I Qk .here .nil) (rfl) λF h=>⟨h,h⟩
theorem CP{lo hi:List UInt8}(g:Fits F w)(a:JE F)(h1:Jp lo=0)(h2:Jp hi=0)(l:lo.length<=1000000/\hi.length<=1000000):Xp prog 113 [.agg #[tx lo,tx hi]] w F (Qz lo,Qz hi):=by
 refine QU.intro (G:=λF=>JE F) func113 rfl tH rfl rfl g (λF' b=>a.le b)<|wa<|Qp rfl (vs:=[_,_]) rfl λb1=>Qc Jk λb2=>wY<|QG<|JG (.cons _ tP) mixed tE<|QK (QH rfl V6 JF)<|QK (Qe rfl JF .here .h1)<|QR rfl (λ_ _ f k=>Ki (s:=lo) (r:=Qz lo) f k (XM h1).1 O) λj=>QK (QH rfl We JF)<|QK (Qe rfl JF .here (.skip .h1))<|QR rfl (λ_ _ f k=>Ki (s:=hi) (r:=Qz hi) f k.1 (XM h2).1 O) λi=>QK (Q4 rfl Z2 Jk (.cons (vs:=[_,_,_,_]) rfl rfl rfl .h4 (.cons (vs:=[_,_,_,_]) rfl rfl rfl (.skip (.skip (.skip (.skip .h4)))) .nil)))<|JV (vs:=[_,_,_,_,_,_,_,_]) rfl rfl rfl Qk rfl .here tP (λ_ h=>h.1.1) .h8 w8<|Q7<|QC<|QX ?_
 exact QP (⟨j,i⟩) I (.JX (c:=[_,_,_,_,_,_,_,_]) I Qk .here .nil) (rfl) λF h9=>⟨h9.1.2,h9.2⟩
theorem pZ{x:Sp}(j:Fits F w)(i:JE F)(h:Jl F x a)(b:Xf a 100000000):Qf prog 210 [x.v] w F (.agg #[tx (JP a.1),tx (JP a.2)]):=by
 refine QU.intro (G:=λF=>JE F/\Jl F x a) func210 rfl tH rfl rfl j (λF' g=>⟨i.le g,h.le g⟩)<|wa<|Qp rfl (vs:=[_,_,_,_,_,_,_,_]) rfl λb1=>Qc Xa λb2=>wY<|QG<|JG (.cons _ tP) mixed tE<|QK (QH rfl Xu QS)<|QK (wP I QS .here)<|QR rfl (λ_ _ f k=>N3 (x:=x.lo) (r:=a.1) f k.1 k.2.1 b.1) λ_=>QK (QH rfl Xt QS)<|QK (wR I QS .here)<|QR rfl (λ_ _ f k=>N3 (x:=x.hi) (r:=a.2) f k.1.1 k.1.2.2 b.2) λ_=>QK (Q4 rfl Zb Xa (wV rfl rfl rfl))<|JV (vs:=[_,_]) rfl rfl rfl Jd rfl .here tP (λ_ h=>h.1.1) .h2 wm<|Q7<|QC<|QX ?_
 exact QP (()) I (.JX (c:=[_,_]) I Jd .here .nil) (rfl) tL
theorem Fp{x:Sp}(j:Fits F w)(i:JE F)(h:Jl F x a)(c:Xf a 100000000):Qf prog 209 [x.v] w F (.bool (Jh a.1||Jh a.2)):=by
 refine QU.intro (G:=λF=>JE F/\Jl F x a) func209 rfl tH rfl rfl j (λF' g=>⟨i.le g,h.le g⟩)<|wa<|Qp rfl (vs:=[_,_,_,_,_,_,_,_]) rfl λb1=>wZ rfl<|wa<|QA (QH rfl Xu QS)<|QA (wP I QS .here)<|QI rfl (λ_ _ f k=>EX (x:=x.lo) (r:=a.1) f k.1 k.2.1 c.1) λ_=>wW rfl ?_
 refine Qn (t:=6) rfl (λb=>?_) λb=>?_
 ·refine wD 8 I ?_;exact wg I I (congrArg bI (by rw[b,Bool.true_or])) tL
 refine QL I I<|QA (QH I Xt QS)<|QL I I<|QA (wR I QS .here)<|QL I I<|QI I (λ_ _ f k=>EX (x:=x.hi) (r:=a.2) f k.1.1 k.1.2.2 c.2) λ_=>wD 5 I ?_
 exact wg I I (congrArg bI (by rw[b,fc])) tL
theorem MW{x y:Sp}(n:Fits F w)(h:Jl F x a)(o:Jl F y b)(i:Xf a 100000000)(g:Xf b 100000000):Xp prog 216 [x.v,y.v] w F (Vz a b):=by
 refine QU.intro (G:=λF=>Jl F x a/\Jl F y b) func216 rfl tH rfl rfl n (λF' j=>⟨h.le j,o.le j⟩)<|wa<|Qp rfl (vs:=[_,_,_,_,_,_,_,_]) rfl λb2=>Qp rfl (vs:=[_,_,_,_,_,_,_,_]) rfl λb3=>Qc Jk λb4=>wY<|QG<|JG (.cons _ tP) mixed tE<|QK (QH rfl Xu QS)<|QK (wP I QS .u1)<|QK (QH rfl Xu QS)<|QK (wP I QS .here)<|QR rfl (λ_ _ f k=>De (x:=x.lo) (y:=y.lo) f k.1.1 k.2.1 i.1 g.1) λs=>QK (QH rfl Xt QS)<|QK (wR I QS .u1)<|QK (QH rfl Xt QS)<|QK (wR I QS .here)<|QR rfl (λ_ _ f k=>De (x:=x.hi) (y:=y.hi) f k.1.1.2 k.1.2.2 i.2 g.2) λm=>QK (Q4 rfl Z2 Jk (.cons (vs:=[_,_,_,_]) rfl rfl rfl .h4 (.cons (vs:=[_,_,_,_]) rfl rfl rfl (.skip (.skip (.skip (.skip .h4)))) .nil)))<|JV (vs:=[_,_,_,_,_,_,_,_]) rfl rfl rfl Qk rfl .here tP (λ_ h=>h.1.1) .h8 w8<|Q7<|QC<|QX ?_
 exact QP (⟨s,m⟩) I (.JX (c:=[_,_,_,_,_,_,_,_]) I Qk .here .nil) (rfl) λF ⟨⟨⟨z,u⟩,h9⟩,l⟩=>⟨h9,l⟩
theorem Ud{x y:Sp}(D:Fits F w)(h:Jl F x a)(E:Jl F y b)(u:Xf a 20000000)(s:Xf b 20000000):Xp prog 219 [x.v,y.v] w F (Jg a b):=by
 have R:=YN a.1 b.1;have Q:=YN a.1 b.2;have P:=YN a.2 b.1;have N:=YN a.2 b.2;have M:=u.1;have L:=u.2;have K:=s.1;have H:=s.2;refine QU.intro (G:=λF=>Jl F x a/\Jl F y b) func219 rfl tH rfl rfl D (λF' z=>⟨h.le z,E.le z⟩)<|wa<|Qp rfl (vs:=[_,_,_,_,_,_,_,_]) rfl λb2=>Qp rfl (vs:=[_,_,_,_,_,_,_,_]) rfl λb3=>Qc Jk λb4=>wY<|QG<|Kr (r:=[0,1,2,3,4,5,6,7,8,9,10,11,12,13,14,15,16,17,18,19,20,21,22,23,24,25,26,27]) tP mixed tE rfl<|Jr 0 tE rfl rfl<|QK (QH rfl Xu QS)<|JC<|Jr 1 tE rfl rfl<|QK (wP I QS .u2)<|JC<|Jr 2 tE rfl rfl<|QK (QH rfl Xu QS)<|JC<|Jr 3 tE rfl rfl<|QK (wP I QS .u1)<|JC<|Jr 5 tE rfl rfl<|QK (QH rfl Xu QS)<|JC ?_
 refine Jr 6 tE rfl rfl<|QK (wP I QS .u2)<|JC<|Jr 7 tE rfl rfl<|QK (QH I Xt QS)<|JC<|Jr 8 tE rfl rfl<|QK (wR I QS .u1)<|JC<|Jr 10 tE rfl rfl<|QK (QH I Xt QS)<|JC<|Jr 11 tE rfl rfl<|QK (wR I QS .u2)<|JC<|Jr 12 tE rfl rfl<|QK (QH I Xu QS)<|JC<|Jr 13 tE rfl rfl<|QK (wP I QS .u1)<|JC<|Jr 15 tE rfl rfl<|QK (QH I Xt QS)<|JC<|Jr 16 tE rfl rfl ?_
 refine QK (wR I QS .u2)<|JC<|Jr 17 tE rfl rfl<|QK (QH I Xt QS)<|JC<|Jr 18 tE rfl rfl<|QK (wR I QS .u1)<|JC<|Kq (A:=[20,21,22,23]) (r:=[4,9,14,19,24,25,26,27]) tE<|XQ 4 tE tE tH tP tM rfl rfl rfl (λ_=>rfl) (λ_ _ f k=>GD (x:=x.lo) (y:=y.lo) f k.1.1 k.2.1 O O) λl=>XQ 9 tE tE tH tP tN rfl rfl rfl (λ_=>rfl) (λ_ _ f k=>GD (x:=x.lo) (y:=y.hi) f k.1.1.1 k.1.2.2 O O) λj=>XQ 14 tE tE tH tP (λ_ h=>h.1.1) rfl rfl rfl (λ_=>rfl) (λ_ _ f k=>GD (x:=x.hi) (y:=y.lo) f k.1.1.1.2 k.1.1.2.1 O O) λi=>XQ 19 tE tE tH tP (λ_ h=>h.1.1.1) rfl rfl rfl (λ_=>rfl) (λ_ _ f k=>GD (x:=x.hi) (y:=y.hi) f k.1.1.1.1.2 k.1.1.1.2.2 O O) λg=>VH 20 (d:=5) (T:=135) tE tE tH tP (λ_ h=>h.1.1.1.1) tE tE Jw λX=>VH 21 (d:=6) (T:=135) tE tE tH (.cons _ tP) (λ_ h=>h.1.1.1.1) tE tE Jw λV=>VH 22 (d:=7) (T:=135) tE tE tH (.cons _ (.cons _ tP)) (λ_ h=>h.1.1.1.1) tE tE Jw λU=>VH 23 (d:=8) (T:=135) tE tE tH (.cons _ (.cons _ (.cons _ tP))) (λ_ h=>h.1.1.1.1) tE tE Jw λS=>Zv (vs:=[_,_,_,_]) 24 tE tE tH (.cons _ (.cons _ (.cons _ (.cons _ tP)))) (λ_ h=>h.1.1.1.1) rfl rfl (λ_=>rfl) (λ_=>rfl) rfl QS I .u3 (.cons _ (.cons _ (.cons _ tP))) .h4 wv<|Zv (vs:=[_,_,_,_]) 25 tE tE tH (.cons _ (.cons _ (.cons _ (.cons _ tP)))) (λ_ h=>h.1.1.1.1) rfl rfl (λ_=>rfl) (λ_=>rfl) rfl QS I .u2 (.cons _ (.cons _ (.cons _ tP))) .h4 wv<|Zv (vs:=[_,_,_,_]) 26 tE tE tH (.cons _ (.cons _ (.cons _ (.cons _ tP)))) (λ_ h=>h.1.1.1.1) rfl rfl (λ_=>rfl) (λ_=>rfl) rfl QS I .u1 (.cons _ (.cons _ (.cons _ tP))) .h4 wv<|Zv (vs:=[_,_,_,_]) 27 tE tE tH (.cons _ (.cons _ (.cons _ (.cons _ tP)))) (λ_ h=>h.1.1.1.1) rfl rfl (λ_=>rfl) (λ_=>rfl) rfl QS I .here (.cons _ (.cons _ (.cons _ tP))) .h4 wv ?_
 refine WL ?_ tE;refine QC<|QG<|Kr (r:=[0,1,2,3,4,5,6,7,8,9,10,11,12,13]) (.cons_cons _ (.cons_cons _ (.cons_cons _ (.cons_cons _ (.cons _ tP))))) mixed tE rfl<|Jr 0 tE rfl rfl<|QK (wP I QS .u3)<|JC<|Jr 1 tE rfl rfl<|QK (wP I QS .u2)<|JC<|Jr 2 tE rfl rfl<|QK (wP I QS .u1)<|JC<|Jr 3 tE rfl rfl<|QK (wP I QS .here)<|JC<|Jr 6 tE rfl rfl<|QK (wP I QS .u3)<|JC<|Jr 7 tE rfl rfl<|QK (wP I QS .u2)<|JC<|Jr 8 tE rfl rfl<|QK (wP I QS .u1)<|JC<|Jr 9 tE rfl rfl ?_
 refine QK (wP I QS .here)<|JC ?_
 refine NO 4 10 tE tE rfl rfl rfl rfl rfl rfl ?_ ?_
 ·refine Qo I (Q5 Xb) QS Jw I I (λC=>?_) (λw h=>h.imp (.cons_cons _ (.cons_cons _ (.cons_cons _ (.cons_cons _ (.cons _ tP))))) tM);refine JC ?_;refine NO 5 10 tE tE rfl rfl rfl rfl rfl rfl ?_ ?_
  ·refine QR I (λ_ _ f k=>V5 (x:=l) (r:=a.1*b.1) (ps:=[(j,a.1*b.2),(i,a.2*b.1),(g,a.2*b.2)]) f k.1.1.1.1.2 (Qy.of (n:=3) (sz:=4) (cs:=ak (λe:Fr×Rat=>Kj e.1) [(j,a.1*b.2),(i,a.2*b.1),(g,a.2*b.2)]) k.2 I) (Es k.1.1.1.2 k.1.1.2 k.1.2) rfl tF ⟨O,Es (show JW (a.1*b.2)<=100000000 by omega) (show JW (a.2*b.1)<=100000000 by omega) (show JW (a.2*b.2)<=100000000 by omega)⟩) (λo=>JC<|Xe 10 tE tE rfl rfl rfl ?_);refine Qo I (Q5 Xb) QS Jw I I (λB=>?_) (λw h=>h.imp (.cons_cons _ (.cons_cons _ (.cons_cons _ (.cons_cons _ (.cons _ tP))))) λF h=>h.1.1);refine JC<|Xe 11 tE tE rfl rfl rfl<|QR I (λ_ _ f k=>Xo (x:=l) (r:=a.1*b.1) (ps:=[(j,a.1*b.2),(i,a.2*b.1),(g,a.2*b.2)]) f k.1.1.1.1.1.1.2 (Qy.of (n:=3) (sz:=4) (cs:=ak (λe:Fr×Rat=>Kj e.1) [(j,a.1*b.2),(i,a.2*b.1),(g,a.2*b.2)]) k.2 I) (Es k.1.1.1.1.1.2 k.1.1.1.1.2 k.1.1.1.2) rfl tF ⟨O,Es (show JW (a.1*b.2)<=100000000 by omega) (show JW (a.2*b.1)<=100000000 by omega) (show JW (a.2*b.2)<=100000000 by omega)⟩) λm=>JC<|Jr 12 tE rfl rfl<|QK (Q4 I Z2 Jk (.cons (vs:=[_,_,_,_]) I I I .h4 (.cons (vs:=[_,_,_,_]) I I I (.skip (.skip (.skip (.skip .h4)))) .nil)))<|JC<|Xe 13 tE tE rfl rfl rfl<|JV (vs:=[_,_,_,_,_,_,_,_]) I I I Qk I .u4 tP (λ_ h=>h.1.1.1.1) .h8 w8<|JC<|Yk<|QC<|QX ?_
   exact QP (⟨o,m⟩) I (.JX (c:=[_,_,_,_,_,_,_,_]) I Qk .u4 .nil) (rfl) λF h9=>by unfold Jg;rw[ZO];exact⟨h9.1.1.2,h9.2⟩
  refine Qo I (Q5 Xb) QS Jw I I (λB=>?_) (λw h=>h.imp (.cons_cons _ (.cons_cons _ (.cons_cons _ (.cons_cons _ (.cons _ tP))))) tN);refine JC<|Xe 5 tE tE rfl rfl rfl<|QR I (λ_ _ f k=>V5 (x:=l) (r:=a.1*b.1) (ps:=[(j,a.1*b.2),(i,a.2*b.1),(g,a.2*b.2)]) f k.1.1.1.1.1.2 (Qy.of (n:=3) (sz:=4) (cs:=ak (λe:Fr×Rat=>Kj e.1) [(j,a.1*b.2),(i,a.2*b.1),(g,a.2*b.2)]) k.1.2 I) (Es k.1.1.1.1.2 k.1.1.1.2 k.1.1.2) rfl tF ⟨O,Es (show JW (a.1*b.2)<=100000000 by omega) (show JW (a.2*b.1)<=100000000 by omega) (show JW (a.2*b.2)<=100000000 by omega)⟩) λo=>JC<|Xe 11 tE tE rfl rfl rfl<|QR I (λ_ _ f k=>Xo (x:=l) (r:=a.1*b.1) (ps:=[(j,a.1*b.2),(i,a.2*b.1),(g,a.2*b.2)]) f k.1.1.1.1.1.1.2 (Qy.of (n:=3) (sz:=4) (cs:=ak (λe:Fr×Rat=>Kj e.1) [(j,a.1*b.2),(i,a.2*b.1),(g,a.2*b.2)]) k.1.2 I) (Es k.1.1.1.1.1.2 k.1.1.1.1.2 k.1.1.1.2) rfl tF ⟨O,Es (show JW (a.1*b.2)<=100000000 by omega) (show JW (a.2*b.1)<=100000000 by omega) (show JW (a.2*b.2)<=100000000 by omega)⟩) λm=>JC<|Jr 12 tE rfl rfl<|QK (Q4 I Z2 Jk (.cons (vs:=[_,_,_,_]) I I I .h4 (.cons (vs:=[_,_,_,_]) I I I (.skip (.skip (.skip (.skip .h4)))) .nil)))<|JC<|Xe 13 tE tE rfl rfl rfl<|JV (vs:=[_,_,_,_,_,_,_,_]) I I I Qk I .u4 tP (λ_ h=>h.1.1.1.1) .h8 w8<|JC<|Yk<|QC<|QX ?_
  exact QP (⟨o,m⟩) I (.JX (c:=[_,_,_,_,_,_,_,_]) I Qk .u4 .nil) (rfl) λF h9=>by unfold Jg;rw[ZO];exact⟨h9.1.2,h9.2⟩
 refine Qo I (Q5 Xb) QS Jw I I (λB=>?_) (λw h=>h.imp (.cons_cons _ (.cons_cons _ (.cons_cons _ (.cons_cons _ (.cons _ tP))))) tM);refine JC<|Xe 4 tE tE rfl rfl rfl ?_
 refine Qo I (Q5 Xb) QS Jw I I (λC=>?_) (λw h=>h.imp (.cons_cons _ (.cons_cons _ (.cons_cons _ (.cons_cons _ (.cons _ tP))))) tN);refine JC<|Xe 5 tE tE rfl rfl rfl<|QR I (λ_ _ f k=>V5 (x:=l) (r:=a.1*b.1) (ps:=[(j,a.1*b.2),(i,a.2*b.1),(g,a.2*b.2)]) f k.1.1.1.1.1.2 (Qy.of (n:=3) (sz:=4) (cs:=ak (λe:Fr×Rat=>Kj e.1) [(j,a.1*b.2),(i,a.2*b.1),(g,a.2*b.2)]) k.2 I) (Es k.1.1.1.1.2 k.1.1.1.2 k.1.1.2) rfl tF ⟨O,Es (show JW (a.1*b.2)<=100000000 by omega) (show JW (a.2*b.1)<=100000000 by omega) (show JW (a.2*b.2)<=100000000 by omega)⟩) λo=>JC<|Xe 11 tE tE rfl rfl rfl<|QR I (λ_ _ f k=>Xo (x:=l) (r:=a.1*b.1) (ps:=[(j,a.1*b.2),(i,a.2*b.1),(g,a.2*b.2)]) f k.1.1.1.1.1.1.2 (Qy.of (n:=3) (sz:=4) (cs:=ak (λe:Fr×Rat=>Kj e.1) [(j,a.1*b.2),(i,a.2*b.1),(g,a.2*b.2)]) k.1.1.2 I) (Es k.1.1.1.1.1.2 k.1.1.1.1.2 k.1.1.1.2) rfl tF ⟨O,Es (show JW (a.1*b.2)<=100000000 by omega) (show JW (a.2*b.1)<=100000000 by omega) (show JW (a.2*b.2)<=100000000 by omega)⟩) λm=>JC<|Jr 12 tE rfl rfl<|QK (Q4 I Z2 Jk (.cons (vs:=[_,_,_,_]) I I I .h4 (.cons (vs:=[_,_,_,_]) I I I (.skip (.skip (.skip (.skip .h4)))) .nil)))<|JC<|Xe 13 tE tE rfl rfl rfl<|JV (vs:=[_,_,_,_,_,_,_,_]) I I I Qk I .u4 tP (λ_ h=>h.1.1.1.1) .h8 w8<|JC<|Yk<|QC<|QX ?_
 exact QP (⟨o,m⟩) I (.JX (c:=[_,_,_,_,_,_,_,_]) I Qk .u4 .nil) (rfl) λF h9=>by unfold Jg;rw[ZO];exact⟨h9.1.2,h9.2⟩
theorem Rg{x:Sp}{y:Fr}{r:Rat}(l:Fits F w)(h:Jl F x a)(m:JR F y r)(j:Xf a 20000000)(g:JW r<=20000000):Xp prog 208 [x.v,y.v] w F (Jg a (r,r)):=by
 refine QU.intro (G:=λF=>Jl F x a/\JR F y r) func208 rfl tH rfl rfl l (λF' i=>⟨h.le i,m.le i⟩)<|wa<|Qp rfl (vs:=[_,_,_,_,_,_,_,_]) rfl λb2=>Qp rfl (vs:=[_,_,_,_]) rfl λb3=>Qc Jk λb4=>wY<|QG<|JG (.cons _ tP) mixed tE<|QK (wQ I Qk .u1)<|QK (wP I QS .here)<|QR rfl (λ_ _ f k=>Kc (x:=y) (r:=r) f k.2) λo=>QR rfl (λ_ _ f k=>Ud (x:=x) (y:=o) (a:=a) (b:=(r,r)) f k.1.1 k.2 j ⟨g,g⟩) λn=>JV (vs:=[_,_,_,_,_,_,_,_]) rfl rfl rfl Qk rfl .here tP (λ_ h=>h.1.1) .h8 w8<|Q7<|QC<|QX ?_
 exact QP (n) rfl (.JX (c:=[_,_,_,_,_,_,_,_]) I Qk .here .nil) (rfl) tO
theorem ye{x:Sp}{n:Int}(M:Fits F w)(h:Jl F x a)(H:0<=n/\n<=12)(B:Xf a 1000000):Xp prog 220 [x.v,.int .i64 n] w F (Y5 a n):=by
 obtain⟨L,K⟩:=B;have N:=VP a.1 n.toNat;have p2:=VP a.2 n.toNat;have Q:n.toNat*JW a.1<=12*1000000:=aX O L;have P:n.toNat*JW a.2<=12*1000000:=aX O K;refine QU.intro (G:=λF=>Jl F x a) func220 rfl tH rfl rfl M (λF' C=>h.le C)<|wa<|Qp rfl (vs:=[_,_,_,_,_,_,_,_]) rfl λb2=>Qc Jk λb4=>wY<|QG<|Kr (r:=[0,1,2,3,4,5,6,7,8,9,10,11]) tP mixed tE rfl<|Jr 0 tE rfl rfl<|QK (QH rfl Xu QS)<|JC<|Jr 1 tE rfl rfl<|QK (wP I QS .u1)<|JC<|Jr 2 tE rfl rfl<|QK (QD rfl)<|JC<|Jr 4 tE rfl rfl<|QK (QH rfl Xt QS)<|JC<|Jr 5 tE rfl rfl<|QK (wR I QS .u1)<|JC<|Jr 6 tE rfl rfl ?_
 refine QK (QD I)<|JC<|Kq (A:=[8,9]) (r:=[3,7,10,11]) tE<|XQ 3 tE tE tH tP tM rfl rfl rfl (λ_=>rfl) (λ_ _ f h=>MR (x:=x.lo) (r:=a.1) (k:=n) f h.1 H.1 O O) λi=>XQ 7 tE tE tH tP tN rfl rfl rfl (λ_=>rfl) (λ_ _ f h=>MR (x:=x.hi) (r:=a.2) (k:=n) f h.1.2 H.1 O O) λg=>VH 8 (d:=5) (T:=135) tE tE tH tP (λ_ h=>h.1.1) tE tE Jw λS=>VH 9 (d:=6) (T:=135) tE tE tH (.cons _ tP) (λ_ h=>h.1.1) tE tE Jw λR=>Zv (vs:=[_,_,_,_]) 10 tE tE tH (.cons _ (.cons _ tP)) (λ_ h=>h.1.1) rfl rfl (λ_=>rfl) (λ_=>rfl) rfl QS I .u1 (.cons _ tP) .h4 wv<|Zv (vs:=[_,_,_,_]) 11 tE tE tH (.cons _ (.cons _ tP)) (λ_ h=>h.1.1) rfl rfl (λ_=>rfl) (λ_=>rfl) rfl QS I .here (.cons _ tP) .h4 wv ?_
 refine WL ?_ tE;refine QC<|QG ?_
 refine ZZ [(4,_),(5,_),(6,_)] [(33,.bool ((decide (n>0)&&(decide (n%2=0)&&(decide (Dm a.1.num<0)&&decide (Dm a.2.num>0))))))] wu ?_ ?_
 ·refine wA 2 I<|QA (H9 I I O O)<|wB 2 I ?_
  refine Qn (t:=18) rfl (λy=>?_) λy=>?_
  ·refine wB 6 I ?_;refine Qn (t:=22) rfl (λu=>?_) λu=>?_
   ·refine QL I I<|QA (QH I Xu QS)<|QL I I<|QA (wP I QS .u3)<|QL I I<|QI I (λ_ _ f k=>UW (x:=x.lo) (r:=a.1) f k.1.1.1) λ_=>wB 4 I ?_
    refine Qn (t:=28) rfl (λs=>?_) λs=>?_
    ·refine QL I I<|QA (QH I Xt QS)<|QL I I<|QA (wR I QS .u3)<|QL I I<|QI I (λ_ _ f k=>UW (x:=x.hi) (r:=a.2) f k.1.1.1.2) λ_=>wB 4 I ?_
     exact JY ⟨rfl,rfl,rfl,(congrArg (λb=>some (bI b)) (by rw[ba];simp_all<;>(intros;omega))),trivial⟩ we λ_ h=>h.1.1
    refine wB 6 I ?_;exact JY ⟨rfl,rfl,rfl,(congrArg (λb=>some (bI b)) (by rw[ba];simp_all<;>(intros;omega))),trivial⟩ we tN
   refine wB 12 I ?_;exact JY ⟨rfl,rfl,rfl,(congrArg (λb=>some (bI b)) (by rw[ba];simp_all<;>(intros;omega))),trivial⟩ we tM
  refine wB 16 I ?_;exact JY ⟨rfl,rfl,rfl,(congrArg (λb=>some (bI b)) (by rw[ba];simp_all<;>(intros;omega))),trivial⟩ we tM
 simp only[ab,ag];refine QQ I (λhc=>?_) λhc=>?_
 ·refine QG<|Kr (r:=[0,1,2,3,4,5,6]) (.cons_cons _ (.cons_cons _ (.cons _ tP))) mixed tE rfl<|Jr 1 tE rfl rfl<|QK (wP I QS .u1)<|JC<|Jr 2 tE rfl rfl<|QK (wP I QS .here)<|JC ?_
  refine NO 0 3 tE tE rfl rfl rfl rfl rfl rfl ?_ ?_
  ·refine QR I (λ_ _ f k=>TN (n:=0) f tF tF) (λo=>JC<|Xe 3 tE tE rfl rfl rfl ?_);refine Qo I (Q5 Xb) QS Jw I I (λE=>?_) (λw h=>h.imp (.cons_cons _ (.cons_cons _ (.cons _ tP))) tN);refine JC<|Xe 4 tE tE rfl rfl rfl<|QR I (λ_ _ f k=>Xo (x:=i) (r:=a.1^n.toNat) (ps:=[(g,a.2^n.toNat)]) f k.1.1.1.2 (Qy.of (n:=1) (sz:=4) (cs:=ak (λe:Fr×Rat=>Kj e.1) [(g,a.2^n.toNat)]) k.2 I) (KU k.1.1.2) rfl tF ⟨O,KU (show JW (a.2^n.toNat)<=100000000 by omega)⟩) λm=>JC<|Jr 5 tE rfl rfl<|QK (Q4 I Z2 Jk (.cons (vs:=[_,_,_,_]) I I I .h4 (.cons (vs:=[_,_,_,_]) I I I (.skip (.skip (.skip (.skip .h4)))) .nil)))<|JC<|Xe 6 tE tE rfl rfl rfl<|JV (vs:=[_,_,_,_,_,_,_,_]) I I I Qk I .u2 tP (λ_ h=>h.1.1.1) .h8 w8<|JC<|Yk<|QC<|QX ?_
   exact QP (⟨o,m⟩) I (.JX (c:=[_,_,_,_,_,_,_,_]) I Qk .u2 .nil) (rfl) λF h9=>by unfold Y5;rw[if_pos hc,ZO];exact⟨h9.1.1.2,h9.2⟩
  refine Qo I (Q5 Xb) QS Jw I I (λE=>?_) (λw h=>h.imp (.cons_cons _ (.cons_cons _ (.cons _ tP))) tM);refine JC<|Xe 0 tE tE rfl rfl rfl<|QR I (λ_ _ f k=>TN (n:=0) f tF tF) λo=>JC<|Xe 4 tE tE rfl rfl rfl<|QR I (λ_ _ f k=>Xo (x:=i) (r:=a.1^n.toNat) (ps:=[(g,a.2^n.toNat)]) f k.1.1.1.2 (Qy.of (n:=1) (sz:=4) (cs:=ak (λe:Fr×Rat=>Kj e.1) [(g,a.2^n.toNat)]) k.1.2 I) (KU k.1.1.2) rfl tF ⟨O,KU (show JW (a.2^n.toNat)<=100000000 by omega)⟩) λm=>JC<|Jr 5 tE rfl rfl<|QK (Q4 I Z2 Jk (.cons (vs:=[_,_,_,_]) I I I .h4 (.cons (vs:=[_,_,_,_]) I I I (.skip (.skip (.skip (.skip .h4)))) .nil)))<|JC<|Xe 6 tE tE rfl rfl rfl<|JV (vs:=[_,_,_,_,_,_,_,_]) I I I Qk I .u2 tP (λ_ h=>h.1.1.1) .h8 w8<|JC<|Yk<|QC<|QX ?_
  exact QP (⟨o,m⟩) I (.JX (c:=[_,_,_,_,_,_,_,_]) I Qk .u2 .nil) (rfl) λF h9=>by unfold Y5;rw[if_pos hc,ZO];exact⟨h9.1.2,h9.2⟩
 refine wC 3 I<|Kr (r:=[0,1,2,3,4,5,6,7,8,9]) (.cons_cons _ (.cons_cons _ (.cons _ tP))) mixed tE rfl<|Jr 0 tE rfl rfl<|QK (wP I QS .u1)<|JC<|Jr 1 tE rfl rfl<|QK (wP I QS .here)<|JC<|Jr 4 tE rfl rfl<|QK (wP I QS .u1)<|JC<|Jr 5 tE rfl rfl<|QK (wP I QS .here)<|JC ?_
 refine NO 2 6 tE tE rfl rfl rfl rfl rfl rfl ?_ ?_
 ·refine Qo I (Q5 Xb) QS Jw I I (λD=>?_) (λw h=>h.imp (.cons_cons _ (.cons_cons _ (.cons _ tP))) tM);refine JC ?_;refine NO 3 6 tE tE rfl rfl rfl rfl rfl rfl ?_ ?_
  ·refine QR I (λ_ _ f k=>V5 (x:=i) (r:=a.1^n.toNat) (ps:=[(g,a.2^n.toNat)]) f k.1.1.2 (Qy.of (n:=1) (sz:=4) (cs:=ak (λe:Fr×Rat=>Kj e.1) [(g,a.2^n.toNat)]) k.2 I) (KU k.1.2) rfl tF ⟨O,KU (show JW (a.2^n.toNat)<=100000000 by omega)⟩) (λl=>JC<|Xe 6 tE tE rfl rfl rfl ?_);refine Qo I (Q5 Xb) QS Jw I I (λz=>?_) (λw h=>h.imp (.cons_cons _ (.cons_cons _ (.cons _ tP))) λF h=>h.1.1);refine JC<|Xe 7 tE tE rfl rfl rfl<|QR I (λ_ _ f k=>Xo (x:=i) (r:=a.1^n.toNat) (ps:=[(g,a.2^n.toNat)]) f k.1.1.1.1.2 (Qy.of (n:=1) (sz:=4) (cs:=ak (λe:Fr×Rat=>Kj e.1) [(g,a.2^n.toNat)]) k.2 I) (KU k.1.1.1.2) rfl tF ⟨O,KU (show JW (a.2^n.toNat)<=100000000 by omega)⟩) λj=>JC<|Jr 8 tE rfl rfl<|QK (Q4 I Z2 Jk (.cons (vs:=[_,_,_,_]) I I I .h4 (.cons (vs:=[_,_,_,_]) I I I (.skip (.skip (.skip (.skip .h4)))) .nil)))<|JC<|Xe 9 tE tE rfl rfl rfl<|JV (vs:=[_,_,_,_,_,_,_,_]) I I I Qk I .u2 tP (λ_ h=>h.1.1.1.1) .h8 w8<|JC<|Yk<|QC<|QX ?_
   exact QP (⟨l,j⟩) I (.JX (c:=[_,_,_,_,_,_,_,_]) I Qk .u2 .nil) (rfl) λF h9=>by unfold Y5;rw[if_neg (by rw[hc];decide),ZO];exact⟨h9.1.1.2,h9.2⟩
  refine Qo I (Q5 Xb) QS Jw I I (λz=>?_) (λw h=>h.imp (.cons_cons _ (.cons_cons _ (.cons _ tP))) tN);refine JC<|Xe 3 tE tE rfl rfl rfl<|QR I (λ_ _ f k=>V5 (x:=i) (r:=a.1^n.toNat) (ps:=[(g,a.2^n.toNat)]) f k.1.1.1.2 (Qy.of (n:=1) (sz:=4) (cs:=ak (λe:Fr×Rat=>Kj e.1) [(g,a.2^n.toNat)]) k.1.2 I) (KU k.1.1.2) rfl tF ⟨O,KU (show JW (a.2^n.toNat)<=100000000 by omega)⟩) λl=>JC<|Xe 7 tE tE rfl rfl rfl<|QR I (λ_ _ f k=>Xo (x:=i) (r:=a.1^n.toNat) (ps:=[(g,a.2^n.toNat)]) f k.1.1.1.1.2 (Qy.of (n:=1) (sz:=4) (cs:=ak (λe:Fr×Rat=>Kj e.1) [(g,a.2^n.toNat)]) k.1.2 I) (KU k.1.1.1.2) rfl tF ⟨O,KU (show JW (a.2^n.toNat)<=100000000 by omega)⟩) λj=>JC<|Jr 8 tE rfl rfl<|QK (Q4 I Z2 Jk (.cons (vs:=[_,_,_,_]) I I I .h4 (.cons (vs:=[_,_,_,_]) I I I (.skip (.skip (.skip (.skip .h4)))) .nil)))<|JC<|Xe 9 tE tE rfl rfl rfl<|JV (vs:=[_,_,_,_,_,_,_,_]) I I I Qk I .u2 tP (λ_ h=>h.1.1.1.1) .h8 w8<|JC<|Yk<|QC<|QX ?_
  exact QP (⟨l,j⟩) I (.JX (c:=[_,_,_,_,_,_,_,_]) I Qk .u2 .nil) (rfl) λF h9=>by unfold Y5;rw[if_neg (by rw[hc];decide),ZO];exact⟨h9.1.2,h9.2⟩
 refine Qo I (Q5 Xb) QS Jw I I (λz=>?_) (λw h=>h.imp (.cons_cons _ (.cons_cons _ (.cons _ tP))) tM);refine JC<|Xe 2 tE tE rfl rfl rfl ?_
 refine Qo I (Q5 Xb) QS Jw I I (λD=>?_) (λw h=>h.imp (.cons_cons _ (.cons_cons _ (.cons _ tP))) tN);refine JC<|Xe 3 tE tE rfl rfl rfl<|QR I (λ_ _ f k=>V5 (x:=i) (r:=a.1^n.toNat) (ps:=[(g,a.2^n.toNat)]) f k.1.1.1.2 (Qy.of (n:=1) (sz:=4) (cs:=ak (λe:Fr×Rat=>Kj e.1) [(g,a.2^n.toNat)]) k.2 I) (KU k.1.1.2) rfl tF ⟨O,KU (show JW (a.2^n.toNat)<=100000000 by omega)⟩) λl=>JC<|Xe 7 tE tE rfl rfl rfl<|QR I (λ_ _ f k=>Xo (x:=i) (r:=a.1^n.toNat) (ps:=[(g,a.2^n.toNat)]) f k.1.1.1.1.2 (Qy.of (n:=1) (sz:=4) (cs:=ak (λe:Fr×Rat=>Kj e.1) [(g,a.2^n.toNat)]) k.1.1.2 I) (KU k.1.1.1.2) rfl tF ⟨O,KU (show JW (a.2^n.toNat)<=100000000 by omega)⟩) λj=>JC<|Jr 8 tE rfl rfl<|QK (Q4 I Z2 Jk (.cons (vs:=[_,_,_,_]) I I I .h4 (.cons (vs:=[_,_,_,_]) I I I (.skip (.skip (.skip (.skip .h4)))) .nil)))<|JC<|Xe 9 tE tE rfl rfl rfl<|JV (vs:=[_,_,_,_,_,_,_,_]) I I I Qk I .u2 tP (λ_ h=>h.1.1.1.1) .h8 w8<|JC<|Yk<|QC<|QX ?_
 exact QP (⟨l,j⟩) I (.JX (c:=[_,_,_,_,_,_,_,_]) I Qk .u2 .nil) (rfl) λF h9=>by unfold Y5;rw[if_neg (by rw[hc];decide),ZO];exact⟨h9.1.2,h9.2⟩
theorem CR{x y:Sp}(s:Fits F w)(h:Jl F x a)(u:Jl F y b)(i:Xf a 100000000)(g:Xf b 100000000):Xp prog 170 [x.v,y.v] w F (XC a b):=by
 refine QU.intro (G:=λF=>Jl F x a/\Jl F y b) func170 rfl tH rfl rfl s (λF' m=>⟨h.le m,u.le m⟩)<|wa<|Qp rfl (vs:=[_,_,_,_,_,_,_,_]) rfl λb2=>Qp rfl (vs:=[_,_,_,_,_,_,_,_]) rfl λb3=>Qc Jk λb4=>wY<|QG<|Kr (r:=[0,1,2,3,4,5,6,7,8,9,10,11,12,13]) (.cons _ tP) mixed tE rfl<|Jr 0 tE rfl rfl<|QK (QH rfl Xu QS)<|JC<|Jr 1 tE rfl rfl<|QK (wP I QS .u1)<|JC<|Jr 2 tE rfl rfl<|QK (QH rfl Xu QS)<|JC<|Jr 3 tE rfl rfl<|QK (wP I QS .here)<|JC<|Jr 6 tE rfl rfl<|QK (QH rfl Xt QS)<|JC ?_
 refine Jr 7 tE rfl rfl<|QK (wR I QS .u1)<|JC<|Jr 8 tE rfl rfl<|QK (QH I Xt QS)<|JC<|Jr 9 tE rfl rfl<|QK (wR I QS .here)<|JC ?_
 refine NO 4 10 tE tE rfl rfl rfl rfl rfl rfl ?_ ?_
 ·refine Qo I (Q5 Xb) QS Jw I I (λz=>?_) (λw h=>h.imp (.cons _ tP) tM);refine JC ?_;refine NO 5 10 tE tE rfl rfl rfl rfl rfl rfl ?_ ?_
  ·refine QR I (λ_ _ f k=>V5 (x:=x.lo) (r:=a.1) (ps:=[(y.lo,b.1)]) f k.1.1.1 (Qy.of (n:=1) (sz:=4) (cs:=ak (λe:Fr×Rat=>Kj e.1) [(y.lo,b.1)]) k.2 I) (KU k.1.2.1) rfl tF ⟨i.1,KU g.1⟩) (λl=>JC<|Xe 10 tE tE rfl rfl rfl ?_);refine Qo I (Q5 Xb) QS Jw I I (λo=>?_) (λw h=>h.imp (.cons _ tP) λF h=>h.1.1);refine JC<|Xe 11 tE tE rfl rfl rfl<|QR I (λ_ _ f k=>Xo (x:=x.hi) (r:=a.2) (ps:=[(y.hi,b.2)]) f k.1.1.1.1.2 (Qy.of (n:=1) (sz:=4) (cs:=ak (λe:Fr×Rat=>Kj e.1) [(y.hi,b.2)]) k.2 I) (KU k.1.1.1.2.2) rfl tF ⟨i.2,KU g.2⟩) λj=>JC<|Jr 12 tE rfl rfl<|QK (Q4 I Z2 Jk (.cons (vs:=[_,_,_,_]) I I I .h4 (.cons (vs:=[_,_,_,_]) I I I (.skip (.skip (.skip (.skip .h4)))) .nil)))<|JC<|Xe 13 tE tE rfl rfl rfl<|JV (vs:=[_,_,_,_,_,_,_,_]) I I I Qk I .here tP (λ_ h=>h.1.1.1.1) .h8 w8<|JC<|Yk<|QC<|QX ?_
   exact QP (⟨l,j⟩) I (.JX (c:=[_,_,_,_,_,_,_,_]) I Qk .here .nil) (rfl) λF h9=>by unfold XC;rw[<-UJ,<-US];exact⟨h9.1.1.2,h9.2⟩
  refine Qo I (Q5 Xb) QS Jw I I (λo=>?_) (λw h=>h.imp (.cons _ tP) tN);refine JC<|Xe 5 tE tE rfl rfl rfl<|QR I (λ_ _ f k=>V5 (x:=x.lo) (r:=a.1) (ps:=[(y.lo,b.1)]) f k.1.1.1.1 (Qy.of (n:=1) (sz:=4) (cs:=ak (λe:Fr×Rat=>Kj e.1) [(y.lo,b.1)]) k.1.2 I) (KU k.1.1.2.1) rfl tF ⟨i.1,KU g.1⟩) λl=>JC<|Xe 11 tE tE rfl rfl rfl<|QR I (λ_ _ f k=>Xo (x:=x.hi) (r:=a.2) (ps:=[(y.hi,b.2)]) f k.1.1.1.1.2 (Qy.of (n:=1) (sz:=4) (cs:=ak (λe:Fr×Rat=>Kj e.1) [(y.hi,b.2)]) k.1.2 I) (KU k.1.1.1.2.2) rfl tF ⟨i.2,KU g.2⟩) λj=>JC<|Jr 12 tE rfl rfl<|QK (Q4 I Z2 Jk (.cons (vs:=[_,_,_,_]) I I I .h4 (.cons (vs:=[_,_,_,_]) I I I (.skip (.skip (.skip (.skip .h4)))) .nil)))<|JC<|Xe 13 tE tE rfl rfl rfl<|JV (vs:=[_,_,_,_,_,_,_,_]) I I I Qk I .here tP (λ_ h=>h.1.1.1.1) .h8 w8<|JC<|Yk<|QC<|QX ?_
  exact QP (⟨l,j⟩) I (.JX (c:=[_,_,_,_,_,_,_,_]) I Qk .here .nil) (rfl) λF h9=>by unfold XC;rw[<-UJ,<-US];exact⟨h9.1.2,h9.2⟩
 refine Qo I (Q5 Xb) QS Jw I I (λo=>?_) (λw h=>h.imp (.cons _ tP) tM);refine JC<|Xe 4 tE tE rfl rfl rfl ?_
 refine Qo I (Q5 Xb) QS Jw I I (λz=>?_) (λw h=>h.imp (.cons _ tP) tN);refine JC<|Xe 5 tE tE rfl rfl rfl<|QR I (λ_ _ f k=>V5 (x:=x.lo) (r:=a.1) (ps:=[(y.lo,b.1)]) f k.1.1.1.1 (Qy.of (n:=1) (sz:=4) (cs:=ak (λe:Fr×Rat=>Kj e.1) [(y.lo,b.1)]) k.2 I) (KU k.1.1.2.1) rfl tF ⟨i.1,KU g.1⟩) λl=>JC<|Xe 11 tE tE rfl rfl rfl<|QR I (λ_ _ f k=>Xo (x:=x.hi) (r:=a.2) (ps:=[(y.hi,b.2)]) f k.1.1.1.1.2 (Qy.of (n:=1) (sz:=4) (cs:=ak (λe:Fr×Rat=>Kj e.1) [(y.hi,b.2)]) k.1.1.2 I) (KU k.1.1.1.2.2) rfl tF ⟨i.2,KU g.2⟩) λj=>JC<|Jr 12 tE rfl rfl<|QK (Q4 I Z2 Jk (.cons (vs:=[_,_,_,_]) I I I .h4 (.cons (vs:=[_,_,_,_]) I I I (.skip (.skip (.skip (.skip .h4)))) .nil)))<|JC<|Xe 13 tE tE rfl rfl rfl<|JV (vs:=[_,_,_,_,_,_,_,_]) I I I Qk I .here tP (λ_ h=>h.1.1.1.1) .h8 w8<|JC<|Yk<|QC<|QX ?_
 exact QP (⟨l,j⟩) I (.JX (c:=[_,_,_,_,_,_,_,_]) I Qk .here .nil) (rfl) λF h9=>by unfold XC;rw[<-UJ,<-US];exact⟨h9.1.2,h9.2⟩
theorem qS{x y:Sp}(l:Fits F w)(h:Jl F x a)(m:Jl F y b)(i:Xf a 100000000)(g:Xf b 100000000):Qf prog 242 [x.v,y.v] w F (.bool (Lt a b)):=by
 refine QU.intro (G:=λF=>Jl F x a/\Jl F y b) func242 rfl tH rfl rfl l (λF' j=>⟨h.le j,m.le j⟩)<|wa<|Qp rfl (vs:=[_,_,_,_,_,_,_,_]) rfl λb2=>Qp rfl (vs:=[_,_,_,_,_,_,_,_]) rfl λb3=>wZ rfl<|wa<|QA (QH rfl Xu QS)<|QA (wP I QS .here)<|QA (QH rfl Xu QS)<|QA (wP I QS .u1)<|QI rfl (λ_ _ f k=>G3 (x:=y.lo) (y:=x.lo) (r:=b.1) (s:=a.1) f k.2.1 k.1.1 g.1 i.1) λ_=>QA (QT rfl rfl rfl)<|wW rfl ?_
 refine Qn (t:=11) rfl (λc=>?_) λc=>?_
 ·refine QL I I<|QA (QH I Xt QS)<|QL I I<|QA (wR I QS .u1)<|QL I I<|QA (QH I Xt QS)<|QL I I<|QA (wR I QS .here)<|QL I I<|QI I (λ_ _ f k=>G3 (x:=x.hi) (y:=y.hi) (r:=a.2) (s:=b.2) f k.1.1.2 k.1.2.2 i.2 g.2) λ_=>wD 7 I ?_
  exact wg I I (congrArg bI (by unfold Lt;rw[c,im])) tL
 refine wD 11 I ?_;exact wg I I (congrArg bI (by unfold Lt;rw[c,ig])) tL
theorem G4{x:Sp}{b:Int}(H:Fits F w)(h:Jl F x a)(hb:0<=b/\b<=64)(l:Xf a 10000000):Xp prog 249 [x.v,.int .i64 b] w F (Z7 a b):=by
 obtain⟨M,L⟩:=l;have N:JW ((((2:Int):Rat))^b.toNat)<=200:=by
  have h1:=VP (((2:Int):Rat)) b.toNat;have h2:JW (((2:Int):Rat))<=2:=tF;have h3:b.toNat*JW (((2:Int):Rat))<=64*2:=aX O h2;omega
 have i:((((2:Int):Rat))^b.toNat).num≠0:=by rw[BV];show(two b)≠0;unfold two;exact Int.ne_of_gt (Int.pow_pos tF)
 have Q:=YN a.1 ((((2:Int):Rat))^b.toNat);have P:=YN a.2 ((((2:Int):Rat))^b.toNat);have S:=gH (a.1*(((2:Int):Rat))^b.toNat);have R:=gI (a.2*(((2:Int):Rat))^b.toNat);refine QU.intro (G:=λF=>Jl F x a) func249 rfl tH rfl rfl H (λF' m=>h.le m)<|wa<|Qp rfl (vs:=[_,_,_,_,_,_,_,_]) rfl λb2=>Qc Jk λb4=>wY<|wa<|QI rfl (λ_ _ f k=>TN (n:=2) f tF tF) λK=>wW rfl<|QI rfl (λ_ _ f h=>MR (x:=K) (r:=(((2:Int):Rat))) (k:=b) f h.2 hb.1 O (by have h2:JW (((2:Int):Rat))<=2:=tF;have h3:b.toNat*JW (((2:Int):Rat))<=64*2:=aX O h2;omega)) λj=>Qc Jw λT=>QW (vs:=[_,_,_,_]) I I I QS I .here .h4 wv<|wY<|QG<|JG (.cons_cons _ (.cons _ tP)) mixed tE<|QK (QH I Xu QS)<|QK (wP I QS .u1)<|QK (wP I QS .here)<|QR I (λ_ _ f k=>GD (x:=x.lo) (y:=j) (r:=a.1) (s:=(((2:Int):Rat))^b.toNat) f k.1.1.1 k.2 O O) λE=>QR I (λ_ _ f k=>Fo (x:=E) (r:=a.1*(((2:Int):Rat))^b.toNat) f k.2 O) λD=>QR I (λ_ _ f k=>Dx (g:=D) (a:=(a.1*(((2:Int):Rat))^b.toNat).floor) f k.2) λC=>QK (wP I QS .here) ?_
 refine QR I (λ_ _ f k=>yY (x:=C) (y:=j) (r:=(((a.1*(((2:Int):Rat))^b.toNat).floor:Int):Rat)) (s:=(((2:Int):Rat))^b.toNat) f k.2 k.1.1.1.2 i O O) (λB=>QK (QH I Xt QS)<|QK (wR I QS .u1)<|QK (wP I QS .here)<|QR I (λ_ _ f k=>GD (x:=x.hi) (y:=j) (r:=a.2) (s:=(((2:Int):Rat))^b.toNat) f k.1.1.1.1.1.1.2 k.1.1.1.1.2 O O) λA=>QR I (λ_ _ f k=>pU (x:=A) (r:=a.2*(((2:Int):Rat))^b.toNat) f k.2 O) λz=>QR I (λ_ _ f k=>Dx (g:=z) (a:=-(-(a.2*(((2:Int):Rat))^b.toNat)).floor) f k.2) λu=>QK (wP I QS .here)<|QR I (λ_ _ f k=>yY (x:=u) (y:=j) (r:=((-(-(a.2*(((2:Int):Rat))^b.toNat)).floor:Int):Rat)) (s:=(((2:Int):Rat))^b.toNat) f k.2 k.1.1.1.1.1.1.1.2 i O O) λo=>QK (Q4 I Z2 Jk (.cons (vs:=[_,_,_,_]) I I I .h4 (.cons (vs:=[_,_,_,_]) I I I (.skip (.skip (.skip (.skip .h4)))) .nil)))<|JV (vs:=[_,_,_,_,_,_,_,_]) I I I Qk I .u1 tP (λ_ h=>h.1.1.1.1.1.1.1.1) .h8 w8<|Q7<|QC<|QX ?_);exact QP (⟨B,o⟩) I (.JX (c:=[_,_,_,_,_,_,_,_]) I Qk .u1 .nil) (rfl) λF h9=>by rw[zP];exact⟨h9.1.1.1.1.2,h9.2⟩
theorem yg{x:Sp}(l:Fits F w)(h:Jl F x a)(b:Xf a 100000000):X1 prog 130 [x.v] w F (ML a):=by
 refine QU.intro (G:=λF=>Jl F x a) func130 rfl tH rfl rfl l (λF' j=>h.le j)<|wa<|Qp rfl (vs:=[_,_,_,_,_,_,_,_]) rfl λb1=>Qc Jw λb2=>wY<|QG<|JG (.cons _ tP) mixed tE<|QK (QH rfl Xt QS)<|QK (wR I QS .here)<|QK (QH rfl Xu QS)<|QK (wP I QS .here)<|QR rfl (λ_ _ f k=>UY (x:=x.lo) (r:=a.1) f k.1) λs=>QK (QH rfl Xu QS)<|QK (wP I QS .here)<|QK (QH rfl Xt QS)<|QK (wR I QS .here)<|QR rfl (λ_ _ f k=>UY (x:=x.hi) (r:=a.2) f k.1.2) λi=>?_
 refine Qo I (Q5 Xb) QS Jw I I (λu=>?_) (λw h=>h.imp (.cons _ tP) λF h=>h.1.1);refine QR I (λw F l ⟨⟨⟨o,h7⟩,h12⟩,g⟩=>Xo (x:=x.hi) (r:=a.2) (ps:=[(s,-a.1),(x.lo,a.1),(i,-a.2)]) l o.2 (Qy.of (n:=3) (sz:=4) (cs:=ak (λe:Fr×Rat=>Kj e.1) [(s,-a.1),(x.lo,a.1),(i,-a.2)]) g rfl) (Es h7 o.1 h12) rfl tF ⟨b.2,Es (by rw[Vh];exact b.1) b.1 (by rw[Vh];exact b.2)⟩) (λm=>JV (vs:=[_,_,_,_]) I I I QS I .here tP (λ_ h=>h.1.1.1.1) .h4 wv<|Q7<|QC<|QX ?_);exact QP (m) rfl (.JX (c:=[_,_,_,_]) I QS .here .nil) (rfl) tO
end Go.Proofs.YtjcphjpkimmmjaaGreatDoor
