/- Steps of the proof of the theorem in the last file. -/
import Derived.Test.YtjcphjpkimmmjaaGreatDoorP2
import Derived.RangeFuncLeaves
import Derived.RangeFuncSeq
import Derived.OwnWalkIn
import Derived.OrdersIn
import Derived.ChangeKeysEq
import Derived.KernelRfl
import Derived.Lib.AppendZeros
import Derived.Scope
import Derived.Control
set_option linter.all false
set_option maxHeartbeats 4000000
open List renaming cons_append → aa,mem_cons_of_mem → ab,nil_append → ae,range → ag,mem_cons_self → ao,flatMap → ar,foldl_append → aw,append_assoc → ax,getElem?_toArray → ay,replicate → az,perm_append_comm → aE,length_append → aF,flatMap_append → aK,perm_append_comm_assoc → aL,map_cons → aN,contains_eq_mem → aQ,length_erase_of_mem → aS,range_succ → aV,length_cons → aX,sublist_append_right → aY,length_range → bc,not_mem_nil → bj,getElem_map → bm,sum_cons → bp,mem_cons → bt,length_map → bz,take_succ_cons → bA,drop_succ_cons → bB,exists_cons_of_ne_nil → bC,take_length → bF,mem_append → bH,append_nil → bI,take_zero → bL,drop_zero → bM,mem_map_of_mem → bR,mem_singleton → bS,mem_map → bT,ext_getElem → bX,getElem_append_right → ep,getElem_append_left → eu,length_pos_of_mem → eB,take_append_drop → eF,length_singleton → eG,getElem?_eq_none → eH,all_eq_true → eQ,nodup_cons → eU,mem_filter → eV,map_append → eW,foldl_cons → eX,all_cons → fg,range' → fm,map_id → fp,length → fq
open Bool renaming eq_iff_iff → af,and_eq_true → av,not_eq_true' → aW,or_eq_true → eY,true_and → fh
open Go.Value renaming bool → ah,int → aT
open Rat renaming le_refl → ai,le_trans → ak,mul_le_mul_of_nonneg_left → aq,divInt → au,pow_succ → aC,mul_le_mul_of_nonneg_right → aG,pow_zero → aR,mul_assoc → aZ,le_total → bf,mul_one → bw,pow_nonneg → bD,le_of_lt → bG,divInt_mul_right → bN,divInt_eq_div → bU,intCast_mul → fa,zero_mul → fk,mul_zero → fl,one_mul → fz,neg_mul → fA,div_def → fB
open Go.Fence renaming wide → aj
open Nat renaming beq → aA,zero_le → aD,le_trans → aH,le_refl → aJ,zero_add → aM,mul_le_mul → aO,eq_of_beq_eq_true → aP,pow_add → bO,mul_le_mul_right → bP,pow_pos → ee,add_mul → ef,mul_assoc → ey,sub_zero → eC,mul_zero → eD,lt_or_ge → eE,eq_zero_or_pos → eM,strongRecOn → fb,add_assoc → fi,pow_one → fC,mul_one → fD
open Go.Result renaming andThen_ok → aB
open Go.Builtin renaming zeroCells → aI
open Go.Sem renaming run_bind → aU,run_pure → eI
open Int renaming natAbs_natCast → ba,natAbs_mul → bQ,le_refl → ei,natCast_mul → fc,pow_succ → fu
open Go.Region renaming wanted → bh,seqB → bV,ready → fe
open Option.some renaming injEq → bJ
open Go.Instr renaming sameBits → bK,findAsking → bW,checkKey → ek,findNow → er,beginRound → eO,findKey → ff
open Go.Oper renaming semAt_plain → bY,upon → eR,uponIn → fw
open Go.Obj renaming cells → bZ
open Array renaming replicate → ea,ext' → eK
open Option renaming none_or → eb,map_some → eL
open Go.ByteArray renaming toList_eq → ew
open List.Perm renaming refl → eJ
open Go.World renaming size_alloc → eN
open Prod.mk renaming injEq → eP
open Go.Op renaming equalIn → eS,eqItems → eT,equal → fj
open And renaming intro → eZ
open Std.Legacy.Range renaming size → e8,forIn_eq_forIn_range' → e9
open Go.Exit renaming noGoto → fy
open List.Sublist renaming refl → fF
namespace Go.Proofs.YtjcphjpkimmmjaaGreatDoor
variable{N Q b bb c i id k n:Nat}{w w0:World}{assign body:Code}{R:Ending->World->Prop}{m:Sl}{x y:Sp}{α ι:Type}{a:Rat×Rat}{ps:Array Tmp}{f:Obj->List (Nat×Obj)}{fn:Func}{F F' F0:Gs}{T kt:TypeId}{ts:List EE}{bs:List (Nat×Obj)}{G G0:Gs->Prop}{β:Nat->Nat}{c1 c2:List Value}{A u:List Nat}{ra rb:Sr}{va vb:List (Rat×Rat)}{d0:Df}
open Go.RowKit Ig
structure Open(F:Fence):Prop where
 fn:∀f,F.fn f
 depth:F.depth=none
 calls:∀ {n:Nat} {P:Program} {f:FuncId} {args:Array Value} {w:World} {R:Ending->World->Prop},Calls P f args w R->CallsIn F n P f args w R
 rows:∀ {n:Nat} {P:Program} {row:String} {args:Array Value} {w:World} {R:Value->World->Prop},Rows P row args w R->RowsIn F n P row args w R
theorem Mh:Open aj where
 fn:=λ_=>trivial
 depth:=rfl
 calls:=λh=>callsIn_wide.2 h
 rows:=λh c cs _=>by
  obtain⟨v,w',h1,h2⟩:=h c cs
  exact⟨v,w',h1,stepsIn_wide.2 h2⟩
theorem Rz(l:Nat):Open (Fence.wide.inRound l) where
 fn:=λ_=>trivial
 depth:=rfl
 calls:=λh=>(callsIn_wide.2 h:CallsIn aj _ _ _ _ _ _)
 rows:=λh=>Mh.rows h
section
variable{F:Fence}{P:Program}
theorem Open.op(hF:Open F){o:Oper}(hnd:∀c,o.op≠.defer c){a:Act}{w:World}{K K':Act->World->Prop}{Q1 Q:Exit->Act->World->Prop}(hp:∀c a w,Q1 (.panic c) a w->Q (.panic c) a w)(hl:∀a w,Q1 .outgrown a w->Q .outgrown a w)(hK:∀a w,K a w->K' a w)(h:o.wp P a w K Q1):o.wpIn F 0 P a w K' Q:=by
 unfold Oper.wp at h
 unfold Oper.wpIn
 refine⟨λf _=>hF.fn f,?_⟩
 rw[bY F a.eval o hnd]
 generalize (execOp a.eval o).run P w=r at *
 have hd:F.depth.isSome=true->1<=0:=λe=>by rw[hF.depth]at e;cases e
 cases r with
 |ok x w' =>
  cases x<;>simp only[eR,fw]at h ⊢ <;>
   first
    |exact hK _ _ h
    |exact⟨hd,hF.calls (h.mono λe w'' he=>by
      cases e with
      |returned u=>exact hK _ _ he
      |panicked c=>exact hp _ _ _ he
      |outgrown=>obtain⟨a,w,h⟩:=he;exact⟨a,w,hl _ _ h⟩)⟩
    |exact⟨hd,hF.rows (h.mono λ_ _ he=>hK _ _ he)⟩
 |halt x w'=>cases x<;>simp only[eR,fw]at h ⊢<;>exact hp _ _ _ h
def HH(l:List Oper):Bool:=l.all λo=>match o.op with | .defer _=>false | _=>true
theorem R5{o:Oper}(h:(match o.op with | .defer _=>false | _=>true)=true):∀c,o.op≠.defer c:=λc e=>by rw[e]at h;cases h
theorem Open.list(hF:Open F){ops:Array Oper}{Q:Exit->Act->World->Prop}(hQ:¬LetsOut Q):∀(l:List Oper) (a:Act) (w:World),HH l=true->wpList P ops Q l a w->wpListIn F 0 P ops Q l a w
 |[],_,_,_,h=>h
 |o::rest,a,w,hd,h=>by
  simp only[HH,fg,av]at hd
  unfold wpList at h
  unfold wpListIn
  split
  ·rename_i hw
   rw[if_pos hw]at h
   rcases h with h | ⟨_,h⟩
   ·exact hF.op (R5 hd.1) (λ_ _ _ h=>h) (λ_ _ h=>h) (λa w h=>hF.list hQ rest a w hd.2 h) h
   ·exact absurd h hQ
  ·rename_i hw
   rw[if_neg hw]at h
   exact⟨λf _=>hF.fn f,hF.list hQ rest _ _ hd.2 h⟩
end
section
variable[Dr][df:Df]{F:Fence}{P:Program}{Q:Exit->Act->World->Prop}{N:Nat}{m:Sl}{E:Env}
def JI(F:Fence)(P:Program)(c:Code)(Q:Exit->Act->World->Prop)(N:Nat)(m:Sl)(E:Env):Prop:=∀a w,JP N m a->St E w->c.wpIn F 0 P Q a w
theorem gi{c:Code}(h:JI F P c (Exit.inBlock id Q) N m E):JI F P (.block id c) Q N m E:=λa w ha hw=>wpIn_block (h a w ha hw)
theorem Ug(hF:Open F){id:Nat}{l:List Oper}(hQ:¬LetsOut Q)(hd:HH l=true)(h:JS P l.toArray Q l N m E):JI F P (.region id l.toArray false) Q N m E :=
 λa w ha hw=>wpIn_region_lit (hF.list hQ l a w hd (h a w ha hw))
section
variable{w0:World}{F0:Gs}{bs:List (Nat×Obj)}{G:Gs->Prop}{l:Nat}{r:Loop}{f:Obj->List (Nat×Obj)}
theorem St.put(h:St ⟨w0,F0,bs,G⟩ w){b:Nat}{o:Obj}(o':Obj)(ho:Own bs b o f)(hn:∀c fr,o'≠.cells c 297 fr):St ⟨w0,F0,f o',G⟩ (w.putObj b o'):=by
 obtain⟨pre,post,e1,e2⟩:=ho.split
 subst e1
 rw[e2]
 exact h.write pre ⟨rfl,rfl,rfl,rfl,rfl⟩ hn
theorem cR{Qr:Exit->Act->World->Prop}(ho:Own bs l (.loop r) f)(hr:r.state = .ready)(k:JI F P body Qr N m ⟨w0,F0,f (.loop { r with state:=.busy }),G⟩):
  Fin (Exit.then (λa₁ w₁=>∃w₂,(eO l).run P w₁ = .ok () w₂/\body.wpIn F 0 P Qr a₁ w₂) (λ_ _ _=>False)) .normal N m ⟨w0,F0,bs,G⟩ :=
 λa w ha hw=>⟨_,run_beginRound (hw.own ho) hr,k a _ ha (hw.put _ ho (λc fr e=>by cases e))⟩
theorem cP(ho:Own bs l (.loop r) f)(k:∀w,St ⟨w0,F0,f (.loop { r with state:=.ready,pending:=none }),G⟩ w->R (.returned (.bool true)) w):Fin (roundPost P l R) .normal N m ⟨w0,F0,bs,G⟩ :=
 λa w ha hw=>⟨_,_,run_endRound none (hw.own ho),k _ (hw.put _ ho (λc fr e=>by cases e))⟩
end
end
section
variable[Dr]{P:Program}{w0:World}{F0:Gs}{bs:List (Nat×Obj)}{G:Gs->Prop}{l:Nat}{r:Loop}{f:Obj->List (Nat×Obj)}
def Dm(r:Loop)(vs:Array Value):Act:={ tmps:=(r.params.zip vs).foldl (λtmps (t,a)=>tmps.setIfInBounds t a) r.tmps,defers:=[] }
theorem L3{W:World}{vs:Array Value}(hst:St ⟨w0,F0,bs,G⟩ W)(ho:Own bs l (.loop r) f)(hsz:vs.size=r.params.size)(hsl:JP N m (Dm r vs))
  (h:JI (Fence.wide.inRound l) P r.assign (Exit.then (λa₁ w₁=>∃w₂,(eO l).run P w₁ = .ok () w₂/\r.body.wpIn (Fence.wide.inRound l) 0 P (roundPost P l R) a₁ w₂) (λ_ _ _=>False)) N m ⟨w0,F0,bs,G⟩) :
  YieldAt aj 0 P l vs W R :=
 ⟨_,_,_,_,run_yield (hst.own ho) hsz,roundIn_of_wpIn trivial (h _ W hsl hst)⟩
end
section
variable[Dr][df:Df]{P:Program}{Q:Exit->Act->World->Prop}{N:Nat}{m:Sl}{E E0:Env}{ops:Array Oper}{l:List Oper}{w0:World}{F0:Gs}{bs:List (Nat×Obj)}{G:Gs->Prop}
def JSI(P:Program)(ops:Array Oper)(Q:Exit->Act->World->Prop)(l:List Oper)(N:Nat)(m:Sl)(E:Env):Prop:=∀a w,JP N m a->St E w->wpListIn aj 0 P ops Q l a w
theorem QCU(hQ:¬LetsOut Q)(hd:HH l=true)(h:JS P ops Q l N m E):JSI P ops Q l N m E:=λa w ha hw=>Mh.list hQ l a w hd (h a w ha hw)
theorem xb{x:Operand}{d r:Nat}{args:Array Operand}{tys:Array TypeId}{vs:List Value}{ty:TypeId}{pos:String}{aft:Array Edge}{E':ι->Env}(hx:ev m x=some (.func (.yield r) #[] #[]))(hv:MP m args.toList=some vs)
  (hy:∀w,St E w->YieldAt aj 0 P r vs.toArray w λe w'=>e = .returned (.bool true)/\∃s,St (E' s) w')
  (k:∀s,JSI P ops Q l N ((d,.bool true)::m) (E' s)) (hd:J5 N (some d)=true:=by rfl):JSI P ops Q (⟨some d,.call ⟨.value x,args,tys⟩,ty,pos,aft,none⟩::l) N m E:=by
 intro a w ha hw
 refine wpListIn_plain rfl λK hK=>?_
 obtain⟨fn,tmps,assign,body,hr,hR⟩:=hy w hw
 refine⟨λf _=>trivial,?_⟩
 have e2:args.map a.eval=vs.toArray:=by rw[<-ha.MP hv];apply eK;simp
 have hrun:(execOp a.eval ⟨some d,.call ⟨.value x,args,tys⟩,ty,pos,aft,none⟩).run P w = .ok (.round r fn tmps assign body) w:=by
  simp only[execOp,resolve,ha.ev hx,Deferred.ofValue,aU,eI,aB,invoke,e2]
  simpa using hr
 rw[bY aj a.eval _ (λc e=>by cases e),hrun]
 refine⟨λe=>(by cases e),hR.mono ?_⟩
 rintro e w' ⟨rfl,s,hs⟩
 exact hK _ _ (k s _ w' (ha.put hd (.bool true)) hs)
section
variable{md:Region.Mode}
theorem L5{l:List Oper}{K0 K:Act->World->Prop}{a:Act}(hi:i<n)(hgd:Et l.toArray n=true)(hnd:HH l=true)
  (h:wpOp P (l.take n).toArray (X9 K0) i K a w):wpOpIn aj 0 P l.toArray Q i K a w:=by
 unfold wpOp at h
 unfold wpOpIn
 rw[BZ hi]at h
 cases ho:l.toArray[i]? with
 |none=>simp only[ho]at h ⊢;exact h
 |some o =>
  simp only[ho]at h ⊢
  have hw:bh o (yielded (l.take n).toArray a.tmps)=bh o (yielded l.toArray a.tmps):=by
   have h1:=List.all_eq_true.1 hgd i (List.mem_range.2 hi)
   rw[ho]at h1
   unfold bh
   cases hg:o.guard with
   |none=>rfl
   |some gw =>
    obtain⟨g,want⟩:=gw
    simp only[hg]at h1
    simp only[EG (l:=l) (by simpa using h1)]
  rw[hw]at h
  have hmem:o∈l:=by
   have:l[i]?=some o:=by simpa using ho
   exact List.mem_of_getElem? this
  split
  ·rename_i hw2
   rw[if_pos hw2]at h
   rcases h with h | ⟨_,h2⟩
   ·exact Mh.op (R5 (List.all_eq_true.1 hnd o hmem)) (λ_ _ _ h=>h.elim) (λ_ _ h=>h.elim) (λ_ _ h=>h) h
   ·obtain⟨_,_,h2⟩:=h2;exact h2.elim
  ·rename_i hw2
   rw[if_neg hw2]at h;exact⟨λ_ _=>trivial,h⟩
theorem EH{ops:Array Oper}:∀(f:Nat) (listed:Array Bool) (a:Act) (w:World),wpAnyIn aj 0 P md ops Q f listed a w->wpAnyIn aj 0 P md ops Q (f+1) listed a w
 |0,listed,a,w,h=>⟨λ_=>h.2,λi hi=>(by rw[h.1]at hi;cases hi)⟩
 |f+1,listed,a,w,h=>⟨h.1,λi hi=>wpOpIn_mono (λa' w' h'=>EH f _ a' w' h') (h.2 i hi)⟩
theorem TG{ops:Array Oper}(f:Nat)(listed:Array Bool)(a:Act)(w:World)(g:Nat)(h:wpAnyIn aj 0 P md ops Q g listed a w):wpAnyIn aj 0 P md ops Q (f+g) listed a w:=by
 induction f with
 |zero=>rw[aM];exact h
 |succ f ih=>rw[show f+1+g=(f+g)+1 by omega];exact EH _ _ _ _ ih
theorem BB:∀(l:List Oper) (k:Nat) (listed:Array Bool) (a:Act) (w:World),(∀j,l[j]?=ops[k+j]?) ->
  bV md ops l.length k listed=true->wpListIn aj 0 P ops Q l a w->wpAnyIn aj 0 P md ops Q l.length listed a w
 |[],_,_,_,_,_,hB,h=>⟨by simpa[bV]using hB,h⟩
 |o::l,k,listed,a,w,hl,hB,h=>by
  have h0:ops[k]?=some o:=by simpa using(hl 0).symm
  simp only[aX,bV,av,decide_eq_true_eq]at hB
  refine⟨λh1=>(by rw[hB.1]at h1;cases h1),λi hi=>?_⟩
  rw[hB.1]at hi
  have hik:i=k:=by simpa using hi
  subst hik
  have hw:wpOpIn aj 0 P ops Q i (wpListIn aj 0 P ops Q l) a w:=by unfold wpOpIn;simp only[h0];exact h
  exact wpOpIn_mono (λa' w' h'=>BB l (i+1) _ a' w' (λj=>by have:=hl (j+1);simpa[fi,Nat.add_comm 1 j]using this) hB.2 h') hw
theorem TF{l:List Oper}(hn:n<l.length)(hs:Region.sinkB md l.toArray n=true)(hc:Region.chainB md l.toArray n=true)(ho:Vc md l.toArray n=true)
  (hgd:Et l.toArray n=true) (hseq:bV md l.toArray (l.length - n) n (Yp n l.length)=true) (hnd:HH l=true) :
  ∀(f:Nat) (lh la:Array Bool) (a:Act) (w:World),HeadInv md l.toArray n la->lh.size=n->(∀i,i<n->la.getD i true=lh.getD i true) ->
   wpAny P md (l.take n).toArray (X9 (λa w=>wpListIn aj 0 P l.toArray Q (l.drop n) a w)) f lh a w->wpAnyIn aj 0 P md l.toArray Q (f+(l.length - n)) la a w:=by
 have fin:∀(f:Nat) (lh la:Array Bool) (a:Act) (w:World),HeadInv md l.toArray n la->lh.size=n->(∀i,i<n->la.getD i true=lh.getD i true) ->
   fe md (l.take n).toArray lh=[]->wpListIn aj 0 P l.toArray Q (l.drop n) a w->wpAnyIn aj 0 P md l.toArray Q (f+(l.length - n)) la a w:=by
  intro f lh la a w inv hsz hrel hr h
  have hall:∀i,i<n->lh.getD i true=true:=by
   intro i hi
   cases hv:lh.getD i true with
   |true=>rfl
   |false=>exact absurd hr (G5 hn hs hc ho inv hsz hrel hi hv).2
  have hla:la=Yp n l.length:=by
   refine Nb (by simpa using inv.size) (λi hi hi2=>?_) (λi hi hi2=>?_)
   ·have h1:=(hrel i hi).trans (hall i hi)
    have h2:i<la.size:=by rw[inv.size];simpa using hi2
    simp[h2]at h1 ⊢;exact h1
   ·exact getD_both (inv.tail i hi (by simpa using hi2))
  subst hla
  refine TG f _ _ _ _ ?_
  have:=BB (P:=P) (Q:=Q) (md:=md) (ops:=l.toArray) (l.drop n) n (Yp n l.length) a w (λj=>by simp[List.getElem?_drop]) (by simpa using hseq) h
  simpa using this
 intro f
 induction f with
 |zero=>intro lh la a w inv hsz hrel h;exact fin 0 lh la a w inv hsz hrel h.1 h.2
 |succ f ih =>
  intro lh la a w inv hsz hrel h
  by_cases hr:fe md (l.take n).toArray lh=[]
  ·exact fin (f+1) lh la a w inv hsz hrel hr (h.1 hr)
  ·obtain⟨k,hk⟩:=List.exists_mem_of_ne_nil _ hr
   have hk2:=(mem_ready.1 hk)
   have hkn:k<n:=by
    obtain⟨_,o,ho',_⟩:=hk2
    have:=(Array.getElem?_eq_some_iff.1 ho').1
    simp at this;omega
   have hiff:=(G5 hn hs hc ho inv hsz hrel hkn hk2.1).1
   rw[show f+1+(l.length - n)=(f+(l.length - n))+1 by omega]
   refine⟨λh0=>absurd ((hiff k).2 hk) (by rw[h0];simp),λi hi=>?_⟩
   have hi':=(hiff i).1 hi
   have hin:i<n:=by
    obtain⟨_,o,ho',_⟩:=mem_ready.1 hi'
    have:=(Array.getElem?_eq_some_iff.1 ho').1
    simp at this;omega
   have h2:=L5 (Q:=Q) hin hgd hnd (h.2 i hi')
   refine wpOpIn_mono (λa' w' h3=>ih _ _ a' w' (inv.set hi hin) (by simpa using hsz) (λj hj=>?_) h3) h2
   by_cases hij:i=j
   ·subst hij
    have h1:i<la.size:=by rw[inv.size];simp;omega
    have h2:i<lh.size:=O
    simp[h1,h2]
   ·rw[getD_set_ne true hij,getD_set_ne true hij];exact hrel j hj
theorem cM{l:List Oper}{bs0:List (Nat×Obj)}(n:Nat)(hb0:bs0.Sublist bs)(hm:P.follows .mixedOrders=true)(hB:Dl l n=true)(hB2:lexB .any (l.take n)=true)(hnd:HH l=true)
  (h:JD P (l.take n).toArray (X9 (λa w=>wpListIn aj 0 P l.toArray Q (l.drop n) a w)) ⟨w0,F0,bs0,G⟩ (l.take n) N m ⟨w0,F0,bs,G⟩):J P (.region id l.toArray true) Q N m ⟨w0,F0,bs,G⟩:=λa w ha hw=>by
 have h1:=h (λ_ h=>h.imp hb0 λ_ h=>h) a _ ha hw.drew
 have h2:=GM (P:=P) (S:=St ⟨w0,F0,bs0,G⟩) hB2 (λc a w h=>h) (hw.drew.imp hb0 λ_ h=>h) h1
 simp only[Dl,av,decide_eq_true_eq]at hB
 obtain⟨⟨⟨⟨⟨hn,hs⟩,hc⟩,ho⟩,hg⟩,hseq⟩:=hB
 refine(wpIn_wide (n:=0)).1 (wpIn_region_any hm ?_)
 have k7:HeadInv .any l.toArray n (ea l.toArray.size false) :=
  ⟨we,λj oj _ hl=>(by rw[getD_replicate_false]at hl;cases hl),λt _ ht=>getD_in (by simpa using ht) (getD_replicate_false _ _)⟩
 have e:(l.take n).length=n:=wg
 rw[e]at h2
 have:=TF (P:=P) (md:=.any) (Q:=Q) hn hs hc ho hg hseq hnd n (ea n false) (ea l.toArray.size false) a { w with drawn:=w.drawn+1 } k7 we
  (λi hi=>by
   have h1:i<l.length:=O
   simp[hi,h1]) h2
 rw[show n+(l.length - n)=l.toArray.size by simp;omega]at this
 exact this
end
end
section
variable[Dr]{P:Program}{Q:Exit->Act->World->Prop}{N:Nat}{m:Sl}{w0:World}{F0:Gs}{bs:List (Nat×Obj)}{G:Gs->Prop}
@[reducible] def Mm (D:Nat):Df:=⟨[{ target:=.collected D,args:=#[] }]⟩
structure Li(N:Nat)(m:Sl)(ps:Array Tmp)(assign body:Code)(r:Loop):Prop where
 state:r.state = .ready
 QIB:r.pending=none
 params:r.params=ps
 assign:r.assign=assign
 body:r.body=body
 cm:JP (df:=VE) N m { tmps:=r.tmps,defers:=[] }
theorem QAu{g:Operand}{gf:Nat}{lb:Array Value}(B:ι->List (Nat×Obj))(R:ι->Gs->Prop)(Dn:ι->Prop)(hg:ev m g=some (.func (.func gf) #[] lb))(he:Enters P gf)
  (hcall:∀(L D:Nat) (r:Loop) (w:World),Li N m ps assign body r->St ⟨w0,F0,(L,.loop r)::(D,.deferred (some []))::bs,G⟩ w ->
   Calls P gf (#[.func (.yield L) #[] #[]]++lb) w λe w'=>(∃v,e = .returned v)/\∃s,Dn s/\St ⟨w0,F0,(L,.loop r)::(D,.deferred (some []))::B s,λF=>G F/\R s F⟩ w')
  (k:∀D s,Dn s->Fin (df:=Mm D) Q .normal N m ⟨w0,F0,(D,.deferred (some []))::B s,λF=>G F/\R s F⟩):J (df:=VE) P (.rangeFunc g ps assign body) Q N m ⟨w0,F0,bs,G⟩:=λa w ha hw=>by
 refine(wpIn_wide (n:=0)).1 (wpIn_rangeFunc λfn _=>?_)
 obtain⟨r,hr⟩:∃r:Loop,r={ state:=.ready,pending:=none,fn,tmps:=a.tmps,params:=ps,assign,body,defers:=w.heap.size }:=⟨_,rfl⟩
 have hs1:St ⟨w0,F0,(w.heap.size+1,.loop r)::(w.heap.size,.deferred (some []))::bs,G⟩ ((w.alloc (.deferred (some []))).alloc (.loop r)):=by
  have h1:=hw.alloc (.deferred (some [])) (λc fr e=>by cases e)
  have h2:=h1.alloc (.loop r) (λc fr e=>by cases e)
  rwa [eN]at h2
 have hd:a.defers=[]:=ha.df
 refine⟨w.heap.size+1,[{ target:=.collected w.heap.size,args:=#[] }],(w.alloc (.deferred (some []))).alloc (.loop r),{ target:=.fn (.func gf) lb,args:=#[.func (.yield (w.heap.size+1)) #[] #[]] },(w.alloc (.deferred (some []))).alloc (.loop r),gf,
  #[.func (.yield (w.heap.size+1)) #[] #[]]++lb,(w.alloc (.deferred (some []))).alloc (.loop r),?_,?_,λ_ _=>trivial,?_,λe=>(by cases e),?_⟩
 ·rw[hr];exact run_enterLoop_outer _ _ _ _ _
 ·simp only[resolve,ha.ev hg]
  simp[go_sem]
 ·simpa[invoke,go_sem]using he _ _
 ·refine(callsIn_wide.2 (hcall _ _ r _ ⟨by rw[hr],by rw[hr],by rw[hr],by rw[hr],by rw[hr],⟨by rw[hr];exact ha.size,rfl,by rw[hr];exact ha.get⟩⟩ hs1)).mono ?_
  rintro e w' ⟨⟨v,rfl⟩,s,hdn,hs⟩
  have hl:w'.heap[w.heap.size+1]?=some (.loop r):=hs.own .here
  refine⟨none,w'.putObj (w.heap.size+1) (.loop { r with state:=.exhausted }),?_,k w.heap.size s hdn _ _ (JP.mk (df:=Mm w.heap.size) (JP.size (df:=VE) (a:=a) ha) ?_ (λt v h=>JP.get (df:=VE) (a:=a) ha t v h)) ?_⟩
  ·rw[run_endLoop hl (by rw[hr];intro e;cases e)]
   rw[hr]
  ·show _++a.defers=_
   rw[hd];rfl
  ·exact(hs.put (.loop { r with state:=.exhausted }) .here (λc fr e=>by cases e)).imp (.cons _ wK) λ_ h=>h
theorem QHd{c:Code}(h:∀G':Gs->Prop,(∀F,G' F->G F)->J (df:=VE) P c Q N m ⟨w0,F0,bs,G'⟩):J (df:=VE) P c Q N m ⟨w0,F0,bs,G⟩:=h G λ_ h=>h
theorem QS.QB2{f:FuncId}{c:Code}{args:List Value}{γ:Type}{val:γ->Value}{fact:γ->Gs->Prop}{G:Gs->Prop}(hf:P.funcs[f]?=some fn)(hb:fn.body=some c)(hn:(fn.name == "runtime.NumGoroutine")=false)(hN:fn.ntmps=N)(hl:Nat.ble args.length N=true)
  (hw:Fits F w) (hg:∀F',Gs.le F F'->G F') (h:J (df:=VE) P c (bodyPostM aj 0 P fn (MQ w F val fact)) N (Sm 0 args) ⟨w,F,[],G⟩):QS P f args w F val fact:=by
 refine⟨enters_of hf hn (by rw[hb];rfl),callsIn_wide.1 (callsIn_of_wp_marks hf hb trivial (wpIn_wide.2 (h _ w ⟨?_,rfl,λt v ht=>?_⟩ (St.start hw hg))))⟩
 ·have:=Nat.le_of_ble_eq_true hl
  simp[hN];omega
 ·obtain⟨_,h2⟩:=HM args 0 t v ht
  have hlt:t<args.length:=by rcases eE t args.length with g | g;exact g;rw[eC,eH g]at h2;cases h2
  simp only[eC]at h2
  rw[Array.getElem?_append,if_pos (by simpa using hlt)]
  simpa using h2
theorem QFH{E:Env}(h:Fin (df:=VE) (bodyPost P fn R) .ret N m E):Fin (df:=VE) (bodyPostM aj 0 P fn R) .ret N m E:=λa w ha hw=>by
 obtain⟨h1,v,h2,h3⟩:=h a w ha hw
 show LeavesInM aj 0 P fn a.tmps R a.defers .returning w
 rw[h1]
 exact⟨v,h2,h3⟩
theorem QG2{D:Nat}(ho:Own bs D (.deferred (some [])) f)(h:Fin (df:=VE) (bodyPost P fn R) .ret N m ⟨w0,F0,f (.deferred none),G⟩):Fin (df:=Mm D) (bodyPostM aj 0 P fn R) .ret N m ⟨w0,F0,bs,G⟩:=λa w ha hw=>by
 have h1:=h { tmps:=a.tmps,defers:=[] } _ (JP.mk (df:=VE) (JP.size (df:=Mm D) (a:=a) ha) rfl (λt v h=>JP.get (df:=Mm D) (a:=a) ha t v h)) (hw.put (.deferred none) ho (λc fr e=>by cases e))
 obtain⟨_,v,h2,h3⟩:=h1
 show LeavesInM aj 0 P fn a.tmps R a.defers .returning w
 rw[show a.defers=[{ target:=.collected D,args:=#[] }]from JP.df (df:=Mm D) ha]
 exact⟨λe=>(by cases e),.inl ⟨D,_,rfl,run_takeDeferred (hw.own ho),v,h2,h3⟩⟩
end
abbrev Arr(n:Nat):={ l:List Int // l.length=n }
def Mz{n:Nat}(x:Arr n):Value:=.agg (x.1.map JY).toArray
theorem cA{a b:List Int}(ha:a.length=n)(hb:b.length=n):((ag n).all λj=>Qf a j==Qf b j)=decide (a=b):=by
 rw[af,decide_eq_true_iff,eQ]
 constructor
 ·intro h
  apply bX O
  intro i h1 h2
  have:=h i (List.mem_range.2 O)
  simpa[Qf,h1,h2]using this
 ·intro h j _;rw[h];simp
section
variable{P:Program}{e:TypeId}
theorem Rv(he:P.underlying e=some (.int .i64))(w:World){xs:List Int}{j:Nat}(h:j<xs.length):(part e (xs.map JY).toArray j).run P w = .ok (JY (Qf xs j)) w:=by
 have e1:(xs.map JY).toArray[j]?=some (JY (Qf xs j)):=by simp[h,Qf]
 simp[part,isAgg,run_underlying he,e1]
theorem eqItems_ints(he:P.underlying e=some (.int .i64))(w:World)(d:Nat){xs ys:List Int}:∀(is:List Nat),(∀j∈is,j<xs.length/\j<ys.length) ->
  (eT (d+1) e 1 (xs.map JY).toArray (ys.map JY).toArray is).run P w = .ok (is.all λj=>Qf xs j==Qf ys j) w
 |[],_=>by simp[eT]
 |j::is,h=>by
  have h1:=h j we
  simp only[eT,aU,fD,Rv he w h1.1,Rv he w h1.2,aB]
  rw[show JY (Qf xs j) = .int .i64 (Qf xs j)from rfl,show JY (Qf ys j) = .int .i64 (Qf ys j)from rfl,run_equalIn_int w d e .i64 .i64 _ _ he]
  simp only[aB,fg]
  cases Qf xs j==Qf ys j
  ·simp
  ·simpa using eqItems_ints he w d is λj hj=>h j (by simp[hj])
theorem equal_arr(hu:P.underlying kt=some (.array n e))(he:P.underlying e=some (.int .i64))(hc:P.cellsOf e=1)(w:World)(a b:Arr n):(fj kt (Mz a) (Mz b)).run P w = .ok (decide (a=b)) w:=by
 obtain⟨i,hi⟩:=info_of_underlying he
 unfold Mz
 show(eS (9999+1) kt _ _).run P w=_
 rw[run_equalIn_array w 9999 _ _ hu hi,hc,eqItems_ints he w 9998 _ (λj hj=>⟨by rw[a.2];exact List.mem_range.1 hj,by rw[b.2];exact List.mem_range.1 hj⟩),cA a.2 b.2]
 congr 1
 simp[Subtype.ext_iff]
theorem Nh(hu:P.underlying kt=some (.array n e))(he:P.underlying e=some (.int .i64))(hc:P.cellsOf e=1)(w:World)(k:Arr n):∀(l:List (Arr n×Value)) (m i:Nat),
  (bW kt (Mz k) (Xd Mz l m) i).run P w = .ok (KM l k i) w
 |[],_,_=>by simp[Xd,bW,KM]
 |x::l,m,i=>by
  simp only[Xd,bW,aU,equal_arr hu he hc,aB,KM]
  by_cases h:k=x.1
  ·simp[h]
  ·simp[h,Nh hu he hc w k l]
theorem xD(hu:P.underlying kt=some (.array n e))(he:P.underlying e=some (.int .i64))(hc:P.cellsOf e=1)(em:Bool)(w:World)(k:Arr n):(ek em 10000 kt (Mz k)).run P w = .ok () w:=by
 obtain⟨i,hi⟩:=info_of_underlying he
 rw[show 10000=9999+1 from rfl,ek]
 unfold Mz
 simp only[aU,run_underlying hu,aB]
 simp only[e9,e8,eC,Nat.add_one_sub_one,Nat.div_one]
 have hj:∀j∈fm 0 n,j<k.1.length:=λj hj=>by rw[k.2];simpa using hj
 generalize fm 0 n=is at hj
 induction is with
 |nil=>simp
 |cons j is ih =>
  have p2:(ek em 9999 e (JY (Qf k.1 j))).run P w = .ok () w:=MapKept.run_checkKey he (by simp[MapKept.IsKey,JY]) em 9998
  simp only[List.forIn_cons,aU,run_sizeOf w hi,aB,hc,fD,Rv he w (hj j we),p2,eI]
  exact ih λj hj'=>hj j (by simp[hj'])
theorem yO(k:Arr n):bK 10000 (Mz k) (Mz k)=true:=by
 unfold Mz
 rw[show 10000=9999+1 from rfl,bK]
 simp only[beq_self_eq_true,fh,eQ]
 intro x hx
 obtain⟨l,hl⟩:=k
 simp only at hx
 have:∀(l:List Int) (x:Value×Value),x∈(l.map JY).zip (l.map JY)->bK 9999 x.1 x.2=true:=by
  intro l
  induction l with
  |nil=>intro x hx;cases hx
  |cons a l ih =>
   intro x hx
   rw[aN,List.zip_cons_cons]at hx
   rcases List.mem_cons.1 hx with rfl | hx
   ·simp[JY,bK]
   ·exact ih x hx
 exact this l x hx
theorem Ll.arr(hu:P.underlying kt=some (.array n e))(he:P.underlying e=some (.int .i64))(hc:P.cellsOf e=1):Ll P kt (Mz (n:=n)) where
 chk:=λem w k=>xD hu he hc em w k
 find:=λw k l=>by
  cases l with
  |nil=>simp[ff,run_underlying hu,Xd,er,KM]
  |cons x l =>
   have:er (.array n e) (Mz k) (Xd Mz (x::l) 0) 0=none:=by simp[Xd,er,Instr.sameNow]
   simp only[ff,aU,run_underlying hu,aB,this]
   exact Nh hu he hc w k (x::l) 0 0
 same:=yO
theorem equal_txs{t:TypeId}{f1 f2:Field}(ht:P.underlying t=some (.struct (P.fieldsOf t)))(hp:P.stoodInHeld t=false)(hf:(P.fieldsOf t).toList=[f1,f2])(h1:f1.name ≠ "_" /\ f1.offset=0/\P.underlying f1.type=some .string)(h2:f2.name ≠ "_" /\ f2.offset=1/\P.underlying f2.type=some .string)(w:World)(a b c d:List UInt8):
  (fj t (.agg #[tx a,tx b]) (.agg #[tx c,tx d])).run P w = .ok (decide (a=c)&&decide (b=d)) w:=by
 have hs:∀(f:TypeId),P.underlying f=some .string->∀x y:List UInt8,(eS 9999 f (tx x) (tx y)).run P w = .ok (decide (x=y)) w:=λf hf x y=>by
  rw[show(9999:Nat)=9998+1 from rfl,show tx x = .string ⟨x.toArray⟩from rfl,show tx y = .string ⟨y.toArray⟩from rfl,run_equalIn_string w 9998 f _ _ hf]
  congr 1
  rw[ew,ew,af]
  simp
 show(eS (9999+1) t _ _).run P w=_
 rw[run_equalIn_struct w 9999 t _ _ ht hp,hf]
 have p1:∀x y:List UInt8,(part f1.type #[tx x,tx y] 0).run P w = .ok (tx x) w:=λx y=>by simp[part,isAgg,run_underlying h1.2.2]
 have p2:∀x y:List UInt8,(part f2.type #[tx x,tx y] 1).run P w = .ok (tx y) w:=λx y=>by simp[part,isAgg,run_underlying h2.2.2]
 simp only[Op.eqFields,h1.1,h2.1,h1.2.1,h2.2.1,ne_eq,not_false_eq_true,if_true,aU,p1,p2,hs f1.type h1.2.2,hs f2.type h2.2.2,aB]
 by_cases e1:a=c<;>by_cases e2:b=d<;>simp[e1,e2,p2,hs f2.type h2.2.2]
end
def QIC(l:List Int):Arr 25:=⟨(ag 25).map (Qf l),we⟩
def QIq(a b:List Int)(i:Nat):List Int:=(ag 25).map λj=>if j<i then Qf a j+Qf b j else 0
structure PoI{ι:Type}(pos:ι->Nat)(n m:Nat) where
 i:Nat
 s:ι
 le:i<=n
 hp:pos s=i*m
structure PoJ{ι:Type}(pos:ι->Nat)(n m i:Nat) where
 j:Nat
 s:ι
 le:j<=m
 hp:pos s=i*m+j
structure PoK(n:Nat) where
 k:Nat
 le:k<=n
structure S4 where
 x:Fr
 t:Tm
variable{ms:List S4}
instance :Inhabited S4:=⟨⟨default,(0,[])⟩⟩
def jB(ms:List S4):List Tm:=ms.map (·.t)
def FA:List S4->S4->List S4
 |[],n=>[n]
 |t::l,n=>if n.t.2=t.t.2 then n::l else t::FA l n
theorem Td:∀(ms:List S4) (n:S4),jB (FA ms n)=D8 (jB ms) n.t
 |[],n=>rfl
 |t::l,n=>by
  have ih:=Td l n
  unfold jB at ih ⊢
  simp only[FA,aN,D8]
  split
  ·simp
  ·simp[ih]
theorem Ib{ts:List S4}{n x:S4}(h:x∈FA ts n):x=n\/x∈ts:=by
 induction ts with
 |nil=>simp[FA]at h;exact .inl h
 |cons t l ih =>
  simp only[FA]at h
  split at h
  ·rcases List.mem_cons.1 h with h | h
   ·exact .inl h
   ·exact .inr (ab _ h)
  ·rcases List.mem_cons.1 h with h | h
   ·exact .inr (h ▸ ao)
   ·rcases ih h with h | h
    ·exact .inl h
    ·exact .inr (ab _ h)
def WdM(n:Nat)(ms:List S4):Prop:=∀e∈ms,e.t.2.length=n
def MsR(F:Gs)(ms:List S4):Prop:=∀e∈ms,JM F e.x e.t.1
theorem MsR.le(h:MsR F ms)(k:Gs.le F F'):MsR F' ms:=λe he=>(h e he).le k
structure Lk(n:Nat)(ms:List S4)(l:List Tm):Prop where
 jF:xV (jB ms) l
 wd:WdM n ms
 pw:∀e∈ms,PW e.t.2
 ln:ms.length<=l.length
theorem Lk.nil:Lk n [] []:=⟨xV.nil,(λ_ h=>by cases h),(λ_ h=>by cases h),aJ _⟩
theorem gN(ms:List S4)(n:S4):(FA ms n).length<=ms.length+1:=by
 induction ms with
 |nil=>exact aJ _
 |cons t l ih =>
  simp only[FA]
  split<;>simp only[aX]<;>omega
theorem Lk.add{w:Nat}{l:List Tm}(h:Lk w ms l){f:Rat}{p:List Int}(hp:PW p)(hw:p.length=w){n:S4}(hn:n.t=(f+Jn (jB ms) p,p)):Lk w (FA ms n) (l++[(f,p)]) :=
 ⟨by rw[Td,hn];exact h.jF.add f p,λt ht=>by
  rcases Ib ht with rfl | ht
  ·rw[hn];exact hw
  ·exact h.wd t ht,λt ht=>by
  rcases Ib ht with rfl | ht
  ·rw[hn];exact hp
  ·exact h.pw t ht,by have:=gN ms n;have:=h.ln;rw[aF];simp only[eG];omega⟩
theorem Lk.sz{w:Nat}{l:List Tm}(h:Lk w ms l){t:S4}(ht:t∈ms):JL t.t.1<=KI l+1:=by
 rw[<-h.jF.Sh (bR (f:=S4.t) ht),h.jF.eq];exact RY _ _
structure QId(n:Nat)(l:List Tm) where
 k:Nat
 ms:List S4
 hI:Lk n ms (l.take k)
section
variable[Dr][df:Df]{P:Program}{Q:Exit->Act->World->Prop}{N:Nat}{m:Sl}{ops:Array Oper}{l:List Oper}{E E':Env}
theorem Lq{bs':List (Nat×Obj)}{E0:Env}(hp:bs.Perm bs')(k:JD P ops Q E0 l N m ⟨w0,F0,bs',G⟩):JD P ops Q E0 l N m ⟨w0,F0,bs,G⟩:=λhE a w ha hw=>k (λw h=>hE w (h.perm hp.symm)) a w ha (hw.perm hp)
end
theorem OW{r:Loop}(h:Li N m ps assign body r):{ ({ r with state:=.busy }:Loop)with state:=.ready,pending:=none }=r:=by
 obtain⟨h1,h2,_,_,_,_⟩:=h
 cases r;simp only at h1 h2;subst h1;subst h2;rfl
theorem ct{p1 p2:Tmp}{r:Loop}(h:Li N m #[p1,p2] assign body r)(v1 v2:Value)(h1:p1<N)(h2:p2<N):JP (df:=VE) N ((p2,v2)::(p1,v1)::m) (Dm r #[v1,v2]):=by
 have e:Dm r #[v1,v2]=((({ tmps:=r.tmps,defers:=[] }:Act).put (some p1) v1).put (some p2) v2):=by
  unfold Dm;rw[h.params];simp[Act.put]
 rw[e]
 exact(h.cm.put (d:=some p1) (by simpa[J5]using h1) v1).put (d:=some p2) (by simpa[J5]using h2) v2
def nzT(l:List Tm):List Tm:=l.filter λt=>decide (t.1≠0)
structure MuJ(ms:List S4) where
 seen:List Nat
 os:List ZR
 v:Value
 n:Nat
 ob:List (Nat×Obj)
 hr:Qx 263 5 v n (os.flatMap V1) ob
 nd:seen.Nodup
 lt:∀j∈seen,j<ms.length
 hn:os.length=n
 ho:J1 os=nzT (jB (seen.map (el ms)))
theorem Oe(p q:List Tm):(Jb p q).length=p.length*q.length:=by
 unfold Jb
 induction p with
 |nil=>simp
 |cons a p ih=>rw[List.flatMap_cons,aF,ih,aX,ef];simp[Jy];omega
theorem jh{p q:List Tm}{t:Tm}(h:t∈Jb p q):∃s∈p,∃u∈q,t.2=XH s.2 u.2:=by
 unfold Jb Jy at h
 obtain⟨s,hs,h1⟩:=List.mem_flatMap.1 h
 obtain⟨u,hu,rfl⟩:=List.mem_map.1 h1
 exact⟨s,hs,u,hu,rfl⟩
theorem jI:((Tryz.prog.fieldsOf 40).toList.map λf=>(f.name,f.offset,f.type))=[("Low",0,22),("High",1,22)]:=y0
theorem OM:Tryz.prog.underlying 40=some (.struct (Tryz.prog.fieldsOf 40)):=y0
theorem jH:Tryz.prog.stoodInHeld 40=false:=y0
theorem ON:Tryz.prog.eqGuardType Tryz.prog.depth 40=false:=y0
theorem Cz:Tryz.prog.underlying 22=some .string:=y0
theorem L8{β:Type}{f:α->β}{l:List α}{x y:β}(h:l.map f=[x,y]):∃a b,l=[a,b]/\f a=x/\f b=y:=by
 match l,h with
 |[a,b],h=>simp only[aN,List.map_nil,List.cons.injEq,and_true]at h;exact⟨a,b,rfl,h.1,h.2⟩
theorem equal_span(w:World)(a b c d:List UInt8):(fj 40 (.agg #[tx a,tx b]) (.agg #[tx c,tx d])).run Tryz.prog w = .ok (decide (a=c)&&decide (b=d)) w:=by
 obtain⟨f1,f2,hf,h1,h2⟩:=L8 jI
 simp only[eP]at h1 h2
 exact equal_txs OM jH hf ⟨by rw[h1.1];decide,h1.2.1,by rw[h1.2.2];exact Cz⟩ ⟨by rw[h2.1];decide,h2.2.1,by rw[h2.2.2];exact Cz⟩ w a b c d
section
variable[Dr][df:Df]{N:Nat}{m:Sl}{S:World->Prop}{ty:TypeId}
theorem yg{yT:TypeId}{x y:Operand}{a b c d:List UInt8}(hx:ev m x=some (.agg #[tx a,tx b]))(hy:ev m y=some (.agg #[tx c,tx d])):Qt Tryz.prog N m S (.binOp .neq 40 x y yT) ty (.bool (!(decide (a=c)&&decide (b=d)))):=λac w _ _ _ _ ha _=>by
 have h1:=equal_span w a b c d
 simp only[execOp,ha.ev hx,ha.ev hy,aU]
 have h2:(eqGuard .neq 40 x y (.agg #[tx a,tx b]) (.agg #[tx c,tx d])).run Tryz.prog w = .ok () w:=by
  simp[eqGuard,ON]
 rw[h2]
 simp[binOp,h1]
end
def kS(f:List UInt8)(b:Nat)(k:List Int):EE:=⟨f,⟨some ⟨b,0,none⟩,k.length,k.length⟩,k⟩
def gz(b:Nat)(ts:List EE):S1:=(⟨some ⟨b,0,none⟩,ts.length,ts.length⟩,ts)
theorem Wg{k:List Int}(h:F b=some ((k.map JY).toArray,T)):J7 F ⟨some ⟨b,0,none⟩,k.length,k.length⟩ k:=⟨Qy.of h we,rfl,aJ _⟩
theorem kT(h:∀t∈ts,t.f.length<=1000000/\t.k.length<=1000000)(hl:ts.length<=1000000):FC (gz b ts):=⟨rfl,h,hl⟩
structure Bd(p:List Tm)(k c z:Nat)(d:Int):Prop where
 can:Canon p
 wd:ZO k p
 nn:∀t∈p,(∀x∈t.2,0<=x)/\t.2.sum<=d
 ln:p.length<=c
 sz:∀t∈p,JL t.1<=z
theorem OJ:∀ {l:List Int},(∀x∈l,0<=x)->0<=l.sum
 |[],_=>ei _
 |a::l,h=>by
  have h1:=OJ (l:=l) λx hx=>h x (ab _ hx)
  have h2:=h a ao
  rw[bp];omega
theorem Tf:∀k,(az k (0:Int)).sum=0
 |0=>rfl
 |k+1=>by rw[List.replicate_succ,bp,Tf k];rfl
theorem QBt{l:List Int}(h:∀x∈l,0<=x):∀x∈l,x<=l.sum:=by
 induction l with
 |nil=>intro x hx;cases hx
 |cons a l ih =>
  intro x hx
  have h0:0<=l.sum:=OJ (λy hy=>h y (ab _ hy))
  have ha:=h a ao
  rw[bp]
  rcases List.mem_cons.1 hx with rfl | hx
  ·omega
  ·have:=ih (λy hy=>h y (ab _ hy)) x hx;omega
theorem Bd.pw{p:List Tm}{z:Nat}{d:Int}(h:Bd p k c z d)(hk:k<=1000)(hd:d<=1000000):∀t∈p,PW t.2:=λt ht=>by
 obtain⟨h1,h2⟩:=h.nn t ht
 exact⟨λx hx=>⟨h1 x hx,by have:=QBt h1 x hx;omega⟩,by rw[h.wd t ht];exact hk⟩
theorem Bd.mono{p:List Tm}{z c' z':Nat}{d d':Int}(h:Bd p k c z d)(hc:c<=c')(hz:z<=z')(hd:d<=d'):Bd p k c' z' d' :=
 ⟨h.can,h.wd,λt ht=>⟨(h.nn t ht).1,Int.le_trans (h.nn t ht).2 hd⟩,aH h.ln hc,λt ht=>aH (h.sz t ht) hz⟩
theorem Bf{q:List Tm}(hq:Canon q){z:Nat}(hz:∀t∈q,JL t.1<=z)(h1:1<=z)(x:List Int):JL (Jn q x)<=z:=by
 by_cases h:∃t∈q,t.2=x
 ·obtain⟨t,ht,rfl⟩:=h
  rw[D6 hq ht];exact hz t ht
 ·rw[WX λt ht e=>h ⟨t,ht,e⟩]
  exact aH wa h1
theorem MB{z1 z2:Nat}{q:List Tm}(hq:Canon q)(hwq:ZO n q)(hz:∀t∈q,JL t.1<=z2)(h1:1<=z2)(x:List Int):∀(p:List Tm),ZO n p->(∀t∈p,JL t.1<=z1)->JL (Jn (Jb p q) x)<=p.length*(z1+z2+1)+1
 |[],_,_=>by show JL (0:Rat)<=_;exact aH wa (Nat.le_add_left 1 _)
 |s::p,hw,hs=>by
  have ih:=MB hq hwq hz h1 x p hw.tail λt ht=>hs t (ab _ ht)
  rw[XO,YB,Be (hw s ao) hwq,aX,ef,Nat.one_mul]
  split
  ·have h2:=KU (s.1*Jn q (OL x s.2)) (Jn (Jb p q) x)
   have h3:=Z8 s.1 (Jn q (OL x s.2))
   have h4:=Bf hq hz h1 (OL x s.2)
   have h5:=hs s ao
   omega
  ·rw[Rat.zero_add];omega
theorem cE{a b:List Int}(h:a.length=b.length)(ha:∀x∈a,0<=x)(hb:∀x∈b,0<=x):(∀x∈XH a b,0<=x)/\(XH a b).sum=a.sum+b.sum:=by
 induction a generalizing b with
 |nil=>cases b with
  |nil=>exact⟨λx hx=>(by cases hx),rfl⟩
  |cons y b=>simp at h
 |cons x a ih=>cases b with
  |nil=>simp at h
  |cons y b =>
   have:=ih (b:=b) (by simpa using h) (λx hx=>ha x (ab _ hx)) (λx hx=>hb x (ab _ hx))
   have h1:=ha x ao
   have h2:=hb y ao
   show(∀z∈(x+y)::XH a b,0<=z)/\((x+y)::XH a b).sum=_
   refine⟨λz hz=>?_,?_⟩
   ·rcases List.mem_cons.1 hz with rfl | hz
    ·omega
    ·exact this.1 z hz
   ·rw[bp,this.2,bp,bp];omega
theorem Bd.QBR{p q:List Tm}{c1 z1 c2 z2:Nat}{d1 d2:Int}(hp:Bd p k c1 z1 d1)(hq:Bd q k c2 z2 d2):∀t∈Jb p q,t.2.length=k/\(∀x∈t.2,0<=x)/\t.2.sum<=d1+d2:=λt ht=>by
 obtain⟨s,hs,u,hu,e⟩:=jh ht
 have h1:=hp.wd s hs
 have h2:=hq.wd u hu
 obtain⟨h3,h4⟩:=cE O (hp.nn s hs).1 (hq.nn u hu).1
 rw[e]
 have h5:=(hp.nn s hs).2
 have h6:=(hq.nn u hu).2
 exact⟨by rw[Bm O];exact h1,h3,O⟩
theorem Bd.mul{p q:List Tm}{c1 z1 c2 z2:Nat}{d1 d2:Int}(hp:Bd p k c1 z1 d1)(hq:Bd q k c2 z2 d2)(h2:1<=z2):Bd (J6 (Jb p q)) k (c1*c2) (c1*(z1+z2+1)+1) (d1+d2) where
 can:=Yt _
 wd:=(hp.wd.Jb hq.wd).J6
 nn:=λt ht=>by
  obtain⟨y,hy,e⟩:=Ml ht
  rw[<-e];exact(hp.QBR hq y hy).2
 ln:=by
  have h1:=UH (Jb p q)
  rw[Oe]at h1
  exact aH h1 (aO hp.ln hq.ln)
 sz:=λt ht=>by
  rw[<-D6 (Yt _) ht,Wp]
  have h1:=MB hq.can hq.wd hq.sz h2 t.2 p hp.wd hp.sz
  have h3:p.length*(z1+z2+1)<=c1*(z1+z2+1):=bP _ hp.ln
  omega
theorem Bd.KI{p:List Tm}{z:Nat}{d:Int}(h:Bd p k c z d):YtjcphjpkimmmjaaGreatDoor.KI p<=c*(z+1):=aH (zr h.sz) (bP _ h.ln)
theorem Bd.const(a:Rat)(k:Nat):Bd (D5 a k) k 1 (JL a) 0:=by
 unfold D5
 by_cases h:a=0
 ·rw[if_pos h]
  exact⟨Canon.nil,λ_ h=>(by cases h),λ_ h=>(by cases h),aD _,λ_ h=>(by cases h)⟩
 ·rw[if_neg h]
  refine⟨⟨we,λt ht=>by rw[List.mem_singleton.1 ht];exact h⟩,λt ht=>by rw[List.mem_singleton.1 ht];simp,λt ht=>?_,we,λt ht=>by rw[List.mem_singleton.1 ht];exact aJ _⟩
  rw[List.mem_singleton.1 ht]
  refine⟨λx hx=>?_,?_⟩
  ·rw[List.eq_of_mem_replicate hx];exact ei _
  ·show(az k (0:Int)).sum<=0
   rw[Tf];exact ei _
theorem Sq:∀(a:List Int),XH a (az a.length 0)=a
 |[]=>rfl
 |x::a=>by
  show(x+0)::XH a (az a.length 0)=_
  rw[Sq a,Int.add_zero]
theorem QD8{p:List Tm}(hw:ZO k p):Jb p (D5 1 k)=p:=by
 rw[show D5 1 k=[(1,az k 0)]from by unfold D5;rw[if_neg wa]]
 induction p with
 |nil=>rfl
 |cons t p ih =>
  rw[XO,ih hw.tail]
  have:=hw t ao
  show[(t.1*1,XH t.2 (az k 0))]++p=_
  rw[bw,<-this,Sq];rfl
theorem Bd.pow{w:List Tm}{z:Nat}(h:Bd w k 3 z 2)(hz:1<=z):Bd (AB w k 0) k 1 1 0/\Bd (AB w k 1) k 3 (z+4) 2/\Bd (AB w k 2) k 9 (6*z+20) 4:=by
 have h0:Bd (AB w k 0) k 1 1 0:=(Bd.const 1 k).mono (aJ _) wa (ei _)
 have h1:Bd (AB w k 1) k 3 (z+4) 2:=(h0.mul h hz).mono O O O
 exact⟨h0,h1,(h1.mul h hz).mono O O O⟩
theorem Eb(x:Rat)(m:Nat):∀n:Nat,x^(m+n)=x^m*x^n
 |0=>by rw[Nat.add_zero,aR,bw]
 |n+1=>by rw[<-fi,aC,aC,Eb x m n,aZ]
theorem CI(y:Rat)(l:List Tm)(k:List Int):Jn (l.map λt=>((t.1*y,t.2):Tm)) k=Jn l k*y:=by
 induction l with
 |nil=>show(0:Rat)=0*y;rw[fk]
 |cons t l ih =>
  rw[aN,Jn,Jn,ih,Rat.add_mul]
  congr 1
  split
  ·rfl
  ·rw[fk]
theorem QFa(l:List Tm):J6 (l++OR (-1) l)=[]:=by
 have:Yh (l++OR (-1) l) []:=λk=>by
  rw[YB]
  unfold OR
  rw[if_neg wb,CI]
  show _=(0:Rat)
  grind
 rw[NV this];rfl
theorem pZ{xs:List Rat}{ks:List Int}{z:Nat}(hx:∀x∈xs,JL x<=z)(hk:∀k∈ks,0<=k)(hl:ks.length<=xs.length):∀n,n<=ks.length->JL (Ul 1 xs ks n)<=1+(ks.take n).sum.toNat*z+n
 |0,_=>by show JL (1:Rat)<=_;exact aH wa (Nat.le_add_right 1 _)
 |n+1,hn=>by
  have ih:=pZ hx hk hl n O
  have h1:=Z8 (Ul 1 xs ks n) (el xs n^(Qf ks n).toNat)
  have h2:=VT (el xs n) (Qf ks n).toNat
  have h3:=hx _ (Q4 (show n<xs.length by omega))
  have h4:(Qf ks n).toNat*JL (el xs n)<=(Qf ks n).toNat*z:=Nat.mul_le_mul_left _ h3
  have h5:=Ra (l:=ks) (i:=n) O
  have h6:=An hk n
  have h7:0<=(ks.take n).sum:=OJ λx hx=>hk x (List.mem_of_mem_take hx)
  rw[TY,h5,show((ks.take n).sum+Qf ks n).toNat=(ks.take n).sum.toNat+(Qf ks n).toNat by omega,ef]
  omega
def QIv:Nat->Nat
 |0=>1
 |1=>3
 |_=>9
def QIs(z:Nat):Nat->Nat
 |0=>z
 |1=>2*z+6
 |_=>9*z+34
theorem Bd.add{p q:List Tm}{c1 z1 c2 z2:Nat}{d:Int}(hp:Bd p k c1 z1 d)(hq:Bd q k c2 z2 d)(h1:1<=z1)(h2:1<=z2):Bd (J6 (p++q)) k (c1+c2) (z1+z2+1) d where
 can:=Yt _
 wd:=(hp.wd.append hq.wd).J6
 nn:=λt ht=>by
  obtain⟨y,hy,e⟩:=Ml ht
  rw[<-e]
  rcases List.mem_append.1 hy with hy | hy
  ·exact hp.nn y hy
  ·exact hq.nn y hy
 ln:=by
  have h3:=UH (p++q)
  rw[aF]at h3
  have:=hp.ln
  have:=hq.ln
  omega
 sz:=λt ht=>by
  rw[<-D6 (Yt _) ht,Wp,YB]
  have h3:=KU (Jn p t.2) (Jn q t.2)
  have h4:=Bf hp.can hp.sz h1 t.2
  have h5:=Bf hq.can hq.sz h2 t.2
  omega
structure QIj(ws:List (List Tm))(k z:Nat)(l:List Tm):Prop where
 ln:l.length<=6
 nn:∀t∈l,(∀x∈t.2,0<=x)/\t.2.sum<=2
 wl:∀t∈l,t.2.length<=ws.length
 sz:∀t∈l,JL t.1<=z
 ws:∀w∈ws,Bd w k 3 z 2
section
theorem qE(h:F b=some ((ts.flatMap Nn).toArray,T)):Qy F (gz b ts).1.q (gz b ts).1.n 2 ((gz b ts).2.flatMap Nn) :=
 Qy.of h (Mt (f:=Nn) Pm ts)
theorem cd(P:Pt)(hP:Y8 ts=P)(hp:∀e∈P,e.1.length<=1000000/\e.2.length<=1000000)(hl:P.length<=1000000):FC (gz b ts):=by
 refine kT (λt ht=>?_) ?_
 ·have:(t.f,t.k)∈Y8 ts:=List.mem_map.2 ⟨t,ht,rfl⟩
  rw[hP]at this;exact hp _ this
 ·have:=congrArg fq hP
  simp only[Y8,bz]at this;omega
theorem QEO(a:List UInt8):xI .neq (tx a) (tx a)=some (.bool false):=by simp[xI,tx]
theorem QE0{t:EE}(h:J7 F t.r t.k):WQ F [t]:=λx hx=>by rw[List.mem_singleton.1 hx];exact h
theorem QEz{t:EE}(h:J7 F t.r t.k)(hs:WQ F ts):WQ F (t::ts):=λx hx=>by
 rcases List.mem_cons.1 hx with rfl | hx
 ·exact h
 ·exact hs x hx
variable{w:World}{F:Gs}
end
theorem SI(i:Nat):Zd i*((2^i:Int):Rat)=1:=by
 unfold Zd
 induction i with
 |zero=>decide +kernel
 |succ i ih =>
  have e:((2^(i+1):Int):Rat)=((2^i:Int):Rat)*2:=by rw[fu,fa];rfl
  rw[aC,e]
  have h2:au 1 2*2=1:=wb
  rw[show au 1 2^i*au 1 2*(((2^i:Int):Rat)*2)=(au 1 2^i*((2^i:Int):Rat))*(au 1 2*2)from by
   rw[aZ,aZ];congr 1;rw[<-aZ,Rat.mul_comm (au 1 2),aZ],ih,h2,bw]
theorem Pe(i:Nat):Zd i≠0:=λe=>js i (by rw[e];rfl)
theorem Sa(x:Rat)(i:Nat):x / Zd i=x*((2^i:Int):Rat):=by
 have h:=SI i
 rw[fB]
 congr 1
 have h1:=Rat.inv_mul_cancel (Zd i) (Pe i)
 calc (Zd i)⁻¹=(Zd i)⁻¹*(Zd i*((2^i:Int):Rat)):=by rw[h,bw]
  _=((Zd i)⁻¹*Zd i)*((2^i:Int):Rat):=by rw[aZ]
  _=_:=by rw[h1,fz]
theorem I0(n:Int)(i:Nat):au n (2^i)=(n:Rat)*Zd i:=by
 have h:=Sa (((n:Int):Rat)*Zd i) i
 have hne:=Pe i
 rw[bU]
 have h2:((2^i:Int):Rat)≠0:=λe=>by have:=SI i;rw[e,fl]at this;exact absurd this wa
 have h3:(Zd i)=(((2^i:Int):Rat))⁻¹:=by
  have h1:=Rat.mul_inv_cancel (((2^i:Int):Rat)) h2
  calc Zd i=Zd i*(((2^i:Int):Rat)*(((2^i:Int):Rat))⁻¹):=by rw[h1,bw]
   _=(Zd i*((2^i:Int):Rat))*(((2^i:Int):Rat))⁻¹:=by rw[aZ]
   _=_:=by rw[SI,fz]
 rw[h3,fB]
theorem Rw(r:Rat×Rat)(b:Int):YH r b=(Yd r.1 b.toNat,-Yd (-r.2) b.toNat):=by
 unfold YH two Yd
 rw[I0,I0,Sa,Sa,Rat.intCast_neg,fA,fA]
theorem Pk(x y:Rat):Ks x y<=0↔x<=y:=by
 unfold Ks
 by_cases h:x<y
 ·rw[if_pos h];exact⟨λ_=>bG h,λ_=>wa⟩
 ·rw[if_neg h]
  by_cases e:x=y
  ·rw[if_pos e,e];exact⟨λ_=>ai,λ_=>wa⟩
  ·rw[if_neg e];refine⟨λk=>absurd k wa,λk=>absurd (Rat.lt_of_le_of_ne k e) h⟩
theorem uk(x y:Rat):Ks x y>=0↔y<=x:=by
 unfold Ks
 by_cases h:x<y
 ·rw[if_pos h];exact⟨λk=>absurd k wa,λk=>absurd k (Rat.not_le.2 h)⟩
 ·rw[if_neg h]
  refine⟨λ_=>Rat.not_lt.1 h,λ_=>?_⟩
  split<;>decide
theorem GA(x y:Rat):Ks x y<0↔x<y:=by
 rw[<-Rat.not_le,<-uk];omega
theorem GB(x y:Rat):Ks x y>0↔y<x:=by
 rw[<-Rat.not_le,<-Pk];omega
def Zc(x:Rat)(a:Rat×Rat):Prop:=a.1<=x/\x<=a.2
theorem zO(s:Rat×Rat)(x:Rat):(Xc s x).1<=s.1/\s.2<=(Xc s x).2/\Zc x (Xc s x)\/¬s.1<=s.2:=by
 by_cases h:s.1<=s.2
 ·left
  unfold Xc Zc
  dsimp only
  by_cases h1:x<s.1
  ·rw[if_pos ((GA x s.1).2 h1),if_neg (λk=>by have:=(GB x s.2).1 k;grind)]
   grind
  ·rw[if_neg (λk=>h1 ((GA x s.1).1 k))]
   by_cases h2:s.2<x
   ·rw[if_pos ((GB x s.2).2 h2)];grind
   ·rw[if_neg (λk=>h2 ((GB x s.2).1 k))];grind
 ·exact .inr h
theorem No:∀(l:List Rat) (s:Rat×Rat),s.1<=s.2->((l.foldl Xc s).1<=s.1/\s.2<=(l.foldl Xc s).2)/\∀y∈l,Zc y (l.foldl Xc s)
 |[],s,_=>⟨⟨ai,ai⟩,λy hy=>by cases hy⟩
 |x::l,s,h=>by
  rcases zO s x with ⟨h1,h2,h3⟩ | h1
  ·obtain⟨⟨g1,g2⟩,g3⟩:=No l (Xc s x) (by unfold Zc at h3;grind)
   unfold Zc at h3
   refine⟨⟨ak g1 h1,ak h2 g2⟩,λy hy=>?_⟩
   rcases List.mem_cons.1 hy with rfl | hy
   ·exact⟨ak g1 h3.1,ak h3.2 g2⟩
   ·exact g3 y hy
  ·exact absurd h h1
theorem Ka{r:Rat}{l:List Rat}{y:Rat}(h:y∈r::l):Zc y (KW r l):=by
 obtain⟨h1,h2⟩:=No l (r,r) ai
 rcases List.mem_cons.1 h with rfl | h
 ·exact h1
 ·exact h2 y h
theorem CN(l:List Rat):∀(s:Rat×Rat),((l.foldl Xc s).1=s.1\/(l.foldl Xc s).1∈l)/\((l.foldl Xc s).2=s.2\/(l.foldl Xc s).2∈l):=by
 induction l with
 |nil=>intro s;exact⟨.inl rfl,.inl rfl⟩
 |cons x l ih =>
  intro s
  obtain⟨h1,h2⟩:=ih (Xc s x)
  rw[eX]
  have w1:(Xc s x).1=s.1\/(Xc s x).1=x:=by unfold Xc;dsimp only;split;exact .inr rfl;exact .inl rfl
  have w2:(Xc s x).2=s.2\/(Xc s x).2=x:=by unfold Xc;dsimp only;split;exact .inr rfl;exact .inl rfl
  constructor
  ·rcases h1 with h1 | h1
   ·rw[h1];rcases w1 with w | w
    ·exact .inl w
    ·exact .inr (by rw[w];exact ao)
   ·exact .inr (ab _ h1)
  ·rcases h2 with h2 | h2
   ·rw[h2];rcases w2 with w | w
    ·exact .inl w
    ·exact .inr (by rw[w];exact ao)
   ·exact .inr (ab _ h2)
theorem GH(r:Rat)(l:List Rat):(KW r l).1∈r::l/\(KW r l).2∈r::l:=by
 obtain⟨h1,h2⟩:=CN l (r,r)
 unfold KW
 refine⟨?_,?_⟩
 ·rcases h1 with h | h
  ·rw[h];exact ao
  ·exact ab _ h
 ·rcases h2 with h | h
  ·rw[h];exact ao
  ·exact ab _ h
def Xi(a b:Rat×Rat):Prop:=b.1<=a.1/\a.1<=a.2/\a.2<=b.2
theorem z8{b:Rat×Rat}(h1:Zc a.1 b)(h2:Zc a.2 b)(h:a.1<=a.2):Xi a b:=⟨h1.1,h,h2.2⟩
theorem MT(a b:Rat×Rat):(Jc a b).1<=(Jc a b).2:=by
 have:=Ka (r:=a.1*b.1) (l:=[a.1*b.2,a.2*b.1,a.2*b.2]) ao
 exact ak this.1 this.2
theorem Zg{x y:Rat}{b:Rat×Rat}(hx:Zc x a)(hy:Zc y b):Zc (x*y) (Jc a b):=by
 have c11:Zc (a.1*b.1) (Jc a b):=Ka we
 have c12:Zc (a.1*b.2) (Jc a b):=Ka we
 have c21:Zc (a.2*b.1) (Jc a b):=Ka we
 have c22:Zc (a.2*b.2) (Jc a b):=Ka we
 generalize Jc a b=t at *
 obtain⟨x1,x2⟩:=hx
 obtain⟨y1,y2⟩:=hy
 unfold Zc at *
 have e1:Zc (a.1*y) t:=by
  rcases bf (a:=0) (b:=a.1)with h | h
  ·have:=aq y1 h
   have:=aq y2 h
   unfold Zc;grind
  ·have h':0<=-a.1:=by grind
   have:=aq y1 h'
   have:=aq y2 h'
   unfold Zc;grind
 have e2:Zc (a.2*y) t:=by
  rcases bf (a:=0) (b:=a.2)with h | h
  ·have:=aq y1 h
   have:=aq y2 h
   unfold Zc;grind
  ·have h':0<=-a.2:=by grind
   have:=aq y1 h'
   have:=aq y2 h'
   unfold Zc;grind
 unfold Zc at e1 e2
 rcases bf (a:=0) (b:=y)with h | h
 ·have:=aG x1 h
  have:=aG x2 h
  grind
 ·have h':0<=-y:=by grind
  have:=aG x1 h'
  have:=aG x2 h'
  grind
theorem Zc.sub{x:Rat}{b:Rat×Rat}(h:Zc x a)(k:Xi a b):Zc x b:=⟨ak k.1 h.1,ak h.2 k.2.2⟩
theorem Xi.ends{b:Rat×Rat}(k:Xi a b):Zc a.1 b/\Zc a.2 b:=⟨⟨k.1,ak k.2.1 k.2.2⟩,⟨ak k.1 k.2.1,k.2.2⟩⟩
theorem WT{b c d:Rat×Rat}(h:Xi a c)(k:Xi b d):Xi (Jc a b) (Jc c d):=by
 obtain⟨a1,a2⟩:=h.ends
 obtain⟨b1,b2⟩:=k.ends
 have all:∀z∈[a.1*b.1,a.1*b.2,a.2*b.1,a.2*b.2],Zc z (Jc c d):=λz hz=>by
  simp only[bt,bj,or_false]at hz
  rcases hz with rfl | rfl | rfl | rfl
  ·exact Zg a1 b1
  ·exact Zg a1 b2
  ·exact Zg a2 b1
  ·exact Zg a2 b2
 obtain⟨h1,h2⟩:=GH (a.1*b.1) [a.1*b.2,a.2*b.1,a.2*b.2]
 exact z8 (all _ h1) (all _ h2) (MT a b)
theorem X1{x y:Rat}(h0:0<=x)(h:x<=y):∀n:Nat,x^n<=y^n
 |0=>by rw[aR,aR];exact ai
 |n+1=>by
  have ih:=X1 h0 h n
  have hx:0<=x^n:=bD h0
  rw[aC,aC]
  have h1:=aq h hx
  have h2:=aG ih (ak h0 h)
  exact ak h1 h2
theorem neg_pow(x:Rat):∀n:Nat,(-x)^(2*n)=x^(2*n)/\(-x)^(2*n+1) = -(x^(2*n+1))
 |0=>by
  refine⟨by rw[eD,aR,aR],?_⟩
  rw[aC,aC,eD,aR,aR];grind
 |n+1=>by
  obtain⟨h1,h2⟩:=neg_pow x n
  have e:(-x)^(2*(n+1))=x^(2*(n+1)):=by
   rw[show 2*(n+1)=2*n+1+1 by omega,aC,h2,aC x];grind
  exact⟨e,by rw[aC,e,aC x];grind⟩
theorem yI(x:Rat):ED x.num<0↔x<0:=by
 rw[Cq]
 by_cases h:x<0
 ·rw[if_pos h];exact⟨λ_=>h,λ_=>wa⟩
 ·rw[if_neg h];refine⟨λk=>?_,λk=>absurd k h⟩
  split at k<;>omega
theorem Cp(x:Rat):ED x.num>0↔0<x:=by
 rw[Cq]
 by_cases h:x<0
 ·rw[if_pos h];refine⟨λk=>O,λk=>?_⟩;grind
 ·rw[if_neg h]
  by_cases e:x=0
  ·rw[if_pos e];refine⟨λk=>O,λk=>?_⟩;grind
  ·rw[if_neg e];refine⟨λ_=>?_,λ_=>wa⟩;grind
theorem Ef{x:Rat}(hx:Zc x a){n:Int}(hn:0<=n):Zc (x^n.toNat) (Kz a n):=by
 have c1:Zc (a.1^n.toNat) (KW (a.1^n.toNat) [a.2^n.toNat]):=Ka we
 have c2:Zc (a.2^n.toNat) (KW (a.1^n.toNat) [a.2^n.toNat]):=Ka we
 unfold Kz
 generalize KW (a.1^n.toNat) [a.2^n.toNat]=t at *
 obtain⟨m,hm⟩:∃m,n.toNat=2*m\/n.toNat=2*m+1:=⟨n.toNat / 2,O⟩
 obtain⟨x1,x2⟩:=hx
 unfold Zc at c1 c2
 by_cases hc:(decide (n>0)&&(decide (n%2=0)&&(decide (ED a.1.num<0)&&decide (ED a.2.num>0))))=true
 ·rw[if_pos hc]
  simp only[av,decide_eq_true_eq]at hc
  obtain⟨_,h2,h3,h4⟩:=hc
  rcases hm with hm | hm
  ·rw[hm]at c1 c2 ⊢
   refine⟨?_,?_⟩
   ·rcases bf (a:=0) (b:=x)with h | h
    ·exact bD h
    ·rw[<-(neg_pow x m).1];exact bD (by grind)
   ·rcases bf (a:=0) (b:=x)with h | h
    ·exact ak (X1 h x2 _) c2.2
    ·have:=X1 (x:=-x) (y:=-a.1) (by grind) (by grind) (2*m)
     rw[(neg_pow x m).1,(neg_pow a.1 m).1]at this
     exact ak this c1.2
  ·omega
 ·rw[if_neg hc]
  rcases hm with hm | hm
  ·
   rw[hm]at c1 c2 ⊢
   have hside:0<=a.1\/a.2<=0\/m=0:=by
    by_cases h3:a.1<0
    ·by_cases h4:0<a.2
     ·right;right
      rcases eM m with g | g
      ·exact g
      ·exfalso;apply hc
       simp only[av,decide_eq_true_eq]
       exact⟨O,O,(yI _).2 h3,(Cp _).2 h4⟩
     ·right;left;grind
    ·left;grind
   rcases hside with h | h | h
   ·exact⟨ak c1.1 (X1 h x1 _),ak (X1 (ak h x1) x2 _) c2.2⟩
   ·have p1:=X1 (x:=-a.2) (y:=-x) (by grind) (by grind) (2*m)
    have p2:=X1 (x:=-x) (y:=-a.1) (by grind) (by grind) (2*m)
    rw[(neg_pow x m).1,(neg_pow a.2 m).1]at p1
    rw[(neg_pow x m).1,(neg_pow a.1 m).1]at p2
    exact⟨ak c2.1 p1,ak p2 c1.2⟩
   ·subst h
    rw[eD,aR]at c1 ⊢
    exact c1
  ·
   have odd:∀ {u v:Rat},u<=v->u^(2*m+1)<=v^(2*m+1):=λ{u v} huv=>by
    rcases bf (a:=0) (b:=u)with h | h
    ·exact X1 h huv _
    ·rcases bf (a:=0) (b:=v)with g | g
     ·have h1:0<=(-u)^(2*m+1):=bD (by grind)
      have h2:0<=v^(2*m+1):=bD g
      rw[(neg_pow u m).2]at h1
      grind
     ·have:=X1 (x:=-v) (y:=-u) (by grind) (by grind) (2*m+1)
      rw[(neg_pow u m).2,(neg_pow v m).2]at this
      grind
   rw[hm]at c1 c2 ⊢
   exact⟨ak c1.1 (odd x1),ak (odd x2) c2.2⟩
theorem yx(a:Rat×Rat)(h:a.1<=a.2){n:Int}(hn:0<=n):(∃x,Zc x a/\(Kz a n).1=x^n.toNat)/\(∃x,Zc x a/\(Kz a n).2=x^n.toNat):=by
 obtain⟨h1,h2⟩:=GH (a.1^n.toNat) [a.2^n.toNat]
 have key:∀z∈[a.1^n.toNat,a.2^n.toNat],∃x,Zc x a/\z=x^n.toNat:=λz hz=>by
  simp only[bt,bj,or_false]at hz
  rcases hz with rfl | rfl
  ·exact⟨a.1,⟨ai,h⟩,rfl⟩
  ·exact⟨a.2,⟨h,ai⟩,rfl⟩
 unfold Kz
 refine⟨?_,key _ h2⟩
 dsimp only
 split
 ·rename_i hc
  simp only[av,decide_eq_true_eq]at hc
  have h3:=(yI _).1 hc.2.2.1
  have h4:=(Cp _).1 hc.2.2.2
  refine⟨0,⟨bG h3,bG h4⟩,?_⟩
  obtain⟨m,hm⟩:∃m,n.toNat=m+1:=⟨n.toNat - 1,O⟩
  rw[hm,aC,fl]
 ·exact key _ h1
theorem pM(a:Rat×Rat)(h:a.1<=a.2){n:Int}(hn:0<=n):(Kz a n).1<=(Kz a n).2:=by
 have:=Ef (x:=a.1) (a:=a) ⟨ai,h⟩ hn
 exact ak this.1 this.2
theorem pK{b:Rat×Rat}(h:Xi a b){n:Int}(hn:0<=n):Xi (Kz a n) (Kz b n):=by
 obtain⟨⟨x,hx,e1⟩,⟨y,hy,e2⟩⟩:=yx a h.2.1 hn
 exact z8 (by rw[e1];exact Ef (hx.sub h) hn) (by rw[e2];exact Ef (hy.sub h) hn) (pM a h.2.1 hn)
section
variable{xs:List Rat}{rs bs:List (Rat×Rat)}{ks:List Int}
theorem FV{c:Rat}{r:Rat×Rat}(hc:Zc c r)(hk:∀k∈ks,0<=k)(hx:∀i,i<rs.length->Zc (el xs i) (el rs i)):∀m,m<=rs.length->Zc (Ul c xs ks m) (Vo r rs ks m)
 |0,_=>hc
 |m+1,hm=>by
  have ih:=FV hc hk hx m O
  have h0:=An hk m
  rw[TY,WS]
  by_cases g:Qf ks m>0
  ·rw[if_pos g];exact Zg ih (Ef (hx m O) h0)
  ·rw[if_neg g,show(Qf ks m).toNat=0 by omega,aR,bw];exact ih
theorem FU{r q:Rat×Rat}(hr:Xi r q)(hk:∀k∈ks,0<=k)(hx:∀i,i<rs.length->Xi (el rs i) (el bs i)):∀m,m<=rs.length->Xi (Vo r rs ks m) (Vo q bs ks m)
 |0,_=>hr
 |m+1,hm=>by
  have ih:=FU hr hk hx m O
  have h0:=An hk m
  rw[WS,WS]
  by_cases g:Qf ks m>0
  ·rw[if_pos g,if_pos g];exact WT ih (pK (hx m O) h0)
  ·rw[if_neg g,if_neg g];exact ih
theorem UL{l:List Tm}(hl:∀t∈l,t.2.length<=rs.length/\∀k∈t.2,0<=k)(hx:∀i,i<rs.length->Zc (el xs i) (el rs i)):Zc (vL xs l) (J8 rs l):=by
 have key:∀(l:List Tm) (a:Rat) (r:Rat×Rat),(∀t∈l,t.2.length<=rs.length/\∀k∈t.2,0<=k)->Zc a r->Zc (l.foldl (λa t=>a+Ul t.1 xs t.2 t.2.length) a) (l.foldl (λa t=>Y3 a (Vo (t.1,t.1) rs t.2 t.2.length)) r):=by
  intro l
  induction l with
  |nil=>intro a r _ h;exact h
  |cons t l ih =>
   intro a r hl h
   obtain⟨h1,h2⟩:=hl t ao
   have hv:=FV (c:=t.1) (r:=(t.1,t.1)) ⟨ai,ai⟩ h2 hx t.2.length h1
   refine ih _ _ (λu hu=>hl u (ab _ hu)) ?_
   unfold Zc Y3 at *
   dsimp only at *
   grind
 exact key l 0 (0,0) hl ⟨ai,ai⟩
theorem UK{l:List Tm}(hl:∀t∈l,t.2.length<=rs.length/\∀k∈t.2,0<=k)(hx:∀i,i<rs.length->Xi (el rs i) (el bs i)):Xi (J8 rs l) (J8 bs l):=by
 have key:∀(l:List Tm) (r q:Rat×Rat),(∀t∈l,t.2.length<=rs.length/\∀k∈t.2,0<=k)->Xi r q->Xi (l.foldl (λa t=>Y3 a (Vo (t.1,t.1) rs t.2 t.2.length)) r) (l.foldl (λa t=>Y3 a (Vo (t.1,t.1) bs t.2 t.2.length)) q):=by
  intro l
  induction l with
  |nil=>intro r q _ h;exact h
  |cons t l ih =>
   intro r q hl h
   obtain⟨h1,h2⟩:=hl t ao
   have hv:=FU (r:=(t.1,t.1)) (q:=(t.1,t.1)) ⟨ai,ai,ai⟩ h2 hx t.2.length h1
   refine ih _ _ (λu hu=>hl u (ab _ hu)) ?_
   unfold Xi Y3 at *
   dsimp only at *
   grind
 exact key l (0,0) (0,0) hl ⟨ai,ai,ai⟩
theorem QCv(x y:Rat):Jc (x,x) (y,y)=(x*y,x*y):=by
 have h:=GH (x*y) [x*y,x*y,x*y]
 simp only[bt,bj,or_false,or_self]at h
 exact Prod.ext h.1 h.2
end
abbrev J4:=Rat×Rat
def KK(a b:List J4):List J4:=(ag a.length).map λk=>Y3 (el a k) (el b k)
def Vf(a b:List J4)(k i:Nat):J4:=(ag i).foldl (λs j=>Y3 s (Jc (el a j) (el b (k - j)))) (0,0)
def XS(a b:List J4):List J4:=(ag a.length).map λk=>Vf a b k (k+1)
def Ye(a:Rat)(n:Nat):List J4:=(a,a)::az n (0,0)
def Z6(t:J4):Nat->List J4
 |0=>[t]
 |n+1=>t::(1,1)::az n (0,0)
def Dp(y b:List J4)(n:Nat):List J4:=(ag n).foldl (λy _=>XS y b) y
def Wj(c:Rat)(ks:List Int)(all:List (List J4))(n i:Nat):List J4:=(ag i).foldl (λy v=>Dp y (el all v) (Qf ks v).toNat) (Ye c n)
def Kf(p:List Tm)(all:List (List J4))(n:Nat):List J4:=p.foldl (λs t=>KK s (Wj t.1 t.2 all n all.length)) (Ye 0 n)
def JX(rs:List (List Tm))(t:J4)(box:List J4):Nat->List (List J4)
 |0=>box.map λx=>[x]
 |k+1=>(ag box.length).map λi=>el (JX rs t box k) i++[Jc (el (Kf (el rs i) (Z6 t k::JX rs t box k) k) k) ((((k+1:Nat):Int):Rat)⁻¹,(((k+1:Nat):Int):Rat)⁻¹)]
theorem Md(a b:List J4):(KK a b).length=a.length:=by simp[KK]
theorem Gx(a b:List J4):(XS a b).length=a.length:=by simp[XS]
theorem YT(a:Rat)(n:Nat):(Ye a n).length=n+1:=by simp[Ye]
theorem Bi(t:J4)(n:Nat):(Z6 t n).length=n+1:=by cases n<;>simp[Z6]
theorem Ha{β:Type}{f:β->α->β}{P:β->Prop}(hf:∀b a,P b->P (f b a)):∀(l:List α) {b:β},P b->P (l.foldl f b)
 |[],_,h=>h
 |a::l,b,h=>Ha hf l (hf b a h)
theorem Ge(y b:List J4)(n:Nat):(Dp y b n).length=y.length :=
 Ha (P:=λz:List J4=>z.length=y.length) (λz _ h=>(Gx z b).trans h) (ag n) rfl
theorem Yn(c:Rat)(ks:List Int)(all:List (List J4))(n i:Nat):(Wj c ks all n i).length=n+1 :=
 Ha (P:=λz:List J4=>z.length=n+1) (λz v h=>(Ge z _ _).trans h) (ag i) (YT c n)
theorem Y1(p:List Tm)(all:List (List J4))(n:Nat):(Kf p all n).length=n+1 :=
 Ha (P:=λz:List J4=>z.length=n+1) (λz t h=>(Md z _).trans h) p (YT 0 n)
theorem ZS(rs:List (List Tm))(t:J4)(box:List J4)(k:Nat):(JX rs t box k).length=box.length:=by
 cases k<;>simp[JX]
theorem Xk[Inhabited α]{n i:Nat}(f:Nat->α)(h:i<n):el ((ag n).map f) i=f i:=by
 rw[JK (by simpa using h)];simp
theorem YD(rs:List (List Tm))(t:J4)(box:List J4):∀(k:Nat) {i:Nat},i<box.length->(el (JX rs t box k) i).length=k+1
 |0,i,h=>by
  show(el (box.map λx=>[x]) i).length=1
  rw[JK (by simpa using h)];simp
 |k+1,i,h=>by
  rw[JX,Xk _ h,aF,YD rs t box k h];rfl
theorem MG{a b c d:J4}(h:Xi a c)(k:Xi b d):Xi (Y3 a b) (Y3 c d):=by
 obtain⟨h1,h2,h3⟩:=h;obtain⟨k1,k2,k3⟩:=k
 refine⟨?_,?_,?_⟩<;>(unfold Y3;grind)
theorem Xi.self{a:J4}(h:a.1<=a.2):Xi a a:=⟨ai,h,ai⟩
theorem Xi.pt(x:Rat):Xi (x,x) (x,x):=Xi.self ai
def X0(a b:List J4):Prop:=a.length=b.length/\∀i,i<a.length->Xi (el a i) (el b i)
theorem X0.of{f g:Nat->J4}(h:∀i,i<n->Xi (f i) (g i)):X0 ((ag n).map f) ((ag n).map g) :=
 ⟨we,λi hi=>by
  have hi':i<n:=by simpa using hi
  rw[Xk _ hi',Xk _ hi'];exact h i hi'⟩
theorem jZ{a b c d:List J4}(h:X0 a c)(k:X0 b d)(hl:a.length=b.length):X0 (KK a b) (KK c d):=by
 unfold KK
 rw[<-h.1]
 exact X0.of λi hi=>MG (h.2 i hi) (k.2 i (hl ▸ hi))
theorem UU{a b c d:List J4}(h:X0 a c)(k:X0 b d)(hl:a.length<=b.length){m:Nat}(hm:m<a.length):∀i,i<=m+1->Xi (Vf a b m i) (Vf c d m i)
 |0,_=>Xi.pt 0
 |i+1,hi=>by
  unfold Vf
  rw[aV,aw,aw]
  exact MG (UU h k hl hm i O) (WT (h.2 i O) (k.2 (m - i) O))
theorem OC{a b c d:List J4}(h:X0 a c)(k:X0 b d)(hl:a.length<=b.length):X0 (XS a b) (XS c d):=by
 unfold XS
 rw[<-h.1]
 exact X0.of λi hi=>UU h k hl hi (i+1) (aJ _)
theorem F9{a b c d:List J4}(h:X0 a c)(k:X0 b d)(hl:a.length<=b.length):∀n,X0 (Dp a b n) (Dp c d n)
 |0=>h
 |n+1=>by
  unfold Dp
  rw[aV,aw,aw]
  exact OC (F9 h k hl n) k (by rw[show(List.foldl (λy (_:Nat)=>XS y b) a (ag n)).length=a.length from Ge a b n];exact hl)
theorem LR(a:Rat)(n:Nat):X0 (Ye a n) (Ye a n):=⟨rfl,λi hi=>Xi.self (by
 unfold Ye
 cases i with
 |zero=>exact ai
 |succ i =>
  have hi':i<n:=by rw[YT]at hi;omega
  show(el (az n ((0,0):J4)) i).1<=(el (az n ((0,0):J4)) i).2
  rw[JK (by simpa using hi')];simp)⟩
theorem X0.cons{x y:J4}{a b:List J4}(h:Xi x y)(k:X0 a b):X0 (x::a) (y::b) :=
 ⟨by simp[k.1],λi hi=>by
  cases i with
  |zero=>exact h
  |succ i=>exact k.2 i (by simpa using hi)⟩
theorem X0.QGI(n:Nat):X0 (az n ((0,0):J4)) (az n (0,0)) :=
 ⟨rfl,λi hi=>Xi.self (by rw[JK hi];simp)⟩
theorem gE{t u:J4}(h:Xi t u):∀n,X0 (Z6 t n) (Z6 u n)
 |0=>X0.cons h ⟨rfl,λi hi=>by cases hi⟩
 |n+1=>X0.cons h (X0.cons (Xi.pt 1) (X0.QGI n))
def Fl(n:Nat)(a b:List (List J4)):Prop:=a.length=b.length/\∀i,i<a.length->(el a i).length=n/\X0 (el a i) (el b i)
theorem IX{a b:List (List J4)}(h:Fl (n+1) a b)(c:Rat)(ks:List Int):∀i,i<=a.length->X0 (Wj c ks a n i) (Wj c ks b n i)
 |0,_=>LR c n
 |i+1,hi=>by
  unfold Wj
  rw[aV,aw,aw]
  exact F9 (IX h c ks i O) (h.2 i O).2 (Nat.le_of_eq ((Yn c ks a n i).trans (h.2 i O).1.symm)) _
theorem jQ{a b:List (List J4)}(h:Fl (n+1) a b)(p:List Tm):X0 (Kf p a n) (Kf p b n):=by
 have key:∀(p:List Tm) (u v:List J4),u.length=n+1->X0 u v->X0 (p.foldl (λs t=>KK s (Wj t.1 t.2 a n a.length)) u) (p.foldl (λs t=>KK s (Wj t.1 t.2 b n b.length)) v):=by
  intro p
  induction p with
  |nil=>intro u v _ k;exact k
  |cons t p ih =>
   intro u v hu k
   refine ih _ _ ((Md _ _).trans hu) (jZ k ?_ (hu.trans (Yn _ _ _ _ _).symm))
   rw[<-h.1]
   exact IX h t.1 t.2 a.length (aJ _)
 exact key p _ _ (YT 0 n) (LR 0 n)
theorem X0.snoc{x y:J4}{a b:List J4}(h:Xi x y)(k:X0 a b):X0 (a++[x]) (b++[y]) :=
 ⟨by simp[k.1],λi hi=>by
  rw[aF,eG]at hi
  by_cases e:i<a.length
  ·have e':i<b.length:=k.1 ▸ e
   have:=k.2 i e
   rw[JK wg,JK wg,eu e,eu e',<-JK e,<-JK e']
   exact this
  ·have e1:i=a.length:=O
   have e2:i=b.length:=by rw[<-k.1];exact e1
   rw[JK wg,JK wg,ep O,ep O]
   simpa[e1,k.1]using h⟩
theorem EN{rs:List (List Tm)}{t u:J4}{x y:List J4}(ht:Xi t u)(hb:X0 x y):∀k,Fl (k+1) (JX rs t x k) (JX rs u y k)
 |0=>⟨by simp[JX,hb.1],λi hi=>by
  have h1:i<x.length:=by simpa[JX]using hi
  have h2:i<y.length:=hb.1 ▸ h1
  show(el (x.map λx=>[x]) i).length=1/\X0 (el (x.map λx=>[x]) i) (el (y.map λx=>[x]) i)
  rw[JK (by simpa using h1),JK (by simpa using h2)]
  refine⟨we,?_⟩
  rw[bm,bm]
  refine X0.cons ?_ ⟨rfl,λi hi=>by cases hi⟩
  have:=hb.2 i h1
  rwa [JK h1,JK h2]at this⟩
 |k+1=>by
  have ih:=EN (rs:=rs) ht hb k
  refine⟨by rw[ZS,ZS];exact hb.1,λi hi=>?_⟩
  rw[ZS]at hi
  refine⟨YD rs t x (k+1) hi,?_⟩
  have h2:i<y.length:=hb.1 ▸ hi
  rw[JX,JX,Xk _ hi,Xk _ h2]
  have ih2:Fl (k+1) (Z6 t k::JX rs t x k) (Z6 u k::JX rs u y k):=⟨by simp[ih.1],λi hi=>by
   cases i with
   |zero=>exact⟨Bi t k,gE ht k⟩
   |succ i=>exact ih.2 i (by simpa using hi)⟩
  have h3:=jQ ih2 (el rs i)
  exact X0.snoc (WT (h3.2 k (by rw[Y1];omega)) (Xi.pt _)) (ih.2 i (by rw[ZS];exact hi)).2
def Cl(Q d b:Nat)(x:Rat):Prop:=∃z:Int,x=au z ((Q^d:Nat):Int)/\z.natAbs<=2^b*Q^d
theorem Cl.add{d:Nat}{x y:Rat}(h0:0<Q)(hx:Cl Q d b x)(hy:Cl Q d b y):Cl Q d (b+1) (x+y):=by
 obtain⟨z,rfl,h1⟩:=hx;obtain⟨u,rfl,h2⟩:=hy
 have hq:((Q^d:Nat):Int)≠0:=by have:=ee (n:=d) h0;omega
 refine⟨z+u,?_,?_⟩
 ·rw[Rat.divInt_add_divInt _ _ hq hq,<-Int.add_mul,bN hq]
 ·have:(z+u).natAbs<=z.natAbs+u.natAbs:=Int.natAbs_add_le z u
  rw[Nat.pow_succ]
  have e:2^b*2*Q^d=2^b*Q^d+2^b*Q^d:=by rw[ey,Nat.mul_comm 2,<-ey,Nat.mul_two]
  omega
theorem Cl.mul{d e:Nat}{x y:Rat}(h0:0<Q)(hx:Cl Q d b x)(hy:Cl Q e c y):Cl Q (d+e) (b+c) (x*y):=by
 obtain⟨z,rfl,h1⟩:=hx;obtain⟨u,rfl,h2⟩:=hy
 refine⟨z*u,?_,?_⟩
 ·rw[Rat.divInt_mul_divInt,bO];congr 1
 ·rw[bQ,bO,bO]
  calc z.natAbs*u.natAbs<=(2^b*Q^d)*(2^c*Q^e):=aO h1 h2
   _=2^b*2^c*(Q^d*Q^e):=by ac_rfl
theorem Cl.mono{d e:Nat}{x:Rat}(h0:0<Q)(h:Cl Q d b x)(hd:d<=e)(hb:b<=c):Cl Q e c x:=by
 obtain⟨z,rfl,h1⟩:=h
 obtain⟨k,rfl⟩:=Nat.le.dest hd
 have hq:((Q^d:Nat):Int)≠0:=by have:=ee (n:=d) h0;omega
 have hk:((Q^k:Nat):Int)≠0:=by have:=ee (n:=k) h0;omega
 refine⟨z*((Q^k:Nat):Int),?_,?_⟩
 ·rw[bO,fc,bN hk]
 ·rw[bQ,bO,ba,<-ey]
  exact aO (aH h1 (bP _ (Nat.pow_le_pow_right wa hb))) (aJ _)
theorem Cl.neg{d:Nat}{x:Rat}(h:Cl Q d b x):Cl Q d b (-x):=by
 obtain⟨z,rfl,h1⟩:=h
 exact⟨-z,by rw[Rat.neg_divInt],by rw[Int.natAbs_neg];exact h1⟩
theorem Cl.JL{Q d:Nat}{x:Rat}(h0:0<Q)(h:Cl Q d b x):JL x<=b+d*sz (Q:Int)+2:=by
 obtain⟨z,rfl,h1⟩:=h
 have hq:((Q^d:Nat):Int)≠0:=by have:=ee (n:=d) h0;omega
 refine aH (VJ hq) ?_
 have e:((Q^d:Nat):Int)=(Q:Int)^d:=Int.natCast_pow Q d
 have h2:sz ((Q^d:Nat):Int)<=d*sz (Q:Int)+1:=by rw[e];exact Di _ _
 have h3:sz z<=b+1+sz ((Q^d:Nat):Int):=by
  refine aH (Kw (b:=((2^b:Nat):Int)*((Q^d:Nat):Int)) (by rw[bQ,ba,ba];exact h1)) ?_
  refine aH (Wd _ _) (Nat.add_le_add_right ?_ _)
  rw[XL,ba]
  exact Nat.pow_lt_pow_right wa O
 omega
theorem Cl.of(x:Rat)(h0:0<Q)(h:x.den ∣ Q){b:Nat}(hb:sz x.num<=b):Cl Q 1 b x:=by
 obtain⟨k,rfl⟩:=h
 have hk:0<k:=Nat.pos_of_mul_pos_left h0 |> λ_=>Nat.pos_of_ne_zero (by rintro rfl;simp at h0)
 have hk':(k:Int)≠0:=O
 refine⟨x.num*k,?_,?_⟩
 ·rw[fC,fc,bN hk',Rat.num_divInt_den]
 ·rw[fC,bQ,ba]
  have h1:=(XL x.num b).1 hb
  have h2:k<=x.den*k:=Nat.le_mul_of_pos_left k x.den_pos
  exact aO O h2
def XF(a b:J4):J4:=(Ol a.1 b.1,Oq a.2 b.2)
def Dw(f:J4->J4->J4)(a b:List J4):List J4:=(ag a.length).map λi=>f (el a i) (el b i)
def Oz(a b:J4):Bool:=decide (Ks b.1 a.1<=0)&&decide (Ks a.2 b.2<=0)
def AX(a b:List J4):Bool:=(ag a.length).all λi=>Oz (el a i) (el b i)
def Jz(l:List J4):Bool:=l.any λs=>Jj s.1||Jj s.2
def Zp(rs:List (List Tm))(fr t2:Rat)(x on:List J4):List J4:=(ag x.length).map λi=>Y3 (el x i) (Jc (0,t2 - fr) (J8 ((fr,t2)::on) (el rs i)))
def TH(b:Int)(v n:J4):J4 :=
 YH ((XF v n).1 - (((XF v n).2 - (XF v n).1)*au 1 4+(((two b:Int):Rat))⁻¹),(XF v n).2+(((XF v n).2 - (XF v n).1)*au 1 4+(((two b:Int):Rat))⁻¹)) b
def EM(rs:List (List Tm))(fr t2:Rat)(x:List J4)(b:Int):Nat->List J4->Option (List J4)
 |0,_=>none
 |k+1,v=>if Jz v=true then none else
  if AX (Zp rs fr t2 x v) v=true then some ((Zp rs fr t2 x v).map (YH · b))else EM rs fr t2 x b k (Dw (TH b) v (Zp rs fr t2 x v))
def Y2(rs:List (List Tm))(fr t2:Rat)(x:List J4)(b:Int):Option (List J4) :=
 EM rs fr t2 x b 12 (Dw (λu v=>YH (XF u v) b) x (Zp rs fr t2 x x))
def Ww(l:List J4)(h:Rat)(i:Nat):J4:=(ag i).foldl (λs k=>Y3 s (Jc (el l k) (h^k,h^k))) (0,0)
def Zn(rs:List (List Tm))(fr t2:Rat)(x on:List J4)(n:Nat):List J4 :=
 (ag x.length).map λi=>Y3 (Ww (el (JX rs (fr,fr) x n) i) (t2 - fr) (n+1)) (Jc (el (el (JX rs (fr,t2) on (n+1)) i) (n+1)) ((t2 - fr)^(n+1),(t2 - fr)^(n+1)))
def KJ(rs:List (List Tm))(fr t2:Rat)(x:List J4)(n:Nat)(b:Int):Option (List J4×List J4) :=
 (Y2 rs fr t2 x b).map λw=>(w,(Zn rs fr t2 x w n).map (YH · b))
def Wb(rs:List (List Tm))(n:Nat)(b:Int):Rat->List J4->List Rat->Option (List (Rat×List J4×List J4))
 |_,_,[]=>some []
 |fr,x,e::es=>match KJ rs fr e x n b with
  |none=>none
  |some (w,l)=>(Wb rs n b e l es).map λr=>(e,w,l)::r
theorem XI:YW Tryz.prog 38=some (true,3):=y0
theorem zL:XC Tryz.prog 38=some [.slice none 0 0,.slice none 0 0,.slice none 0 0]:=y0
theorem QAF:Zz Tryz.prog 38=some [(0,1),(1,1),(2,1)]:=y0
theorem Mu:KC Tryz.prog 38 0=some (0,34):=y0
theorem Ae:KC Tryz.prog 38 1=some (1,35):=y0
theorem K3:KC Tryz.prog 38 2=some (2,36):=y0
theorem Tj:Hr Tryz.prog 45=some 36:=y0
theorem EY:Hr Tryz.prog 77=some 123:=y0
theorem ZF:YW Tryz.prog 123=some (true,3):=y0
theorem W3:XC Tryz.prog 123=some [.string .empty,.slice none 0 0,.slice none 0 0]:=y0
theorem QCH:ZU Tryz.prog 123=some 64:=y0
theorem Rs:Zz Tryz.prog 123=some [(0,1),(1,1),(2,1)]:=y0
theorem E2:KC Tryz.prog 123 0=some (0,22):=y0
theorem Ah:KC Tryz.prog 123 1=some (1,36):=y0
theorem Ph:KC Tryz.prog 123 2=some (2,36):=y0
theorem QA0:YW Tryz.prog 163=some (false,1):=y0
theorem GP:Hr Tryz.prog 163=some 173:=y0
theorem Qi:YW Tryz.prog 168=some (true,8):=y0
theorem Ji:XC Tryz.prog 168=some [.int .i64 0,.slice none 0 0,.int .i64 0,.slice none 0 0,.int .i64 0,.slice none 0 0,.int .i64 0,.slice none 0 0]:=y0
theorem Wq:ZU Tryz.prog 168=some 128:=y0
theorem YG:Zz Tryz.prog 168=some [(0,4),(4,4)]:=y0
theorem Xu:KC Tryz.prog 168 0=some (0,135):=y0
theorem Xt:KC Tryz.prog 168 1=some (4,135):=y0
theorem JE:YW Tryz.prog 170=some (false,1):=y0
theorem QDd:XC Tryz.prog 170=some [.slice none 0 0]:=y0
theorem JN:Hr Tryz.prog 170=some 168:=y0
theorem XK:YW Tryz.prog 173=some (true,1):=y0
theorem WZ:XC Tryz.prog 173=some [.slice none 0 0]:=y0
theorem QCG:ZU Tryz.prog 173=some 24:=y0
theorem y8:Zz Tryz.prog 173=some [(0,1)]:=y0
theorem Xg:KC Tryz.prog 173 0=some (0,170):=y0
theorem BD:YW Tryz.prog 183=some (true,9):=y0
theorem Ca:XC Tryz.prog 183=some [.int .i64 0,.slice none 0 0,.int .i64 0,.slice none 0 0,.int .i64 0,.slice none 0 0,.int .i64 0,.slice none 0 0,.slice none 0 0]:=y0
theorem y7:Zz Tryz.prog 183=some [(0,4),(4,4),(8,1)]:=y0
theorem B8:KC Tryz.prog 183 0=some (0,135):=y0
theorem B7:KC Tryz.prog 183 1=some (4,135):=y0
theorem B6:KC Tryz.prog 183 2=some (8,170):=y0
theorem QDc:XC Tryz.prog 188=some [.slice none 0 0,.slice none 0 0]:=y0
theorem QBV:Zz Tryz.prog 188=some [(0,1),(1,1)]:=y0
theorem B5:KC Tryz.prog 188 0=some (0,186):=y0
theorem ub:KC Tryz.prog 188 1=some (1,170):=y0
theorem Ut:Hr Tryz.prog 216=some 218:=y0
theorem Kv:YW Tryz.prog 218=some (true,2):=y0
theorem NK:XC Tryz.prog 218=some [.slice none 0 0,.slice none 0 0]:=y0
theorem QCF:ZU Tryz.prog 218=some 48:=y0
theorem y6:Zz Tryz.prog 218=some [(0,1),(1,1)]:=y0
theorem ua:KC Tryz.prog 218 0=some (0,170):=y0
theorem qR:KC Tryz.prog 218 1=some (1,170):=y0
theorem Gw:YW Tryz.prog 276=some (true,5):=y0
theorem TU:XC Tryz.prog 276=some [.slice none 0 0,.slice none 0 0,.slice none 0 0,.int .i64 0,.slice none 0 0]:=y0
theorem QBU:Zz Tryz.prog 276=some [(0,3),(3,1),(4,1)]:=y0
theorem uZ:KC Tryz.prog 276 1=some (3,3):=y0
theorem Ag:KC Tryz.prog 276 2=some (4,186):=y0
theorem Re:Hr Tryz.prog 312=some 170:=y0
section
open Go Go.RowKit Ig
section
variable[Dr][df:Df]{P:Program}{Q:Exit->Act->World->Prop}{N:Nat}{m:Sl}{l:List Oper}{w0:World}{F0:Gs}{bs bs0:List (Nat×Obj)}{G G0:Gs->Prop}
def GO:List Nat->List (List Nat)
 |[]=>[[]]
 |i::A=>(GO A).map (i::·)++GO A
def H9(l:List Oper)(r u:List Nat):List Nat:=(ag l.length).filter λi=>r.contains i||u.contains i
def cD(l:List Oper)(i:Nat):Option (Nat×TypeId):=match l[i]? with
 |some ⟨some d,.alloc T,_,_,_,none⟩=>some (d,T)
 |_=>none
def dI(l:List Oper)(i:Nat):Nat:=((cD l i).getD (0,0)).1
def tI(l:List Oper)(i:Nat):TypeId:=((cD l i).getD (0,0)).2
def zI(P:Program)(l:List Oper)(i:Nat):Obj:=.cells ((XC P (tI l i)).getD []).toArray (tI l i) (0,0)
def xQ(P:Program)(N:Nat)(l:List Oper)(i:Nat):Bool:=(cD l i).isSome&&(XC P (tI l i)).isSome&&Gg (tI l i)&&J5 N (some (dI l i))
def Dq(b:Nat):Value:=.pointer (some ⟨b,0,none⟩)
def okB(l:List Oper)(A r:List Nat)(k:Nat):Bool:=(GO A).all λu=>(Eg l (H9 l r u)).isNone&&((H9 l r u).filter (GQ l (H9 l r u))).all (λi=>u.contains i||aA i k)&&u.all (λi=>(H9 l r u).contains i&&((H9 l r u).erase i==H9 l r (u.erase i))&&(GO A).contains (u.erase i))&&((H9 l r u).erase k==H9 l (r.erase k) u)&&!(H9 l r u).isEmpty
def QEk(l:List Oper)(A r:List Nat)(i:Nat):Bool:=(GO A).all λu=>!(u.contains i)||((Eg l (H9 l r u)).isNone&&((H9 l r u).filter (GQ l (H9 l r u))).all (λj=>u.contains j)&&u.all (λj=>(H9 l r u).contains j&&((H9 l r u).erase j==H9 l r (u.erase j))&&(GO A).contains (u.erase j))&&!(H9 l r u).isEmpty)
def mxI(l:List Oper)(A u:List Nat)(β:Nat->Nat):Sl:=(A.filter λi=>!(u.contains i)).map λi=>(dI l i,Dq (β i))
def dF(P:Program)(l:List Oper)(A u:List Nat)(β:Nat->Nat):List (Nat×Obj):=(A.filter λi=>!(u.contains i)).map λi=>(β i,zI P l i)
def KT(P:Program)(l:List Oper)(Q:Exit->Act->World->Prop)(S0:World->Prop)(A r:List Nat)(N:Nat)(m:Sl)(w0:World)(F0:Gs)(bs:List (Nat×Obj))(G:Gs->Prop):Prop :=
 ∀(u:List Nat) (β:Nat->Nat) (a:Act) (w:World),u∈GO A->JP N m a->(∀i∈A,i∉u->JP N [(dI l i,Dq (β i))] a)->St ⟨w0,F0,dF P l A u β++bs,G⟩ w->BX P l Q S0 (H9 l r u).length (H9 l r u) a w
theorem JP.Tt{a:Act}(h:JP N m a){d:Nat}(hd:J5 N (some d)=true)(v:Value)(hm:look m d=none):JP N m (a.put (some d) v):=by
 have h1:=h.put hd v
 refine⟨h1.size,h1.df,λt x ht=>h1.get t x ?_⟩
 show(bif aA d t then some v else look m t)=some x
 have:aA d t=false:=by
  cases e:aA d t with
  |false=>rfl
  |true=>have:=aP e;subst this;rw[hm]at ht;cases ht
 rw[this];exact ht
theorem Wl{d t:Nat}{v:Value}:look [(d,v)] t=(bif aA d t then some v else none):=rfl
theorem ET:∀ {A u:List Nat},u∈GO A->∀i∈u,i∈A
 |[],u,h,i,hi=>by simp only[GO,bS]at h;subst h;cases hi
 |a::A,u,h,i,hi=>by
  simp only[GO,bH,bT]at h
  rcases h with ⟨v,hv,rfl⟩ | h
  ·rcases List.mem_cons.1 hi with rfl | hi
   ·simp
   ·exact ab _ (ET hv i hi)
  ·exact ab _ (ET h i hi)
theorem We:∀ {A u:List Nat},A.Nodup->u∈GO A->u.Nodup
 |[],u,_,h=>by simp only[GO,bS]at h;subst h;exact List.nodup_nil
 |a::A,u,hA,h=>by
  rw[eU]at hA
  simp only[GO,bH,bT]at h
  rcases h with ⟨v,hv,rfl⟩ | h
  ·rw[eU];exact⟨λhm=>hA.1 (ET hv a hm),We hA.2 hv⟩
  ·exact We hA.2 h
theorem Tg:∀A:List Nat,A∈GO A
 |[]=>by simp[GO]
 |a::A=>by simp only[GO,bH,bT];exact .inl ⟨A,Tg A,rfl⟩
theorem Ex{i:Nat}(hA:A.Nodup)(hu:u.Nodup)(hiA:i∈A)(hi:i∈u):(A.filter λj=>!((u.erase i).contains j)).Perm (i::A.filter λj=>!(u.contains j)):=by
 refine(List.perm_ext_iff_of_nodup (hA.filter _) (List.nodup_cons.2 ⟨λh=>?_,hA.filter _⟩)).2 λj=>?_
 ·have:=(List.mem_filter.1 h).2;simp[hi]at this
 ·rw[bt,eV,eV]
  simp only[aW,aQ,decide_eq_false_iff_not]
  rw[hu.mem_erase_iff]
  by_cases e:j=i
  ·subst e;simp[hiA]
  ·simp[e]
theorem LZ{a:Act}(hA:A.Nodup)(hinj:∀j∈A,∀k∈A,dI l j=dI l k->j=k)(hB:∀j∈A,xQ P N l j=true/\look m (dI l j)=none)
  (h0:bs0.Sublist bs) (hg0:∀F,G F->G0 F) (hu:u∈GO A) (hi:i∈u) (ha:JP N m a) (hx:∀i∈A,i∉u->JP N [(dI l i,Dq (β i))] a) (hw:St ⟨w0,F0,dF P l A u β++bs,G⟩ w) {R:Act->World->Prop}
  (k:∀β' a' w',JP N m a'->(∀j∈A,j∉u.erase i->JP N [(dI l j,Dq (β' j))] a')->St ⟨w0,F0,dF P l A (u.erase i) β'++bs,G⟩ w'->R a' w') :
  wpOp P l.toArray (λ_ _ _=>False) i (λa' w'=>St ⟨w0,F0,bs0,G0⟩ w'/\R a' w') a w:=by
 have hiA:=ET hu i hi
 have hun:=We hA hu
 obtain⟨hb,hm⟩:=hB i hiA
 simp only[xQ,av]at hb
 obtain⟨⟨⟨h1,h2⟩,h3⟩,h4⟩:=hb
 obtain⟨⟨d,T⟩,e⟩:=Option.isSome_iff_exists.1 h1
 have ed:dI l i=d:=by unfold dI;rw[e];rfl
 have et:tI l i=T:=by unfold tI;rw[e];rfl
 obtain⟨z,ez⟩:=Option.isSome_iff_exists.1 h2
 rw[et]at ez h3
 rw[ed]at h4 hm
 unfold cD at e
 split at e
 ·rename_i d' T' ty pos aft he
  simp only[bJ,eP]at e
  obtain⟨rfl,rfl⟩:=e
  have ho':l.toArray[i]?=some ⟨some d',.alloc T',ty,pos,aft,none⟩:=by simpa using he
  have hS:=hw.alloc (.cells z.toArray T' (0,0)) (ZB h3)
  unfold wpOp
  simp only[ho']
  rw[if_pos (by simp[bh])]
  refine .inl (upon_value (NT ez) ⟨hS.imp ((h0.trans (aY _ _)).trans (List.sublist_cons_self _ _)) hg0,?_⟩)
  refine k (λj=>if j=i then w.heap.size else β j) _ _ (ha.Tt h4 _ hm) (λj hj hju=>?_) ?_
  ·by_cases ej:j=i
   ·subst ej
    rw[if_pos rfl,ed]
    have:=(ha.put h4 (Dq w.heap.size))
    refine⟨this.size,this.df,λt x ht=>this.get t x ?_⟩
    rw[Wl]at ht
    show(bif aA d' t then some _ else look m t)=some x
    cases e2:aA d' t with
    |true=>rw[e2]at ht;exact ht
    |false=>rw[e2]at ht;cases ht
   ·rw[if_neg ej]
    refine(hx j hj (λh=>hju ((hun.mem_erase_iff).2 ⟨ej,h⟩))).Tt h4 _ ?_
    rw[Wl]
    have:aA (dI l j) d'=false:=by
     cases e2:aA (dI l j) d' with
     |false=>rfl
     |true=>exact absurd (hinj j hj i hiA ((aP e2).trans ed.symm)) ej
    rw[this];rfl
  ·refine hS.perm ?_
   have hp:=(Ex hA hun hiA hi).map λj=>((if j=i then w.heap.size else β j),zI P l j)
   have e3:(List.map (λj=>((if j=i then w.heap.size else β j),zI P l j)) (i::A.filter λj=>!(u.contains j)))=(w.heap.size,bZ z.toArray T' (0,0))::dF P l A u β:=by
    rw[aN,if_pos rfl]
    have eA:zI P l i=bZ z.toArray T' (0,0):=by unfold zI;rw[et,ez];rfl
    rw[eA]
    refine congrArg (_::·) ?_
    unfold dF
    refine List.map_congr_left λj hj=>?_
    have:j≠i:=λe=>by subst e;have:=(List.mem_filter.1 hj).2;simp[hi]at this
    rw[if_neg this]
   rw[e3]at hp
   exact(hp.symm.append_right bs)
 ·cases e
theorem BW:∀(x y:Sl) (t:Nat),look (x++y) t=(look x t).or (look y t)
 |[],_,_=>rfl
 |(s,v)::x,y,t=>by
  show(bif aA s t then some v else look (x++y) t)=(bif aA s t then some v else look x t).or (look y t)
  cases aA s t with
  |true=>rfl
  |false=>exact BW x y t
theorem kL{a:Act}(ha:JP N m a)(hx:∀i∈A,i∉u->JP N [(dI l i,Dq (β i))] a):JP N (m++mxI l A u β) a:=by
 refine⟨ha.size,ha.df,λt v ht=>?_⟩
 rw[BW]at ht
 cases e:look m t with
 |some v'=>rw[e]at ht;exact ha.get t v (by rw[e];exact ht)
 |none =>
  rw[e,eb]at ht
  unfold mxI at ht
  have:∀B:List Nat,(∀i∈B,i∈A/\i∉u)->look (B.map λi=>(dI l i,Dq (β i))) t=some v->a.tmps[t]?=some v:=by
   intro B
   induction B with
   |nil=>intro _ h;cases h
   |cons j B ihB =>
    intro hBj h
    rw[aN]at h
    have h':(bif aA (dI l j) t then some (Dq (β j))else look (B.map λi=>(dI l i,Dq (β i))) t)=some v:=h
    cases e2:aA (dI l j) t with
    |true =>
     rw[e2]at h'
     exact(hx j (hBj j we).1 (hBj j we).2).get t v (by rw[Wl,e2];exact h')
    |false=>rw[e2]at h';exact ihB (λi hi=>hBj i (by simp[hi])) h'
  exact this _ (λi hi=>⟨(List.mem_filter.1 hi).1,by have:=(List.mem_filter.1 hi).2;simpa using this⟩) ht
theorem qD{a:Act}{nw:Sl}(hinj:∀j∈A,∀k∈A,dI l j=dI l k->j=k)(hB:∀j∈A,look m (dI l j)=none)(hnew:∀j∈A,look nw (dI l j)=none)(g1:JP N (nw++(m++mxI l A u β)) a):JP N (nw++m) a/\∀i∈A,i∉u->JP N [(dI l i,Dq (β i))] a:=by
 refine⟨⟨g1.size,g1.df,λt v ht=>g1.get t v ?_⟩,λj hj hju=>⟨g1.size,g1.df,λt v ht=>g1.get t v ?_⟩⟩
 ·rw[<-ax,BW,ht];rfl
 ·rw[Wl]at ht
  cases e2:aA (dI l j) t with
  |false=>rw[e2]at ht;cases ht
  |true =>
   rw[e2]at ht
   have e3:=aP e2
   subst e3
   rw[BW,hnew j hj,eb,BW,hB j hj,eb]
   unfold mxI
   have:∀B:List Nat,j∈B->(∀i∈B,i∈A)->look (B.map λi=>(dI l i,Dq (β i))) (dI l j)=some (Dq (β j)):=by
    intro B
    induction B with
    |nil=>intro h;cases h
    |cons i B ihB =>
     intro h hBA
     show(bif aA (dI l i) (dI l j)then some (Dq (β i))else look (B.map λi=>(dI l i,Dq (β i))) (dI l j))=_
     cases e4:aA (dI l i) (dI l j)with
     |true=>rw[hinj i (hBA i we) j hj (aP e4)];rfl
     |false =>
      rcases List.mem_cons.1 h with rfl | h
      ·simp at e4
      ·exact ihB h λi hi=>hBA i (by simp[hi])
   rw[this _ (List.mem_filter.2 ⟨hj,by simpa using hju⟩) (λi hi=>(List.mem_filter.1 hi).1)]
   exact ht
theorem ql{r:List Nat}(k:Nat){o:Oper}{γ:Type}{new:γ->Sl}{bs1:γ->List (Nat×Obj)}{G1:γ->Gs->Prop}(hok:okB l A r k=true)(hA:A.Nodup)(hinj:∀j∈A,∀k∈A,dI l j=dI l k->j=k)(hB:∀j∈A,xQ P N l j=true/\look m (dI l j)=none)
  (h0:bs0.Sublist bs) (hg0:∀F,G F->G0 F) (ho:l[k]?=some o) (hq:J0 o.op=false) (hkA:k∉A) (hnew:∀c,∀j∈A,look (new c) (dI l j)=none)
  (hstep:∀(mX:Sl) (X:List (Nat×Obj)) (K:Act->World->Prop),(∀c a w,JP N (new c++(m++mX)) a->St ⟨w0,F0,X++bs1 c,G1 c⟩ w->K a w)->JD P l.toArray (X9 K) ⟨w0,F0,bs0,G0⟩ [o] N (m++mX) ⟨w0,F0,X++bs,G⟩)
  (hk:∀c,KT P l Q (St ⟨w0,F0,bs0,G0⟩) A (r.erase k) N (new c++m) w0 F0 (bs1 c) (G1 c)):KT P l Q (St ⟨w0,F0,bs0,G0⟩) A r N m w0 F0 bs G:=by
 intro u
 generalize hn:u.length=n
 induction n using fb generalizing u with
 |ind n ih =>
  intro β a w hu ha hx hw
  have hoku:=List.all_eq_true.1 hok u hu
  simp only[av,aW]at hoku
  obtain⟨⟨⟨⟨c1,c2⟩,c3⟩,c4⟩,c5⟩:=hoku
  have hun:=We hA hu
  obtain⟨x,s,es⟩:=bC (show H9 l r u≠[]from λe=>by rw[e]at c5;cases c5)
  rw[show(H9 l r u).length=s.length+1 by rw[es];rfl]
  unfold BX
  rw[Option.isNone_iff_eq_none.1 c1]
  intro i hi hrd
  have h2:=List.all_eq_true.1 c2 i (List.mem_filter.2 ⟨hi,hrd⟩)
  simp only[eY,aQ,decide_eq_true_eq]at h2
  have hlen:s.length=((H9 l r u).erase i).length:=by rw[aS hi,es];rfl
  rw[hlen]
  by_cases hiu:i∈u
  ·have h3:=List.all_eq_true.1 c3 i hiu
   simp only[av,aQ,decide_eq_true_eq,beq_iff_eq]at h3
   rw[h3.1.2]
   refine LZ hA hinj hB h0 hg0 hu hiu ha hx hw λβ' a' w' g1 g2 g3=>?_
   exact ih _ (by rw[<-hn,aS hiu];have:=eB hiu;omega) (u.erase i) rfl β' a' w' h3.2 g1 g2 g3
  ·have eik:i=k:=aP (h2.resolve_left hiu)
   subst eik
   rw[beq_iff_eq]at c4
   rw[c4]
   refine RL (r':=H9 l (r.erase i) u) (Q:=Q) (E0:=⟨w0,F0,bs0,G0⟩) ho hq (hstep (mxI l A u β) (dF P l A u β) _ λc a' w' g1 g2=>?_) (λw h=>h.imp (h0.trans (aY _ _)) hg0) (kL ha hx) hw
   obtain⟨g3,g4⟩:=qD hinj (λj hj=>(hB j hj).2) (hnew c) g1
   exact hk c u β a' w' hu g3 g4 g2
def qtB(l:List Oper)(A r:List Nat)(j:Nat):Bool:=(GO A).all λu=>(Eg l (H9 l r u)==some j)&&((H9 l r u).erase j==H9 l (r.erase j) u)&&!(H9 l r u).isEmpty&&(H9 l r u).contains j
theorem gZ{r:List Nat}(j:Nat){o:Oper}{d:Nat}{v:Value}(hok:qtB l A r j=true)(hinj:∀j∈A,∀k∈A,dI l j=dI l k->j=k)(hB:∀j∈A,look m (dI l j)=none)(h0:bs0.Sublist bs)(hg0:∀F,G F->G0 F)(ho:l[j]?=some o)(hq:J0 o.op=true)(hnew:∀j∈A,look [(d,v)] (dI l j)=none)
  (hstep:∀(mX:Sl) (X:List (Nat×Obj)) (K:Act->World->Prop),(∀a w,JP N ((d,v)::(m++mX)) a->St ⟨w0,F0,X++bs,G⟩ w->K a w)->JD P l.toArray (X9 K) ⟨w0,F0,bs0,G0⟩ [o] N (m++mX) ⟨w0,F0,X++bs,G⟩)
  (hk:KT P l Q (St ⟨w0,F0,bs0,G0⟩) A (r.erase j) N ((d,v)::m) w0 F0 bs G):KT P l Q (St ⟨w0,F0,bs0,G0⟩) A r N m w0 F0 bs G:=by
 intro u β a w hu ha hx hw
 have hoku:=List.all_eq_true.1 hok u hu
 simp only[av,aW,beq_iff_eq,aQ,decide_eq_true_eq]at hoku
 obtain⟨⟨⟨c1,c2⟩,c3⟩,c4⟩:=hoku
 obtain⟨x,s,es⟩:=bC (show H9 l r u≠[]from λe=>by rw[e]at c3;cases c3)
 have hlen:s.length=((H9 l r u).erase j).length:=by rw[aS c4,es];rfl
 rw[show(H9 l r u).length=s.length+1 by rw[es];rfl]
 unfold BX
 rw[c1]
 have h:=hstep (mxI l A u β) (dF P l A u β) (λa w=>BX P l Q (St ⟨w0,F0,bs0,G0⟩) s.length ((H9 l r u).erase j) a w) (λa' w' g1 g2=>by
  obtain⟨g3,g4⟩:=qD (nw:=[(d,v)]) hinj hB hnew g1
  rw[hlen,c2]
  exact hk u β a' w' hu g3 g4 g2) (λw h=>h.imp (h0.trans (aY _ _)) hg0) a w (kL ha hx) hw
 rcases h with ⟨_,v',h1,h2⟩ | ⟨h1,_⟩
 ·exact⟨o,v',ho,h1,h2⟩
 ·rw[hq]at h1;cases h1
theorem ga{r:List Nat}(i:Nat)(hf:QEk l (i::A) r i=true)(hA:(i::A).Nodup)(hinj:∀j∈i::A,∀k∈i::A,dI l j=dI l k->j=k)(hB:∀j∈i::A,xQ P N l j=true/\look m (dI l j)=none)
  (h0:bs0.Sublist bs) (hg0:∀F,G F->G0 F) {d:Nat} {z:Obj} (hd:dI l i=d) (hz:zI P l i=z) (hk:∀b,KT P l Q (St ⟨w0,F0,bs0,G0⟩) A r N ((d,.pointer (some ⟨b,0,none⟩))::m) w0 F0 ((b,z)::bs) G):KT P l Q (St ⟨w0,F0,bs0,G0⟩) (i::A) r N m w0 F0 bs G:=by
 subst hd hz
 have hiA:=(List.nodup_cons.1 hA).1
 intro u
 generalize hn:u.length=n
 induction n using fb generalizing u with
 |ind n ih =>
  intro β a w hu ha hx hw
  have hun:=We hA hu
  by_cases hiu:i∈u
  ·have hoku:=List.all_eq_true.1 hf u hu
   simp only[eY,aW,aQ,decide_eq_false_iff_not,hiu,not_true_eq_false,false_or,av]at hoku
   obtain⟨⟨⟨c1,c2⟩,c3⟩,c5⟩:=hoku
   obtain⟨x,s,es⟩:=bC (show H9 l r u≠[]from λe=>by rw[e]at c5;cases c5)
   rw[show(H9 l r u).length=s.length+1 by rw[es];rfl]
   unfold BX
   rw[Option.isNone_iff_eq_none.1 c1]
   intro j hj hrd
   have hju:=List.all_eq_true.1 c2 j (List.mem_filter.2 ⟨hj,hrd⟩)
   simp only[decide_eq_true_eq]at hju
   have h3:=List.all_eq_true.1 c3 j hju
   simp only[av,aQ,decide_eq_true_eq,beq_iff_eq]at h3
   have hlen:s.length=((H9 l r u).erase j).length:=by rw[aS hj,es];rfl
   rw[hlen,h3.1.2]
   refine LZ hA hinj hB h0 hg0 hu hju ha hx hw λβ' a' w' g1 g2 g3=>?_
   exact ih _ (by rw[<-hn,aS hju];have:=eB hju;omega) (u.erase j) rfl β' a' w' h3.2 g1 g2 g3
  ·have huA:u∈GO A:=by
    simp only[GO,bH,bT]at hu
    rcases hu with ⟨v,_,rfl⟩ | hu
    ·exact absurd we hiu
    ·exact hu
   have hs:=hx i we hiu
   refine hk (β i) u β a w huA ⟨ha.size,ha.df,λt v ht=>?_⟩ (λj hj hju=>hx j (by simp[hj]) hju) ?_
   ·have h':(bif aA (dI l i) t then some (Dq (β i))else look m t)=some v:=ht
    cases e:aA (dI l i) t with
    |true=>rw[e]at h';exact hs.get t v (by rw[Wl,e];exact h')
    |false=>rw[e]at h';exact ha.get t v h'
   ·refine hw.perm ?_
    unfold dF
    rw[List.filter_cons,if_pos (by simpa using hiu),aN,aa]
    exact List.perm_middle.symm
theorem K6{r R:List Nat}(hm:H9 l r A=R)(h:KT P l Q (St ⟨w0,F0,bs0,G0⟩) A r N m w0 F0 bs G):JT P l Q ⟨w0,F0,bs0,G0⟩ R N m ⟨w0,F0,bs,G⟩:=by
 subst hm
 intro _ a w ha hw
 refine h A (λ_=>0) a w (Tg A) ha (λi hi hn=>absurd hi hn) ?_
 have:dF P l A A (λ_=>0)=[]:=by
  unfold dF
  rw[List.filter_eq_nil_iff.2 (λi hi=>by simpa using hi)];rfl
 rw[this];exact hw
theorem WO(h:Fin Q .normal N m ⟨w0,F0,bs,G⟩)(hm:H9 l [] []=[]){S0:World->Prop}:KT P l (X9 (Q .normal)) S0 [] [] N m w0 F0 bs G:=by
 intro u β a w hu ha hx hw
 simp only[GO,bS]at hu
 subst hu
 rw[hm]
 exact h a w ha hw
def DD(P:Program)(N:Nat)(l:List Oper)(A:List Nat):Bool:=A.all (λj=>xQ P N l j)&&A.all (λj=>A.all λk=>!(aA (dI l j) (dI l k))||aA j k)&&decide A.Nodup
def kq(l:List Oper)(m:Sl)(A:List Nat):Bool:=A.all λj=>!((m.map (·.1)).contains (dI l j))
theorem UC:∀ {m:Sl} {t:Nat},(m.map (·.1)).contains t=false->look m t=none
 |[],_,_=>rfl
 |(k,v)::m,t,h=>by
  rw[aN,List.contains_cons,Bool.or_eq_false_iff]at h
  show(bif aA k t then some v else look m t)=none
  have:aA k t=false:=by
   cases e:aA k t with
   |false=>rfl
   |true=>have:=aP e;subst this;simp at h
  rw[this];exact UC h.2
theorem WE(h:DD P N l A=true)(hk:kq l m A=true):A.Nodup/\(∀j∈A,∀k∈A,dI l j=dI l k->j=k)/\∀j∈A,xQ P N l j=true/\look m (dI l j)=none:=by
 simp only[DD,av,decide_eq_true_eq]at h
 obtain⟨⟨h1,h2⟩,h3⟩:=h
 refine⟨h3,λj hj k hk e=>?_,λj hj=>⟨List.all_eq_true.1 h1 j hj,UC ?_⟩⟩
 ·have h4:=List.all_eq_true.1 (List.all_eq_true.1 h2 j hj) k hk
  rw[e]at h4
  simpa using h4
 ·have h4:=List.all_eq_true.1 hk j hj
  simpa using h4
section
variable{A r:List Nat}{ty:TypeId}{pos:String}{aft:Array Edge}
theorem XM(k:Nat){d:Nat}{f:FuncId}{args:Array Operand}{tys:Array TypeId}{vs:List Value}{γ:Type}{val:γ->Value}{fact:γ->Gs->Prop}(hok:okB l A r k=true)(hall:DD P N l A=true)(hkey:kq l m A=true)(h0:bs0.Sublist bs)(hg0:∀F,G F->G0 F)
  (ho:l[k]?=some ⟨some d,.call ⟨.value (.func f),args,tys⟩,ty,pos,aft,none⟩) (hkA:A.contains k=false) (hdA:A.all (λj=>!(aA d (dI l j)))=true) (hv:∀mX,MP (m++mX) args.toList=some vs) (hc:∀w F,Fits F w->G F->QS P f vs w F val fact)
  (hk:∀c,KT P l Q (St ⟨w0,F0,bs0,G0⟩) A (r.erase k) N ((d,val c)::m) w0 F0 bs (λF=>G F/\fact c F)) (hd:J5 N (some d)=true:=by rfl):KT P l Q (St ⟨w0,F0,bs0,G0⟩) A r N m w0 F0 bs G:=by
 obtain⟨g1,g2,g3⟩:=WE hall hkey
 refine ql (γ:=γ) (new:=λc=>[(d,val c)]) (bs1:=λ_=>bs) (G1:=λc F=>G F/\fact c F) k hok g1 g2 g3 h0 hg0 ho rfl (by simpa using hkA) (λc j hj=>?_) (λmX X K hK=>QN (hv mX) hc (λc=>CV (hK c)) hd) hk
 have:=List.all_eq_true.1 hdA j hj
 rw[Wl]
 simp only[aW]at this
 rw[this];rfl
theorem xX(j:Nat){d:Nat}{o:Op}{v:Value}(hok:qtB l A r j=true)(hall:DD P N l A=true)(hkey:kq l m A=true)(h0:bs0.Sublist bs)(hg0:∀F,G F->G0 F)(ho:l[j]?=some ⟨some d,o,ty,pos,aft,none⟩)(hdA:A.all (λj=>!(aA d (dI l j)))=true)
  (hqt:∀mX,Qt P N (m++mX) (St ⟨w0,F0,bs0,G0⟩) o ty v) (hk:KT P l Q (St ⟨w0,F0,bs0,G0⟩) A (r.erase j) N ((d,v)::m) w0 F0 bs G) (hq:J0 o=true:=by rfl) (hd:J5 N (some d)=true:=by rfl):KT P l Q (St ⟨w0,F0,bs0,G0⟩) A r N m w0 F0 bs G:=by
 obtain⟨g1,g2,g3⟩:=WE hall hkey
 refine gZ j hok g2 (λj hj=>(g3 j hj).2) h0 hg0 ho hq (λj hj=>?_) (λmX X K hK=>QK (hqt mX) (CV hK) hq hd) hk
 have:=List.all_eq_true.1 hdA j hj
 rw[Wl]
 simp only[aW]at this
 rw[this];rfl
theorem H4.skip{l r:List (Nat×Obj)}{o:Obj}(h:H4 l b o f r):∀p:List (Nat×Obj),H4 (p++l) b o (λo'=>p++f o') (p++r)
 |[]=>h
 |_::p=>.there (h.skip p)
theorem Z7(k:Nat){T T':TypeId}{x y:Operand}{v:Value}{b off n:Nat}{c vs l':List Value}{g:Bool}{f:Obj->List (Nat×Obj)}{bs':List (Nat×Obj)}(hok:okB l A r k=true)(hall:DD P N l A=true)(hkey:kq l m A=true)(h0:bs0.Sublist bs)(hg0:∀F,G F->G0 F)
  (ho:l[k]?=some ⟨none,.store T x y,ty,pos,aft,none⟩) (hkA:A.contains k=false) (hx:∀mX,ev (m++mX) x=some (.pointer (some ⟨b,off,none⟩))) (hy:∀mX,ev (m++mX) y=some v) (hv:v.cells=vs.toArray) (ht:YW P T=some (g,n)) (hn:vs.length=n)
  (hw:H4 bs b (.cells c.toArray T' (0,0)) f bs') (hs:bs0.Sublist bs') (hp:Kb c off vs l') (h1:R3 vs) (hk:KT P l Q (St ⟨w0,F0,bs0,G0⟩) A (r.erase k) N m w0 F0 (f (.cells l'.toArray T' (0,0))) G) (hu:Gg T'=true:=by rfl):KT P l Q (St ⟨w0,F0,bs0,G0⟩) A r N m w0 F0 bs G:=by
 obtain⟨g1,g2,g3⟩:=WE hall hkey
 exact ql (γ:=Unit) (new:=λ_=>[]) (bs1:=λ_=>f (.cells l'.toArray T' (0,0))) (G1:=λ_=>G) k hok g1 g2 g3 h0 hg0 ho rfl (by simpa using hkA) (λ_ j hj=>rfl)
  (λmX X K hK=>JV (hx mX) (hy mX) hv ht hn (hw.skip X) (hs.trans (aY _ _)) hg0 hp h1 (CV (hK ())) hu) (λ_=>hk)
theorem VQ(i:Nat)(hf:QEk l (i::A) r i=true)(hall:DD P N l (i::A)=true)(hkey:kq l m (i::A)=true)(h0:bs0.Sublist bs)(hg0:∀F,G F->G0 F){d:Nat}{z:List Value}{T:TypeId}(hd:dI l i=d)(ht:tI l i=T)(hz:XC P T=some z)
  (hk:∀b,KT P l Q (St ⟨w0,F0,bs0,G0⟩) A r N ((d,.pointer (some ⟨b,0,none⟩))::m) w0 F0 ((b,.cells z.toArray T (0,0))::bs) G):KT P l Q (St ⟨w0,F0,bs0,G0⟩) (i::A) r N m w0 F0 bs G:=by
 obtain⟨g1,g2,g3⟩:=WE hall hkey
 exact ga i hf g1 g2 g3 h0 hg0 hd (by unfold zI;rw[ht,hz];rfl) hk
end
end
end
theorem Bp(b:Int):(((2:Int):Rat))^b.toNat=((two b:Int):Rat):=by
 unfold two
 generalize b.toNat=n
 induction n with
 |zero=>rfl
 |succ n ih=>rw[aC,ih,fu,fa]
theorem kI(r:Rat×Rat)(b:Int):YH r b=(((r.1*(((2:Int):Rat))^b.toNat).floor:Rat) / (((2:Int):Rat))^b.toNat,((-(-(r.2*(((2:Int):Rat))^b.toNat)).floor:Int):Rat) / (((2:Int):Rat))^b.toNat):=by
 unfold YH
 rw[Bp,bU,bU]
theorem AQ(x y:Rat):AR x y=Ol x y:=by
 unfold AR Ol
 by_cases h:y<x
 ·rw[if_pos ((GA y x).2 h),if_neg (by rw[Pk];exact Rat.not_le.2 h)]
 ·rw[if_neg (by rw[GA];exact h),if_pos ((Pk x y).2 (Rat.not_lt.1 h))]
theorem AY(x y:Rat):Pd x y=Oq x y:=by
 unfold Pd Oq
 by_cases h:x<y
 ·rw[if_pos ((GB y x).2 h),if_neg (by have:=(GA x y).2 h;omega)]
 ·rw[if_neg (by rw[GB];exact h),if_pos (by have h2:=mt (GA x y).1 h;omega)]
def ji(a:Rat×Rat):Rat:=[-a.1,a.1,-a.2].foldl Pd a.2
theorem di(x:Rat):JL ((x.floor:Int):Rat)<=JL x+1:=by
 have:=GV x.floor;have:=RZ x;omega
theorem dj(x:Rat):JL ((-(-x).floor:Int):Rat)<=JL x+1:=by
 have h1:=GV (-(-x).floor);rw[Vq]at h1;have:=RZ (-x);rw[V3]at this;omega
theorem Kt{P:α->Prop}{a:α}(h:P a):∀p∈[a],P p:=λp hp=>by rw[List.mem_singleton.1 hp];exact h
theorem MF{P:α->Prop}{a b c:α}(h:P a)(k:P b)(l:P c):∀p∈[a,b,c],P p:=λp hp=>by
 simp only[bt,bj,or_false]at hp
 rcases hp with rfl | rfl | rfl
 ·exact h
 ·exact k
 ·exact l
theorem K1{x:Fr}{r:Rat}(hF:Fits F w)(h:JM F x r):Xp Tryz.prog 147 [x.v] w F (r,r):=by
 refine QS.intro (G:=λF=>JM F x r) Tryz.func147 rfl wc rfl rfl hF (λF' hF'=>h.le hF')<|wI<|Qo rfl (vs:=[_,_,_,_]) rfl (λb1=>Qb Ji (λb2=>wG<|wI<|QA (QJ (vs:=[_,_,_,_]) rfl QL .u1 .h4 rfl)<|QA (QJ (vs:=[_,_,_,_]) rfl QL .u1 .h4 rfl)<|QA (Qv rfl YG Ji (.cons (vs:=[_,_,_,_]) rfl rfl rfl .h4 (.cons (vs:=[_,_,_,_]) rfl rfl rfl (.skip (.skip (.skip (.skip .h4)))) .nil)))<|QO (vs:=[_,_,_,_,_,_,_,_]) rfl rfl rfl Qi rfl .here .h8 wV<|wG<|QY ?_))
 exact QV (⟨x,x⟩) I (.JW (c:=[_,_,_,_,_,_,_,_]) I Qi .here .nil) (rfl) (λF h=>⟨h,h⟩)
theorem qT{lo hi:List UInt8}(hF:Fits F w)(hGl:JC F)(h1:Jw lo=0)(h2:Jw hi=0)(hl:lo.length<=1000000/\hi.length<=1000000):Xp Tryz.prog 113 [.agg #[tx lo,tx hi]] w F (Qs lo,Qs hi):=by
 refine QS.intro (G:=λF=>JC F) Tryz.func113 rfl wc rfl rfl hF (λF' hF'=>hGl.le hF')<|wI<|Qo rfl (vs:=[_,_]) rfl (λb1=>Qb Ji (λb2=>wG<|QG<|JO (.cons _ wm) mixed y0<|QK (QH rfl O8 XA)<|QK (Qg rfl XA .here .h1)<|QN rfl (λw F hF hGl=>Kr (s:=lo) (r:=Qs lo) hF hGl (XT h1).1 O) (λc5=>QK (QH rfl O7 XA)<|QK (Qg rfl XA .here (.skip .h1))<|QN rfl (λw F hF h9=>Kr (s:=hi) (r:=Qs hi) hF h9.1 (XT h2).1 O) (λc8=>QK (Qv rfl YG Ji (.cons (vs:=[_,_,_,_]) rfl rfl rfl .h4 (.cons (vs:=[_,_,_,_]) rfl rfl rfl (.skip (.skip (.skip (.skip .h4)))) .nil)))<|JV (vs:=[_,_,_,_,_,_,_,_]) rfl rfl rfl Qi rfl .here wm (λ_ h=>h.1.1) .h8 wV<|Q6<|QC<|QY ?_))))
 exact QV (⟨c5,c8⟩) I (.JW (c:=[_,_,_,_,_,_,_,_]) I Qi .here .nil) (rfl) (λF h9=>⟨h9.1.2,h9.2⟩)
theorem uc(hF:Fits F w)(hGl:JC F)(h:Jk F x a)(hza:Xj a 100000000):Qe Tryz.prog 210 [x.v] w F (.agg #[tx (Je a.1),tx (Je a.2)]):=by
 refine QS.intro (G:=λF=>JC F/\Jk F x a) Tryz.func210 rfl wc rfl rfl hF (λF' hF'=>⟨hGl.le hF',h.le hF'⟩)<|wI<|Qo rfl (vs:=[_,_,_,_,_,_,_,_]) rfl (λb1=>Qb Xm (λb2=>wG<|QG<|JO (.cons _ wm) mixed y0<|QK (QH rfl Xu QL)<|QK (QJ (vs:=[_,_,_,_]) rfl QL .here .h4 rfl)<|QN rfl (λw F hF h9=>Pf (x:=x.lo) (r:=a.1) hF h9.1 h9.2.1 hza.1) (λ_=>QK (QH rfl Xt QL)<|QK (QJ (vs:=[_,_,_,_]) rfl QL .here (.skip (.skip (.skip (.skip .h4)))) rfl)<|QN rfl (λw F hF h9=>Pf (x:=x.hi) (r:=a.2) hF h9.1.1 h9.1.2.2 hza.2) (λ_=>QK (Qv rfl Zu Xm (wD rfl rfl rfl))<|JV (vs:=[_,_]) rfl rfl rfl XD rfl .here wm (λ_ h=>h.1.1) .h2 wP<|Q6<|QC<|QY ?_))))
 exact QV (()) I (.JW (c:=[_,_]) I XD .here .nil) (rfl) wh
theorem LK(hF:Fits F w)(hGl:JC F)(h:Jk F x a)(hza:Xj a 100000000):Qe Tryz.prog 209 [x.v] w F (.bool (Jj a.1||Jj a.2)):=by
 refine QS.intro (G:=λF=>JC F/\Jk F x a) Tryz.func209 rfl wc rfl rfl hF (λF' hF'=>⟨hGl.le hF',h.le hF'⟩)<|wI<|Qo rfl (vs:=[_,_,_,_,_,_,_,_]) rfl (λb1=>wH rfl<|wI<|QA (QH rfl Xu QL)<|QA (QJ (vs:=[_,_,_,_]) rfl QL .here .h4 rfl)<|QI rfl (λw F hF h9=>Da (x:=x.lo) (r:=a.1) hF h9.1 h9.2.1 hza.1) (λ_=>wE rfl ?_))
 refine Q3 (t:=6) rfl (λhb6=>?_) (λhb6=>?_)
 ·
  refine Qc I I I<|Qc I I I<|Qc I I I<|QA (Qp I I I)<|wH I<|QY ?_
  exact wL I I (congrArg ah (by rw[hb6,Bool.true_or])) wh
 ·
  refine QM I I<|QA (QH I Xt QL)<|QM I I<|QA (QJ (vs:=[_,_,_,_]) I QL .here (.skip (.skip (.skip (.skip .h4)))) I)<|QM I I<|QI I (λw F hF h9=>Da (x:=x.hi) (r:=a.2) hF h9.1.1 h9.1.2.2 hza.2) (λ_=>QA (Qj I I I)<|wH I<|QY ?_)
  exact wL I I (congrArg ah (by rw[hb6,Bool.false_or])) wh
theorem Mw{b:Rat×Rat}(hF:Fits F w)(h:Jk F x a)(h':Jk F y b)(hza:Xj a 100000000)(hzb:Xj b 100000000):Xp Tryz.prog 216 [x.v,y.v] w F (Y3 a b):=by
 refine QS.intro (G:=λF=>Jk F x a/\Jk F y b) Tryz.func216 rfl wc rfl rfl hF (λF' hF'=>⟨h.le hF',h'.le hF'⟩)<|wI<|Qo rfl (vs:=[_,_,_,_,_,_,_,_]) rfl (λb2=>Qo rfl (vs:=[_,_,_,_,_,_,_,_]) rfl (λb3=>Qb Ji (λb4=>wG<|QG<|JO (.cons _ wm) mixed y0<|QK (QH rfl Xu QL)<|QK (QJ (vs:=[_,_,_,_]) rfl QL .u1 .h4 rfl)<|QK (QH rfl Xu QL)<|QK (QJ (vs:=[_,_,_,_]) rfl QL .here .h4 rfl)<|QN rfl (λw F hF h9=>D2 (x:=x.lo) (y:=y.lo) hF h9.1.1 h9.2.1 hza.1 hzb.1) (λc9=>QK (QH rfl Xt QL)<|QK (QJ (vs:=[_,_,_,_]) rfl QL .u1 (.skip (.skip (.skip (.skip .h4)))) rfl)<|QK (QH rfl Xt QL)<|QK (QJ (vs:=[_,_,_,_]) rfl QL .here (.skip (.skip (.skip (.skip .h4)))) rfl)<|QN rfl (λw F hF h9=>D2 (x:=x.hi) (y:=y.hi) hF h9.1.1.2 h9.1.2.2 hza.2 hzb.2) (λc14=>QK (Qv rfl YG Ji (.cons (vs:=[_,_,_,_]) rfl rfl rfl .h4 (.cons (vs:=[_,_,_,_]) rfl rfl rfl (.skip (.skip (.skip (.skip .h4)))) .nil)))<|JV (vs:=[_,_,_,_,_,_,_,_]) rfl rfl rfl Qi rfl .here wm (λ_ h=>h.1.1) .h8 wV<|Q6<|QC<|QY ?_)))))
 exact QV (⟨c9,c14⟩) I (.JW (c:=[_,_,_,_,_,_,_,_]) I Qi .here .nil) (rfl) (λF ⟨⟨⟨hX,hY⟩,h9⟩,h14⟩=>⟨h9,h14⟩)
theorem Aj{b:Rat×Rat}(hF:Fits F w)(h:Jk F x a)(h':Jk F y b)(hza:Xj a 20000000)(hzb:Xj b 20000000):Xp Tryz.prog 219 [x.v,y.v] w F (Jc a b):=by
 have g1:=Z8 a.1 b.1
 have g2:=Z8 a.1 b.2
 have g3:=Z8 a.2 b.1
 have g4:=Z8 a.2 b.2
 have q1:=hza.1
 have q2:=hza.2
 have q3:=hzb.1
 have q4:=hzb.2
 refine QS.intro (G:=λF=>Jk F x a/\Jk F y b) Tryz.func219 rfl wc rfl rfl hF (λF' hF'=>⟨h.le hF',h'.le hF'⟩)<|wI<|Qo rfl (vs:=[_,_,_,_,_,_,_,_]) rfl (λb2=>Qo rfl (vs:=[_,_,_,_,_,_,_,_]) rfl (λb3=>Qb Ji (λb4=>wG<|QG<|K7 (r:=[0,1,2,3,4,5,6,7,8,9,10,11,12,13,14,15,16,17,18,19,20,21,22,23,24,25,26,27]) wm mixed y0 rfl<|Jp 0 y0 rfl rfl<|QK (QH rfl Xu QL)<|JB<|Jp 1 y0 rfl rfl<|QK (QJ (vs:=[_,_,_,_]) rfl QL .u2 .h4 rfl)<|JB<|Jp 2 y0 rfl rfl<|QK (QH rfl Xu QL)<|JB<|Jp 3 y0 rfl rfl<|QK (QJ (vs:=[_,_,_,_]) rfl QL .u1 .h4 rfl)<|JB<|Jp 5 y0 rfl rfl<|QK (QH rfl Xu QL)<|JB ?_)))
 refine Jp 6 y0 rfl rfl<|QK (QJ (vs:=[_,_,_,_]) I QL .u2 .h4 rfl)<|JB<|Jp 7 y0 rfl rfl<|QK (QH I Xt QL)<|JB<|Jp 8 y0 rfl rfl<|QK (QJ (vs:=[_,_,_,_]) I QL .u1 (.skip (.skip (.skip (.skip .h4)))) I)<|JB<|Jp 10 y0 rfl rfl<|QK (QH I Xt QL)<|JB<|Jp 11 y0 rfl rfl<|QK (QJ (vs:=[_,_,_,_]) I QL .u2 (.skip (.skip (.skip (.skip .h4)))) I)<|JB<|Jp 12 y0 rfl rfl<|QK (QH I Xu QL)<|JB<|Jp 13 y0 rfl rfl<|QK (QJ (vs:=[_,_,_,_]) I QL .u1 .h4 rfl)<|JB<|Jp 15 y0 rfl rfl<|QK (QH I Xt QL)<|JB<|Jp 16 y0 rfl rfl ?_
 refine QK (QJ (vs:=[_,_,_,_]) I QL .u2 (.skip (.skip (.skip (.skip .h4)))) I)<|JB<|Jp 17 y0 rfl rfl<|QK (QH I Xt QL)<|JB<|Jp 18 y0 rfl rfl<|QK (QJ (vs:=[_,_,_,_]) I QL .u1 (.skip (.skip (.skip (.skip .h4)))) I)<|JB<|K6 (A:=[20,21,22,23]) (r:=[4,9,14,19,24,25,26,27]) y0<|XM 4 y0 y0 wc wm wi rfl rfl rfl (λ_=>rfl) (λw F hF h9=>Wx (x:=x.lo) (y:=y.lo) hF h9.1.1 h9.2.1 O O) (λc13=>XM 9 y0 y0 wc wm wj rfl rfl rfl (λ_=>rfl) (λw F hF h9=>Wx (x:=x.lo) (y:=y.hi) hF h9.1.1.1 h9.1.2.2 O O) (λc18=>XM 14 y0 y0 wc wm (λ_ h=>h.1.1) rfl rfl rfl (λ_=>rfl) (λw F hF h9=>Wx (x:=x.hi) (y:=y.lo) hF h9.1.1.1.2 h9.1.1.2.1 O O) (λc23=>XM 19 y0 y0 wc wm (λ_ h=>h.1.1.1) rfl rfl rfl (λ_=>rfl) (λw F hF h9=>Wx (x:=x.hi) (y:=y.hi) hF h9.1.1.1.1.2 h9.1.1.1.2.2 O O) (λc28=>VQ 20 (d:=5) (T:=135) y0 y0 wc wm (λ_ h=>h.1.1.1.1) y0 y0 Ju (λb5=>VQ 21 (d:=6) (T:=135) y0 y0 wc (.cons _ wm) (λ_ h=>h.1.1.1.1) y0 y0 Ju (λb6=>VQ 22 (d:=7) (T:=135) y0 y0 wc (.cons _ (.cons _ wm)) (λ_ h=>h.1.1.1.1) y0 y0 Ju (λb7=>VQ 23 (d:=8) (T:=135) y0 y0 wc (.cons _ (.cons _ (.cons _ wm))) (λ_ h=>h.1.1.1.1) y0 y0 Ju (λb8=>Z7 (vs:=[_,_,_,_]) 24 y0 y0 wc (.cons _ (.cons _ (.cons _ (.cons _ wm)))) (λ_ h=>h.1.1.1.1) rfl rfl (λ_=>rfl) (λ_=>rfl) rfl QL I .u3 (.cons _ (.cons _ (.cons _ wm))) .h4 wR<|Z7 (vs:=[_,_,_,_]) 25 y0 y0 wc (.cons _ (.cons _ (.cons _ (.cons _ wm)))) (λ_ h=>h.1.1.1.1) rfl rfl (λ_=>rfl) (λ_=>rfl) rfl QL I .u2 (.cons _ (.cons _ (.cons _ wm))) .h4 wR<|Z7 (vs:=[_,_,_,_]) 26 y0 y0 wc (.cons _ (.cons _ (.cons _ (.cons _ wm)))) (λ_ h=>h.1.1.1.1) rfl rfl (λ_=>rfl) (λ_=>rfl) rfl QL I .u1 (.cons _ (.cons _ (.cons _ wm))) .h4 wR<|Z7 (vs:=[_,_,_,_]) 27 y0 y0 wc (.cons _ (.cons _ (.cons _ (.cons _ wm)))) (λ_ h=>h.1.1.1.1) rfl rfl (λ_=>rfl) (λ_=>rfl) rfl QL I .here (.cons _ (.cons _ (.cons _ wm))) .h4 wR ?_))))))))
 refine WO ?_ y0
 refine QC<|QG<|K7 (r:=[0,1,2,3,4,5,6,7,8,9,10,11,12,13]) (.cons_cons _ (.cons_cons _ (.cons_cons _ (.cons_cons _ (.cons _ wm))))) mixed y0 rfl<|Jp 0 y0 rfl rfl<|QK (QJ (vs:=[_,_,_,_]) I QL .u3 .h4 rfl)<|JB<|Jp 1 y0 rfl rfl<|QK (QJ (vs:=[_,_,_,_]) I QL .u2 .h4 rfl)<|JB<|Jp 2 y0 rfl rfl<|QK (QJ (vs:=[_,_,_,_]) I QL .u1 .h4 rfl)<|JB<|Jp 3 y0 rfl rfl<|QK (QJ (vs:=[_,_,_,_]) I QL .here .h4 rfl)<|JB<|Jp 6 y0 rfl rfl<|QK (QJ (vs:=[_,_,_,_]) I QL .u3 .h4 rfl)<|JB<|Jp 7 y0 rfl rfl<|QK (QJ (vs:=[_,_,_,_]) I QL .u2 .h4 rfl)<|JB<|Jp 8 y0 rfl rfl<|QK (QJ (vs:=[_,_,_,_]) I QL .u1 .h4 rfl)<|JB<|Jp 9 y0 rfl rfl ?_
 refine QK (QJ (vs:=[_,_,_,_]) I QL .here .h4 rfl)<|JB ?_
 refine Ny 4 10 y0 y0 rfl rfl rfl rfl rfl rfl ?_ ?_
 ·
  refine Qm I (Qw XY) QL Ju I I (λb33=>?_) (λw h=>h.imp (.cons_cons _ (.cons_cons _ (.cons_cons _ (.cons_cons _ (.cons _ wm))))) wi)
  refine JB ?_
  refine Ny 5 10 y0 y0 rfl rfl rfl rfl rfl rfl ?_ ?_
  ·
   refine QN I (λw F hF h9=>V7 (x:=c13) (r:=a.1*b.1) (ps:=[(c18,a.1*b.2),(c23,a.2*b.1),(c28,a.2*b.2)]) hF h9.1.1.1.1.2 (Qy.of (n:=3) (sz:=4) (cs:=ar (λe:Fr×Rat=>Ku e.1) [(c18,a.1*b.2),(c23,a.2*b.1),(c28,a.2*b.2)]) h9.2 I) (MF h9.1.1.1.2 h9.1.1.2 h9.1.2) rfl wa ⟨O,MF (show JL (a.1*b.2)<=100000000 by omega) (show JL (a.2*b.1)<=100000000 by omega) (show JL (a.2*b.2)<=100000000 by omega)⟩) (λc34=>JB<|Xa 10 y0 y0 rfl rfl rfl ?_)
   refine Qm I (Qw XY) QL Ju I I (λb39=>?_) (λw h=>h.imp (.cons_cons _ (.cons_cons _ (.cons_cons _ (.cons_cons _ (.cons _ wm))))) (λF h=>h.1.1))
   refine JB<|Xa 11 y0 y0 rfl rfl rfl<|QN I (λw F hF h9=>Xo (x:=c13) (r:=a.1*b.1) (ps:=[(c18,a.1*b.2),(c23,a.2*b.1),(c28,a.2*b.2)]) hF h9.1.1.1.1.1.1.2 (Qy.of (n:=3) (sz:=4) (cs:=ar (λe:Fr×Rat=>Ku e.1) [(c18,a.1*b.2),(c23,a.2*b.1),(c28,a.2*b.2)]) h9.2 I) (MF h9.1.1.1.1.1.2 h9.1.1.1.1.2 h9.1.1.1.2) rfl wa ⟨O,MF (show JL (a.1*b.2)<=100000000 by omega) (show JL (a.2*b.1)<=100000000 by omega) (show JL (a.2*b.2)<=100000000 by omega)⟩) (λc40=>JB<|Jp 12 y0 rfl rfl<|QK (Qv I YG Ji (.cons (vs:=[_,_,_,_]) I I I .h4 (.cons (vs:=[_,_,_,_]) I I I (.skip (.skip (.skip (.skip .h4)))) .nil)))<|JB<|Xa 13 y0 y0 rfl rfl rfl<|JV (vs:=[_,_,_,_,_,_,_,_]) I I I Qi I .u4 wm (λ_ h=>h.1.1.1.1) .h8 wV<|JB<|Y4<|QC<|QY ?_)
   exact QV (⟨c34,c40⟩) I (.JW (c:=[_,_,_,_,_,_,_,_]) I Qi .u4 .nil) (rfl) (λF h9=>by unfold Jc;rw[ZV];exact⟨h9.1.1.2,h9.2⟩)
  ·
   refine Qm I (Qw XY) QL Ju I I (λb39=>?_) (λw h=>h.imp (.cons_cons _ (.cons_cons _ (.cons_cons _ (.cons_cons _ (.cons _ wm))))) wj)
   refine JB<|Xa 5 y0 y0 rfl rfl rfl<|QN I (λw F hF h9=>V7 (x:=c13) (r:=a.1*b.1) (ps:=[(c18,a.1*b.2),(c23,a.2*b.1),(c28,a.2*b.2)]) hF h9.1.1.1.1.1.2 (Qy.of (n:=3) (sz:=4) (cs:=ar (λe:Fr×Rat=>Ku e.1) [(c18,a.1*b.2),(c23,a.2*b.1),(c28,a.2*b.2)]) h9.1.2 I) (MF h9.1.1.1.1.2 h9.1.1.1.2 h9.1.1.2) rfl wa ⟨O,MF (show JL (a.1*b.2)<=100000000 by omega) (show JL (a.2*b.1)<=100000000 by omega) (show JL (a.2*b.2)<=100000000 by omega)⟩) (λc34=>JB<|Xa 11 y0 y0 rfl rfl rfl<|QN I (λw F hF h9=>Xo (x:=c13) (r:=a.1*b.1) (ps:=[(c18,a.1*b.2),(c23,a.2*b.1),(c28,a.2*b.2)]) hF h9.1.1.1.1.1.1.2 (Qy.of (n:=3) (sz:=4) (cs:=ar (λe:Fr×Rat=>Ku e.1) [(c18,a.1*b.2),(c23,a.2*b.1),(c28,a.2*b.2)]) h9.1.2 I) (MF h9.1.1.1.1.1.2 h9.1.1.1.1.2 h9.1.1.1.2) rfl wa ⟨O,MF (show JL (a.1*b.2)<=100000000 by omega) (show JL (a.2*b.1)<=100000000 by omega) (show JL (a.2*b.2)<=100000000 by omega)⟩) (λc40=>JB<|Jp 12 y0 rfl rfl<|QK (Qv I YG Ji (.cons (vs:=[_,_,_,_]) I I I .h4 (.cons (vs:=[_,_,_,_]) I I I (.skip (.skip (.skip (.skip .h4)))) .nil)))<|JB<|Xa 13 y0 y0 rfl rfl rfl<|JV (vs:=[_,_,_,_,_,_,_,_]) I I I Qi I .u4 wm (λ_ h=>h.1.1.1.1) .h8 wV<|JB<|Y4<|QC<|QY ?_))
   exact QV (⟨c34,c40⟩) I (.JW (c:=[_,_,_,_,_,_,_,_]) I Qi .u4 .nil) (rfl) (λF h9=>by unfold Jc;rw[ZV];exact⟨h9.1.2,h9.2⟩)
 ·
  refine Qm I (Qw XY) QL Ju I I (λb39=>?_) (λw h=>h.imp (.cons_cons _ (.cons_cons _ (.cons_cons _ (.cons_cons _ (.cons _ wm))))) wi)
  refine JB<|Xa 4 y0 y0 rfl rfl rfl ?_
  refine Qm I (Qw XY) QL Ju I I (λb33=>?_) (λw h=>h.imp (.cons_cons _ (.cons_cons _ (.cons_cons _ (.cons_cons _ (.cons _ wm))))) wj)
  refine JB<|Xa 5 y0 y0 rfl rfl rfl<|QN I (λw F hF h9=>V7 (x:=c13) (r:=a.1*b.1) (ps:=[(c18,a.1*b.2),(c23,a.2*b.1),(c28,a.2*b.2)]) hF h9.1.1.1.1.1.2 (Qy.of (n:=3) (sz:=4) (cs:=ar (λe:Fr×Rat=>Ku e.1) [(c18,a.1*b.2),(c23,a.2*b.1),(c28,a.2*b.2)]) h9.2 I) (MF h9.1.1.1.1.2 h9.1.1.1.2 h9.1.1.2) rfl wa ⟨O,MF (show JL (a.1*b.2)<=100000000 by omega) (show JL (a.2*b.1)<=100000000 by omega) (show JL (a.2*b.2)<=100000000 by omega)⟩) (λc34=>JB<|Xa 11 y0 y0 rfl rfl rfl<|QN I (λw F hF h9=>Xo (x:=c13) (r:=a.1*b.1) (ps:=[(c18,a.1*b.2),(c23,a.2*b.1),(c28,a.2*b.2)]) hF h9.1.1.1.1.1.1.2 (Qy.of (n:=3) (sz:=4) (cs:=ar (λe:Fr×Rat=>Ku e.1) [(c18,a.1*b.2),(c23,a.2*b.1),(c28,a.2*b.2)]) h9.1.1.2 I) (MF h9.1.1.1.1.1.2 h9.1.1.1.1.2 h9.1.1.1.2) rfl wa ⟨O,MF (show JL (a.1*b.2)<=100000000 by omega) (show JL (a.2*b.1)<=100000000 by omega) (show JL (a.2*b.2)<=100000000 by omega)⟩) (λc40=>JB<|Jp 12 y0 rfl rfl<|QK (Qv I YG Ji (.cons (vs:=[_,_,_,_]) I I I .h4 (.cons (vs:=[_,_,_,_]) I I I (.skip (.skip (.skip (.skip .h4)))) .nil)))<|JB<|Xa 13 y0 y0 rfl rfl rfl<|JV (vs:=[_,_,_,_,_,_,_,_]) I I I Qi I .u4 wm (λ_ h=>h.1.1.1.1) .h8 wV<|JB<|Y4<|QC<|QY ?_))
  exact QV (⟨c34,c40⟩) I (.JW (c:=[_,_,_,_,_,_,_,_]) I Qi .u4 .nil) (rfl) (λF h9=>by unfold Jc;rw[ZV];exact⟨h9.1.2,h9.2⟩)
theorem SU{y:Fr}{r:Rat}(hF:Fits F w)(h:Jk F x a)(h':JM F y r)(hza:Xj a 20000000)(hzr:JL r<=20000000):Xp Tryz.prog 208 [x.v,y.v] w F (Jc a (r,r)):=by
 refine QS.intro (G:=λF=>Jk F x a/\JM F y r) Tryz.func208 rfl wc rfl rfl hF (λF' hF'=>⟨h.le hF',h'.le hF'⟩)<|wI<|Qo rfl (vs:=[_,_,_,_,_,_,_,_]) rfl (λb2=>Qo rfl (vs:=[_,_,_,_]) rfl (λb3=>Qb Ji (λb4=>wG<|QG<|JO (.cons _ wm) mixed y0<|QK (QJ (vs:=[_,_,_,_,_,_,_,_]) rfl Qi .u1 .h8 rfl)<|QK (QJ (vs:=[_,_,_,_]) rfl QL .here .h4 rfl)<|QN rfl (λw F hF h9=>K1 (x:=y) (r:=r) hF h9.2) (λc7=>QN rfl (λw F hF h9=>Aj (x:=x) (y:=c7) (a:=a) (b:=(r,r)) hF h9.1.1 h9.2 hza ⟨hzr,hzr⟩) (λc8=>JV (vs:=[_,_,_,_,_,_,_,_]) rfl rfl rfl Qi rfl .here wm (λ_ h=>h.1.1) .h8 wV<|Q6<|QC<|QY ?_)))))
 exact QV (c8) rfl (.JW (c:=[_,_,_,_,_,_,_,_]) I Qi .here .nil) (rfl) wk
theorem vO{n:Int}(hF:Fits F w)(h:Jk F x a)(hn:0<=n/\n<=12)(hza:Xj a 1000000):Xp Tryz.prog 220 [x.v,.int .i64 n] w F (Kz a n):=by
 obtain⟨z1,z2⟩:=hza
 have p1:=VT a.1 n.toNat
 have p2:=VT a.2 n.toNat
 have m1:n.toNat*JL a.1<=12*1000000:=aO O z1
 have m2:n.toNat*JL a.2<=12*1000000:=aO O z2
 refine QS.intro (G:=λF=>Jk F x a) Tryz.func220 rfl wc rfl rfl hF (λF' hF'=>h.le hF')<|wI<|Qo rfl (vs:=[_,_,_,_,_,_,_,_]) rfl (λb2=>Qb Ji (λb4=>wG<|QG<|K7 (r:=[0,1,2,3,4,5,6,7,8,9,10,11]) wm mixed y0 rfl<|Jp 0 y0 rfl rfl<|QK (QH rfl Xu QL)<|JB<|Jp 1 y0 rfl rfl<|QK (QJ (vs:=[_,_,_,_]) rfl QL .u1 .h4 rfl)<|JB<|Jp 2 y0 rfl rfl<|QK (QD rfl)<|JB<|Jp 4 y0 rfl rfl<|QK (QH rfl Xt QL)<|JB<|Jp 5 y0 rfl rfl<|QK (QJ (vs:=[_,_,_,_]) rfl QL .u1 (.skip (.skip (.skip (.skip .h4)))) rfl)<|JB<|Jp 6 y0 rfl rfl ?_))
 refine QK (QD I)<|JB<|K6 (A:=[8,9]) (r:=[3,7,10,11]) y0<|XM 3 y0 y0 wc wm wi rfl rfl rfl (λ_=>rfl) (λw F hF hX=>Mr (x:=x.lo) (r:=a.1) (k:=n) hF hX.1 hn.1 O O) (λc10=>XM 7 y0 y0 wc wm wj rfl rfl rfl (λ_=>rfl) (λw F hF h9=>Mr (x:=x.hi) (r:=a.2) (k:=n) hF h9.1.2 hn.1 O O) (λc14=>VQ 8 (d:=5) (T:=135) y0 y0 wc wm (λ_ h=>h.1.1) y0 y0 Ju (λb5=>VQ 9 (d:=6) (T:=135) y0 y0 wc (.cons _ wm) (λ_ h=>h.1.1) y0 y0 Ju (λb6=>Z7 (vs:=[_,_,_,_]) 10 y0 y0 wc (.cons _ (.cons _ wm)) (λ_ h=>h.1.1) rfl rfl (λ_=>rfl) (λ_=>rfl) rfl QL I .u1 (.cons _ wm) .h4 wR<|Z7 (vs:=[_,_,_,_]) 11 y0 y0 wc (.cons _ (.cons _ wm)) (λ_ h=>h.1.1) rfl rfl (λ_=>rfl) (λ_=>rfl) rfl QL I .here (.cons _ wm) .h4 wR ?_))))
 refine WO ?_ y0
 refine QC<|QG ?_
 refine YV [(4,_),(5,_),(6,_)] [(33,.bool ((decide (n>0)&&(decide (n%2=0)&&(decide (ED a.1.num<0)&&decide (ED a.2.num>0))))))] wQ ?_ ?_
 ·
  refine QB<|wE I<|QA (BO I I O O)<|QA (QZ I I I)<|wE I ?_
  refine Q3 (t:=18) rfl (λhb18=>?_) (λhb18=>?_)
  ·
   refine QM I I<|wE I<|QM I I<|QA (QZ I I I)<|QA (Qp I I I)<|wE I ?_
   refine Q3 (t:=22) rfl (λhb22=>?_) (λhb22=>?_)
   ·
    refine QM I I<|QA (QH I Xu QL)<|QM I I<|QA (QJ (vs:=[_,_,_,_]) I QL .u3 .h4 rfl)<|QM I I<|QI I (λw F hF h9=>TA (x:=x.lo) (r:=a.1) hF h9.1.1.1) (λ_=>QM I I<|QA (QZ I I I)<|QA (Qp I I I)<|wE I ?_)
    refine Q3 (t:=28) rfl (λhb28=>?_) (λhb28=>?_)
    ·
     refine QM I I<|QA (QH I Xt QL)<|QM I I<|QA (QJ (vs:=[_,_,_,_]) I QL .u3 (.skip (.skip (.skip (.skip .h4)))) I)<|QM I I<|QI I (λw F hF h9=>TA (x:=x.hi) (r:=a.2) hF h9.1.1.1.2) (λ_=>QM I I<|QA (QZ I I I)<|QA (Qp I I I)<|QE ?_)
     exact J3 ⟨rfl,rfl,rfl,(congrArg (λb=>some (ah b)) (by rw[af];simp_all<;>(intros;omega))),trivial⟩ wK (λ_ h=>h.1.1)
    ·
     refine Qc I I I<|Qc I I I<|Qc I I I<|Qc I I I<|QA (Qj I I I)<|QE ?_
     exact J3 ⟨rfl,rfl,rfl,(congrArg (λb=>some (ah b)) (by rw[af];simp_all<;>(intros;omega))),trivial⟩ wK wj
   ·
    refine Qc I I I<|Qc I I I<|Qc I I I<|Qc I I I<|QA (Qj I I I)<|wE I<|Qc I I I<|Qc I I I<|Qc I I I<|Qc I I I<|QA (Qj I I I)<|QE ?_
    exact J3 ⟨rfl,rfl,rfl,(congrArg (λb=>some (ah b)) (by rw[af];simp_all<;>(intros;omega))),trivial⟩ wK wi
  ·
   refine Qc I I I<|Qc I I I<|QA (Qj I I I)<|wE I<|Qc I I I<|Qc I I I<|Qc I I I<|Qc I I I<|QA (Qj I I I)<|wE I<|Qc I I I<|Qc I I I<|Qc I I I<|Qc I I I<|QA (Qj I I I)<|QE ?_
   exact J3 ⟨rfl,rfl,rfl,(congrArg (λb=>some (ah b)) (by rw[af];simp_all<;>(intros;omega))),trivial⟩ wK wi
 ·
  simp only[aa,ae]
  refine QR I (λhc=>?_) (λhc=>?_)
  ·
   refine QG<|K7 (r:=[0,1,2,3,4,5,6]) (.cons_cons _ (.cons_cons _ (.cons _ wm))) mixed y0 rfl<|Jp 1 y0 rfl rfl<|QK (QJ (vs:=[_,_,_,_]) I QL .u1 .h4 rfl)<|JB<|Jp 2 y0 rfl rfl<|QK (QJ (vs:=[_,_,_,_]) I QL .here .h4 rfl)<|JB ?_
   refine Ny 0 3 y0 y0 rfl rfl rfl rfl rfl rfl ?_ ?_
   ·
    refine QN I (λw F hF h9=>TO (n:=0) hF wa wa) (λc34=>JB<|Xa 3 y0 y0 rfl rfl rfl ?_)
    refine Qm I (Qw XY) QL Ju I I (λb37=>?_) (λw h=>h.imp (.cons_cons _ (.cons_cons _ (.cons _ wm))) wj)
    refine JB<|Xa 4 y0 y0 rfl rfl rfl<|QN I (λw F hF h9=>Xo (x:=c10) (r:=a.1^n.toNat) (ps:=[(c14,a.2^n.toNat)]) hF h9.1.1.1.2 (Qy.of (n:=1) (sz:=4) (cs:=ar (λe:Fr×Rat=>Ku e.1) [(c14,a.2^n.toNat)]) h9.2 I) (Kt h9.1.1.2) rfl wa ⟨O,Kt (show JL (a.2^n.toNat)<=100000000 by omega)⟩) (λc38=>JB<|Jp 5 y0 rfl rfl<|QK (Qv I YG Ji (.cons (vs:=[_,_,_,_]) I I I .h4 (.cons (vs:=[_,_,_,_]) I I I (.skip (.skip (.skip (.skip .h4)))) .nil)))<|JB<|Xa 6 y0 y0 rfl rfl rfl<|JV (vs:=[_,_,_,_,_,_,_,_]) I I I Qi I .u2 wm (λ_ h=>h.1.1.1) .h8 wV<|JB<|Y4<|QC<|QY ?_)
    exact QV (⟨c34,c38⟩) I (.JW (c:=[_,_,_,_,_,_,_,_]) I Qi .u2 .nil) (rfl) (λF h9=>by unfold Kz;rw[if_pos hc,ZV];exact⟨h9.1.1.2,h9.2⟩)
   ·
    refine Qm I (Qw XY) QL Ju I I (λb37=>?_) (λw h=>h.imp (.cons_cons _ (.cons_cons _ (.cons _ wm))) wi)
    refine JB<|Xa 0 y0 y0 rfl rfl rfl<|QN I (λw F hF h9=>TO (n:=0) hF wa wa) (λc34=>JB<|Xa 4 y0 y0 rfl rfl rfl<|QN I (λw F hF h9=>Xo (x:=c10) (r:=a.1^n.toNat) (ps:=[(c14,a.2^n.toNat)]) hF h9.1.1.1.2 (Qy.of (n:=1) (sz:=4) (cs:=ar (λe:Fr×Rat=>Ku e.1) [(c14,a.2^n.toNat)]) h9.1.2 I) (Kt h9.1.1.2) rfl wa ⟨O,Kt (show JL (a.2^n.toNat)<=100000000 by omega)⟩) (λc38=>JB<|Jp 5 y0 rfl rfl<|QK (Qv I YG Ji (.cons (vs:=[_,_,_,_]) I I I .h4 (.cons (vs:=[_,_,_,_]) I I I (.skip (.skip (.skip (.skip .h4)))) .nil)))<|JB<|Xa 6 y0 y0 rfl rfl rfl<|JV (vs:=[_,_,_,_,_,_,_,_]) I I I Qi I .u2 wm (λ_ h=>h.1.1.1) .h8 wV<|JB<|Y4<|QC<|QY ?_))
    exact QV (⟨c34,c38⟩) I (.JW (c:=[_,_,_,_,_,_,_,_]) I Qi .u2 .nil) (rfl) (λF h9=>by unfold Kz;rw[if_pos hc,ZV];exact⟨h9.1.2,h9.2⟩)
  ·
   refine QQ<|QC<|QG<|K7 (r:=[0,1,2,3,4,5,6,7,8,9]) (.cons_cons _ (.cons_cons _ (.cons _ wm))) mixed y0 rfl<|Jp 0 y0 rfl rfl<|QK (QJ (vs:=[_,_,_,_]) I QL .u1 .h4 rfl)<|JB<|Jp 1 y0 rfl rfl<|QK (QJ (vs:=[_,_,_,_]) I QL .here .h4 rfl)<|JB<|Jp 4 y0 rfl rfl<|QK (QJ (vs:=[_,_,_,_]) I QL .u1 .h4 rfl)<|JB<|Jp 5 y0 rfl rfl<|QK (QJ (vs:=[_,_,_,_]) I QL .here .h4 rfl)<|JB ?_
   refine Ny 2 6 y0 y0 rfl rfl rfl rfl rfl rfl ?_ ?_
   ·
    refine Qm I (Qw XY) QL Ju I I (λb42=>?_) (λw h=>h.imp (.cons_cons _ (.cons_cons _ (.cons _ wm))) wi)
    refine JB ?_
    refine Ny 3 6 y0 y0 rfl rfl rfl rfl rfl rfl ?_ ?_
    ·
     refine QN I (λw F hF h9=>V7 (x:=c10) (r:=a.1^n.toNat) (ps:=[(c14,a.2^n.toNat)]) hF h9.1.1.2 (Qy.of (n:=1) (sz:=4) (cs:=ar (λe:Fr×Rat=>Ku e.1) [(c14,a.2^n.toNat)]) h9.2 I) (Kt h9.1.2) rfl wa ⟨O,Kt (show JL (a.2^n.toNat)<=100000000 by omega)⟩) (λc43=>JB<|Xa 6 y0 y0 rfl rfl rfl ?_)
     refine Qm I (Qw XY) QL Ju I I (λb46=>?_) (λw h=>h.imp (.cons_cons _ (.cons_cons _ (.cons _ wm))) (λF h=>h.1.1))
     refine JB<|Xa 7 y0 y0 rfl rfl rfl<|QN I (λw F hF h9=>Xo (x:=c10) (r:=a.1^n.toNat) (ps:=[(c14,a.2^n.toNat)]) hF h9.1.1.1.1.2 (Qy.of (n:=1) (sz:=4) (cs:=ar (λe:Fr×Rat=>Ku e.1) [(c14,a.2^n.toNat)]) h9.2 I) (Kt h9.1.1.1.2) rfl wa ⟨O,Kt (show JL (a.2^n.toNat)<=100000000 by omega)⟩) (λc47=>JB<|Jp 8 y0 rfl rfl<|QK (Qv I YG Ji (.cons (vs:=[_,_,_,_]) I I I .h4 (.cons (vs:=[_,_,_,_]) I I I (.skip (.skip (.skip (.skip .h4)))) .nil)))<|JB<|Xa 9 y0 y0 rfl rfl rfl<|JV (vs:=[_,_,_,_,_,_,_,_]) I I I Qi I .u2 wm (λ_ h=>h.1.1.1.1) .h8 wV<|JB<|Y4<|QC<|QY ?_)
     exact QV (⟨c43,c47⟩) I (.JW (c:=[_,_,_,_,_,_,_,_]) I Qi .u2 .nil) (rfl) (λF h9=>by unfold Kz;rw[if_neg (by rw[hc];decide),ZV];exact⟨h9.1.1.2,h9.2⟩)
    ·
     refine Qm I (Qw XY) QL Ju I I (λb46=>?_) (λw h=>h.imp (.cons_cons _ (.cons_cons _ (.cons _ wm))) wj)
     refine JB<|Xa 3 y0 y0 rfl rfl rfl<|QN I (λw F hF h9=>V7 (x:=c10) (r:=a.1^n.toNat) (ps:=[(c14,a.2^n.toNat)]) hF h9.1.1.1.2 (Qy.of (n:=1) (sz:=4) (cs:=ar (λe:Fr×Rat=>Ku e.1) [(c14,a.2^n.toNat)]) h9.1.2 I) (Kt h9.1.1.2) rfl wa ⟨O,Kt (show JL (a.2^n.toNat)<=100000000 by omega)⟩) (λc43=>JB<|Xa 7 y0 y0 rfl rfl rfl<|QN I (λw F hF h9=>Xo (x:=c10) (r:=a.1^n.toNat) (ps:=[(c14,a.2^n.toNat)]) hF h9.1.1.1.1.2 (Qy.of (n:=1) (sz:=4) (cs:=ar (λe:Fr×Rat=>Ku e.1) [(c14,a.2^n.toNat)]) h9.1.2 I) (Kt h9.1.1.1.2) rfl wa ⟨O,Kt (show JL (a.2^n.toNat)<=100000000 by omega)⟩) (λc47=>JB<|Jp 8 y0 rfl rfl<|QK (Qv I YG Ji (.cons (vs:=[_,_,_,_]) I I I .h4 (.cons (vs:=[_,_,_,_]) I I I (.skip (.skip (.skip (.skip .h4)))) .nil)))<|JB<|Xa 9 y0 y0 rfl rfl rfl<|JV (vs:=[_,_,_,_,_,_,_,_]) I I I Qi I .u2 wm (λ_ h=>h.1.1.1.1) .h8 wV<|JB<|Y4<|QC<|QY ?_))
     exact QV (⟨c43,c47⟩) I (.JW (c:=[_,_,_,_,_,_,_,_]) I Qi .u2 .nil) (rfl) (λF h9=>by unfold Kz;rw[if_neg (by rw[hc];decide),ZV];exact⟨h9.1.2,h9.2⟩)
   ·
    refine Qm I (Qw XY) QL Ju I I (λb46=>?_) (λw h=>h.imp (.cons_cons _ (.cons_cons _ (.cons _ wm))) wi)
    refine JB<|Xa 2 y0 y0 rfl rfl rfl ?_
    refine Qm I (Qw XY) QL Ju I I (λb42=>?_) (λw h=>h.imp (.cons_cons _ (.cons_cons _ (.cons _ wm))) wj)
    refine JB<|Xa 3 y0 y0 rfl rfl rfl<|QN I (λw F hF h9=>V7 (x:=c10) (r:=a.1^n.toNat) (ps:=[(c14,a.2^n.toNat)]) hF h9.1.1.1.2 (Qy.of (n:=1) (sz:=4) (cs:=ar (λe:Fr×Rat=>Ku e.1) [(c14,a.2^n.toNat)]) h9.2 I) (Kt h9.1.1.2) rfl wa ⟨O,Kt (show JL (a.2^n.toNat)<=100000000 by omega)⟩) (λc43=>JB<|Xa 7 y0 y0 rfl rfl rfl<|QN I (λw F hF h9=>Xo (x:=c10) (r:=a.1^n.toNat) (ps:=[(c14,a.2^n.toNat)]) hF h9.1.1.1.1.2 (Qy.of (n:=1) (sz:=4) (cs:=ar (λe:Fr×Rat=>Ku e.1) [(c14,a.2^n.toNat)]) h9.1.1.2 I) (Kt h9.1.1.1.2) rfl wa ⟨O,Kt (show JL (a.2^n.toNat)<=100000000 by omega)⟩) (λc47=>JB<|Jp 8 y0 rfl rfl<|QK (Qv I YG Ji (.cons (vs:=[_,_,_,_]) I I I .h4 (.cons (vs:=[_,_,_,_]) I I I (.skip (.skip (.skip (.skip .h4)))) .nil)))<|JB<|Xa 9 y0 y0 rfl rfl rfl<|JV (vs:=[_,_,_,_,_,_,_,_]) I I I Qi I .u2 wm (λ_ h=>h.1.1.1.1) .h8 wV<|JB<|Y4<|QC<|QY ?_))
    exact QV (⟨c43,c47⟩) I (.JW (c:=[_,_,_,_,_,_,_,_]) I Qi .u2 .nil) (rfl) (λF h9=>by unfold Kz;rw[if_neg (by rw[hc];decide),ZV];exact⟨h9.1.2,h9.2⟩)
theorem qV{b:Rat×Rat}(hF:Fits F w)(h:Jk F x a)(h':Jk F y b)(hza:Xj a 100000000)(hzb:Xj b 100000000):Xp Tryz.prog 170 [x.v,y.v] w F (XF a b):=by
 refine QS.intro (G:=λF=>Jk F x a/\Jk F y b) Tryz.func170 rfl wc rfl rfl hF (λF' hF'=>⟨h.le hF',h'.le hF'⟩)<|wI<|Qo rfl (vs:=[_,_,_,_,_,_,_,_]) rfl (λb2=>Qo rfl (vs:=[_,_,_,_,_,_,_,_]) rfl (λb3=>Qb Ji (λb4=>wG<|QG<|K7 (r:=[0,1,2,3,4,5,6,7,8,9,10,11,12,13]) (.cons _ wm) mixed y0 rfl<|Jp 0 y0 rfl rfl<|QK (QH rfl Xu QL)<|JB<|Jp 1 y0 rfl rfl<|QK (QJ (vs:=[_,_,_,_]) rfl QL .u1 .h4 rfl)<|JB<|Jp 2 y0 rfl rfl<|QK (QH rfl Xu QL)<|JB<|Jp 3 y0 rfl rfl<|QK (QJ (vs:=[_,_,_,_]) rfl QL .here .h4 rfl)<|JB<|Jp 6 y0 rfl rfl<|QK (QH rfl Xt QL)<|JB ?_)))
 refine Jp 7 y0 rfl rfl<|QK (QJ (vs:=[_,_,_,_]) I QL .u1 (.skip (.skip (.skip (.skip .h4)))) I)<|JB<|Jp 8 y0 rfl rfl<|QK (QH I Xt QL)<|JB<|Jp 9 y0 rfl rfl<|QK (QJ (vs:=[_,_,_,_]) I QL .here (.skip (.skip (.skip (.skip .h4)))) I)<|JB ?_
 refine Ny 4 10 y0 y0 rfl rfl rfl rfl rfl rfl ?_ ?_
 ·
  refine Qm I (Qw XY) QL Ju I I (λb9=>?_) (λw h=>h.imp (.cons _ wm) wi)
  refine JB ?_
  refine Ny 5 10 y0 y0 rfl rfl rfl rfl rfl rfl ?_ ?_
  ·
   refine QN I (λw F hF h9=>V7 (x:=x.lo) (r:=a.1) (ps:=[(y.lo,b.1)]) hF h9.1.1.1 (Qy.of (n:=1) (sz:=4) (cs:=ar (λe:Fr×Rat=>Ku e.1) [(y.lo,b.1)]) h9.2 I) (Kt h9.1.2.1) rfl wa ⟨hza.1,Kt hzb.1⟩) (λc10=>JB<|Xa 10 y0 y0 rfl rfl rfl ?_)
   refine Qm I (Qw XY) QL Ju I I (λb15=>?_) (λw h=>h.imp (.cons _ wm) (λF h=>h.1.1))
   refine JB<|Xa 11 y0 y0 rfl rfl rfl<|QN I (λw F hF h9=>Xo (x:=x.hi) (r:=a.2) (ps:=[(y.hi,b.2)]) hF h9.1.1.1.1.2 (Qy.of (n:=1) (sz:=4) (cs:=ar (λe:Fr×Rat=>Ku e.1) [(y.hi,b.2)]) h9.2 I) (Kt h9.1.1.1.2.2) rfl wa ⟨hza.2,Kt hzb.2⟩) (λc16=>JB<|Jp 12 y0 rfl rfl<|QK (Qv I YG Ji (.cons (vs:=[_,_,_,_]) I I I .h4 (.cons (vs:=[_,_,_,_]) I I I (.skip (.skip (.skip (.skip .h4)))) .nil)))<|JB<|Xa 13 y0 y0 rfl rfl rfl<|JV (vs:=[_,_,_,_,_,_,_,_]) I I I Qi I .here wm (λ_ h=>h.1.1.1.1) .h8 wV<|JB<|Y4<|QC<|QY ?_)
   exact QV (⟨c10,c16⟩) I (.JW (c:=[_,_,_,_,_,_,_,_]) I Qi .here .nil) (rfl) (λF h9=>by unfold XF;rw[<-AQ,<-AY];exact⟨h9.1.1.2,h9.2⟩)
  ·
   refine Qm I (Qw XY) QL Ju I I (λb15=>?_) (λw h=>h.imp (.cons _ wm) wj)
   refine JB<|Xa 5 y0 y0 rfl rfl rfl<|QN I (λw F hF h9=>V7 (x:=x.lo) (r:=a.1) (ps:=[(y.lo,b.1)]) hF h9.1.1.1.1 (Qy.of (n:=1) (sz:=4) (cs:=ar (λe:Fr×Rat=>Ku e.1) [(y.lo,b.1)]) h9.1.2 I) (Kt h9.1.1.2.1) rfl wa ⟨hza.1,Kt hzb.1⟩) (λc10=>JB<|Xa 11 y0 y0 rfl rfl rfl<|QN I (λw F hF h9=>Xo (x:=x.hi) (r:=a.2) (ps:=[(y.hi,b.2)]) hF h9.1.1.1.1.2 (Qy.of (n:=1) (sz:=4) (cs:=ar (λe:Fr×Rat=>Ku e.1) [(y.hi,b.2)]) h9.1.2 I) (Kt h9.1.1.1.2.2) rfl wa ⟨hza.2,Kt hzb.2⟩) (λc16=>JB<|Jp 12 y0 rfl rfl<|QK (Qv I YG Ji (.cons (vs:=[_,_,_,_]) I I I .h4 (.cons (vs:=[_,_,_,_]) I I I (.skip (.skip (.skip (.skip .h4)))) .nil)))<|JB<|Xa 13 y0 y0 rfl rfl rfl<|JV (vs:=[_,_,_,_,_,_,_,_]) I I I Qi I .here wm (λ_ h=>h.1.1.1.1) .h8 wV<|JB<|Y4<|QC<|QY ?_))
   exact QV (⟨c10,c16⟩) I (.JW (c:=[_,_,_,_,_,_,_,_]) I Qi .here .nil) (rfl) (λF h9=>by unfold XF;rw[<-AQ,<-AY];exact⟨h9.1.2,h9.2⟩)
 ·
  refine Qm I (Qw XY) QL Ju I I (λb15=>?_) (λw h=>h.imp (.cons _ wm) wi)
  refine JB<|Xa 4 y0 y0 rfl rfl rfl ?_
  refine Qm I (Qw XY) QL Ju I I (λb9=>?_) (λw h=>h.imp (.cons _ wm) wj)
  refine JB<|Xa 5 y0 y0 rfl rfl rfl<|QN I (λw F hF h9=>V7 (x:=x.lo) (r:=a.1) (ps:=[(y.lo,b.1)]) hF h9.1.1.1.1 (Qy.of (n:=1) (sz:=4) (cs:=ar (λe:Fr×Rat=>Ku e.1) [(y.lo,b.1)]) h9.2 I) (Kt h9.1.1.2.1) rfl wa ⟨hza.1,Kt hzb.1⟩) (λc10=>JB<|Xa 11 y0 y0 rfl rfl rfl<|QN I (λw F hF h9=>Xo (x:=x.hi) (r:=a.2) (ps:=[(y.hi,b.2)]) hF h9.1.1.1.1.2 (Qy.of (n:=1) (sz:=4) (cs:=ar (λe:Fr×Rat=>Ku e.1) [(y.hi,b.2)]) h9.1.1.2 I) (Kt h9.1.1.1.2.2) rfl wa ⟨hza.2,Kt hzb.2⟩) (λc16=>JB<|Jp 12 y0 rfl rfl<|QK (Qv I YG Ji (.cons (vs:=[_,_,_,_]) I I I .h4 (.cons (vs:=[_,_,_,_]) I I I (.skip (.skip (.skip (.skip .h4)))) .nil)))<|JB<|Xa 13 y0 y0 rfl rfl rfl<|JV (vs:=[_,_,_,_,_,_,_,_]) I I I Qi I .here wm (λ_ h=>h.1.1.1.1) .h8 wV<|JB<|Y4<|QC<|QY ?_))
  exact QV (⟨c10,c16⟩) I (.JW (c:=[_,_,_,_,_,_,_,_]) I Qi .here .nil) (rfl) (λF h9=>by unfold XF;rw[<-AQ,<-AY];exact⟨h9.1.2,h9.2⟩)
theorem jw{b:Rat×Rat}(hF:Fits F w)(h:Jk F x a)(h':Jk F y b)(hza:Xj a 100000000)(hzb:Xj b 100000000):Qe Tryz.prog 242 [x.v,y.v] w F (.bool (Oz a b)):=by
 refine QS.intro (G:=λF=>Jk F x a/\Jk F y b) Tryz.func242 rfl wc rfl rfl hF (λF' hF'=>⟨h.le hF',h'.le hF'⟩)<|wI<|Qo rfl (vs:=[_,_,_,_,_,_,_,_]) rfl (λb2=>Qo rfl (vs:=[_,_,_,_,_,_,_,_]) rfl (λb3=>wH rfl<|wI<|QA (QH rfl Xu QL)<|QA (QJ (vs:=[_,_,_,_]) rfl QL .here .h4 rfl)<|QA (QH rfl Xu QL)<|QA (QJ (vs:=[_,_,_,_]) rfl QL .u1 .h4 rfl)<|QI rfl (λw F hF h9=>Hb (x:=y.lo) (y:=x.lo) (r:=b.1) (s:=a.1) hF h9.2.1 h9.1.1 hzb.1 hza.1) (λ_=>QA (QZ rfl rfl rfl)<|wE rfl ?_)))
 refine Q3 (t:=11) rfl (λhb11=>?_) (λhb11=>?_)
 ·
  refine QM I I<|QA (QH I Xt QL)<|QM I I<|QA (QJ (vs:=[_,_,_,_]) I QL .u1 (.skip (.skip (.skip (.skip .h4)))) I)<|QM I I<|QA (QH I Xt QL)<|QM I I<|QA (QJ (vs:=[_,_,_,_]) I QL .here (.skip (.skip (.skip (.skip .h4)))) I)<|QM I I<|QI I (λw F hF h9=>Hb (x:=x.hi) (y:=y.hi) (r:=a.2) (s:=b.2) hF h9.1.1.2 h9.1.2.2 hza.2 hzb.2) (λ_=>QM I I<|QA (QZ I I I)<|QA (Qp I I I)<|wH I<|QY ?_)
  exact wL I I (congrArg ah (by unfold Oz;rw[hb11,fh])) wh
 ·
  refine Qc I I I<|Qc I I I<|Qc I I I<|Qc I I I<|Qc I I I<|Qc I I I<|QA (Qj I I I)<|wH I<|QY ?_
  exact wL I I (congrArg ah (by unfold Oz;rw[hb11,Bool.false_and])) wh
theorem Hc{b:Int}(hF:Fits F w)(h:Jk F x a)(hb:0<=b/\b<=64)(hza:Xj a 10000000):Xp Tryz.prog 249 [x.v,.int .i64 b] w F (YH a b):=by
 obtain⟨z1,z2⟩:=hza
 have p1:JL ((((2:Int):Rat))^b.toNat)<=200:=by
  have h1:=VT (((2:Int):Rat)) b.toNat
  have h2:JL (((2:Int):Rat))<=2:=wa
  have h3:b.toNat*JL (((2:Int):Rat))<=64*2:=aO O h2
  omega
 have hne:((((2:Int):Rat))^b.toNat).num≠0:=by rw[Bp];show(two b)≠0;unfold two;exact Int.ne_of_gt (Int.pow_pos wa)
 have m1:=Z8 a.1 ((((2:Int):Rat))^b.toNat)
 have m2:=Z8 a.2 ((((2:Int):Rat))^b.toNat)
 have f1:=di (a.1*(((2:Int):Rat))^b.toNat)
 have f2:=dj (a.2*(((2:Int):Rat))^b.toNat)
 refine QS.intro (G:=λF=>Jk F x a) Tryz.func249 rfl wc rfl rfl hF (λF' hF'=>h.le hF')<|wI<|Qo rfl (vs:=[_,_,_,_,_,_,_,_]) rfl (λb2=>Qb Ji (λb4=>wG<|wI<|QI rfl (λw F hF hX=>TO (n:=2) hF wa wa) (λc6=>wE rfl<|QI rfl (λw F hF h9=>Mr (x:=c6) (r:=(((2:Int):Rat))) (k:=b) hF h9.2 hb.1 O (by have h2:JL (((2:Int):Rat))<=2:=wa;have h3:b.toNat*JL (((2:Int):Rat))<=64*2:=aO O h2;omega)) (λc8=>Qb Ju (λb5=>QO (vs:=[_,_,_,_]) I I I QL I .here .h4 wR<|wG<|QG<|JO (.cons_cons _ (.cons _ wm)) mixed y0<|QK (QH I Xu QL)<|QK (QJ (vs:=[_,_,_,_]) I QL .u1 .h4 rfl)<|QK (QJ (vs:=[_,_,_,_]) I QL .here .h4 rfl)<|QN I (λw F hF h9=>Wx (x:=x.lo) (y:=c8) (r:=a.1) (s:=(((2:Int):Rat))^b.toNat) hF h9.1.1.1 h9.2 O O) (λc12=>QN I (λw F hF h9=>LH (x:=c12) (r:=a.1*(((2:Int):Rat))^b.toNat) hF h9.2 O) (λc13=>QN I (λw F hF h9=>EI (g:=c13) (a:=(a.1*(((2:Int):Rat))^b.toNat).floor) hF h9.2) (λc14=>QK (QJ (vs:=[_,_,_,_]) I QL .here .h4 rfl) ?_))))))))
 refine QN I (λw F hF h9=>jv (x:=c14) (y:=c8) (r:=(((a.1*(((2:Int):Rat))^b.toNat).floor:Int):Rat)) (s:=(((2:Int):Rat))^b.toNat) hF h9.2 h9.1.1.1.2 hne O O) (λc16=>QK (QH I Xt QL)<|QK (QJ (vs:=[_,_,_,_]) I QL .u1 (.skip (.skip (.skip (.skip .h4)))) I)<|QK (QJ (vs:=[_,_,_,_]) I QL .here .h4 rfl)<|QN I (λw F hF h9=>Wx (x:=x.hi) (y:=c8) (r:=a.2) (s:=(((2:Int):Rat))^b.toNat) hF h9.1.1.1.1.1.1.2 h9.1.1.1.1.2 O O) (λc20=>QN I (λw F hF h9=>uY (x:=c20) (r:=a.2*(((2:Int):Rat))^b.toNat) hF h9.2 O) (λc21=>QN I (λw F hF h9=>EI (g:=c21) (a:=-(-(a.2*(((2:Int):Rat))^b.toNat)).floor) hF h9.2) (λc22=>QK (QJ (vs:=[_,_,_,_]) I QL .here .h4 rfl)<|QN I (λw F hF h9=>jv (x:=c22) (y:=c8) (r:=((-(-(a.2*(((2:Int):Rat))^b.toNat)).floor:Int):Rat)) (s:=(((2:Int):Rat))^b.toNat) hF h9.2 h9.1.1.1.1.1.1.1.2 hne O O) (λc24=>QK (Qv I YG Ji (.cons (vs:=[_,_,_,_]) I I I .h4 (.cons (vs:=[_,_,_,_]) I I I (.skip (.skip (.skip (.skip .h4)))) .nil)))<|JV (vs:=[_,_,_,_,_,_,_,_]) I I I Qi I .u1 wm (λ_ h=>h.1.1.1.1.1.1.1.1) .h8 wV<|Q6<|QC<|QY ?_)))))
 exact QV (⟨c16,c24⟩) I (.JW (c:=[_,_,_,_,_,_,_,_]) I Qi .u1 .nil) (rfl) (λF h9=>by rw[kI];exact⟨h9.1.1.1.1.2,h9.2⟩)
theorem vR(hF:Fits F w)(h:Jk F x a)(hza:Xj a 100000000):ZA Tryz.prog 130 [x.v] w F (ji a):=by
 refine QS.intro (G:=λF=>Jk F x a) Tryz.func130 rfl wc rfl rfl hF (λF' hF'=>h.le hF')<|wI<|Qo rfl (vs:=[_,_,_,_,_,_,_,_]) rfl (λb1=>Qb Ju (λb2=>wG<|QG<|JO (.cons _ wm) mixed y0<|QK (QH rfl Xt QL)<|QK (QJ (vs:=[_,_,_,_]) rfl QL .here (.skip (.skip (.skip (.skip .h4)))) rfl)<|QK (QH rfl Xu QL)<|QK (QJ (vs:=[_,_,_,_]) rfl QL .here .h4 rfl)<|QN rfl (λw F hF hX=>Ad (x:=x.lo) (r:=a.1) hF hX.1) (λc7=>QK (QH rfl Xu QL)<|QK (QJ (vs:=[_,_,_,_]) rfl QL .here .h4 rfl)<|QK (QH rfl Xt QL)<|QK (QJ (vs:=[_,_,_,_]) rfl QL .here (.skip (.skip (.skip (.skip .h4)))) rfl)<|QN rfl (λw F hF h9=>Ad (x:=x.hi) (r:=a.2) hF h9.1.2) (λc12=>?_))))
 refine Qm I (Qw XY) QL Ju I I (λb13=>?_) (λw h=>h.imp (.cons _ wm) (λF h=>h.1.1))
 refine QN I (λw F hF ⟨⟨⟨hX,h7⟩,h12⟩,hs13⟩=>Xo (x:=x.hi) (r:=a.2) (ps:=[(c7,-a.1),(x.lo,a.1),(c12,-a.2)]) hF hX.2 (Qy.of (n:=3) (sz:=4) (cs:=ar (λe:Fr×Rat=>Ku e.1) [(c7,-a.1),(x.lo,a.1),(c12,-a.2)]) hs13 rfl) (MF h7 hX.1 h12) rfl wa ⟨hza.2,MF (by rw[V3];exact hza.1) hza.1 (by rw[V3];exact hza.2)⟩) (λc14=>JV (vs:=[_,_,_,_]) I I I QL I .here wm (λ_ h=>h.1.1.1.1) .h4 wR<|Q6<|QC<|QY ?_)
 exact QV (c14) rfl (.JW (c:=[_,_,_,_]) I QL .here .nil) (rfl) wk
abbrev Y9:Type:=Sp×Rat×Rat
variable{l la lb:List Y9}
instance :Inhabited Sp:=⟨⟨⟨⟨0,none,0,0⟩,⟨0,none,0,0⟩⟩,⟨⟨0,none,0,0⟩,⟨0,none,0,0⟩⟩⟩⟩
def Xh(l:List Y9):List Value:=l.flatMap λe=>Xs e.1
structure J9(F:Gs)(r:Sr)(l:List Y9)(vs:List (Rat×Rat)):Prop where
 row:Qy F r.q r.n 8 (Xh l)
 sp:∀e∈l,Jk F e.1 e.2
 val:l.map (·.2)=vs
 len:l.length=r.n
 cap:r.n<=r.cap
theorem J9.le{r:Sr}{vs:List (Rat×Rat)}(h:J9 F r l vs)(k:Gs.le F F'):J9 F' r l vs:=⟨h.row.le k,λe he=>(h.sp e he).le k,h.val,h.len,h.cap⟩
theorem J9.YZ{r:Sr}{vs:List (Rat×Rat)}(h:J9 F r l vs):vs.length=r.n:=by rw[<-h.val,bz,h.len]
theorem J9.el{r:Sr}{vs:List (Rat×Rat)}(h:J9 F r l vs){i:Nat}(hi:i<r.n):(el l i).2=YtjcphjpkimmmjaaGreatDoor.el vs i:=by
 have h2:=h.len
 rw[<-h.val,JK (show i<l.length by omega),JK (by rw[bz];omega),bm]
theorem J9.at{r:Sr}{vs:List (Rat×Rat)}(h:J9 F r l vs){i:Nat}(hi:i<r.n):Jk F (YtjcphjpkimmmjaaGreatDoor.el l i).1 (YtjcphjpkimmmjaaGreatDoor.el vs i):=by
 rw[<-h.el hi];exact h.sp _ (Q4 (by rw[h.len];exact hi))
abbrev Ws(P:Program)(f:FuncId)(args:List Value)(w:World)(F:Gs)(vs:List (Rat×Rat)):Prop:=QS P f args w F (λ(c:Sr×List Y9)=>c.1.v) (λc F=>J9 F c.1 c.2 vs)
theorem Ga(l:List Y9):(Xh l).length=l.length*8:=Mt (f:=λe:Y9=>Xs e.1) (λ_=>rfl) l
theorem Kx(x:Sp):∀v∈Xs x,v.oneCell'=true:=vI x.lo x.hi
theorem MX(l:List Y9)(e:Y9):Xh (l++[e])=Xh l++Xs e.1:=by unfold Xh;rw[aK];simp
structure W1(n:Nat)(f:Nat->Rat×Rat) where
 i:Nat
 v:Value
 ob:List (Nat×Obj)
 l:List Y9
 le:i<=n
 hr:Qx 168 8 v i (Xh l) ob
 hl:l.map (·.2)=(ag i).map f
def W1.start(n:Nat)(f:Nat->Rat×Rat):W1 n f:=⟨0,.slice none 0 0,[],[],aD _,.nil,rfl⟩
def W1.next{n:Nat}{f:Nat->Rat×Rat}(s:W1 n f)(h:s.i<n){v:Value}{ob:List (Nat×Obj)}(c:Sp)(x:Rat×Rat)(hr:Qx 168 8 v (s.i+1) (Xh s.l++Xs c) ob)(hx:x=f s.i):W1 n f :=
 ⟨s.i+1,v,ob,s.l++[(c,x)],h,by rw[MX];exact hr,by rw[eW,aV,eW,s.hl,hx];rfl⟩
theorem W1.len{f:Nat->Rat×Rat}(s:W1 n f):s.l.length=s.i:=by
 have:=congrArg fq s.hl
 simpa using this
def YU(F:Gs)(l:List Y9):Prop:=∀e∈l,Jk F e.1 e.2
theorem YU.nil(F:Gs):YU F []:=λ_ h=>by cases h
theorem YU.snoc{c:Sp}{x:Rat×Rat}(h:YU F l)(k:Jk F c x):YU F (l++[(c,x)]):=λe he=>by
 rcases List.mem_append.1 he with he | he
 ·exact h e he
 ·rw[List.mem_singleton.1 he];exact k
theorem W1.box{f:Nat->Rat×Rat}(s:W1 n f)(h:s.i=n){F:Gs}{r:Sr}(hr:Qy F r.q r.n 8 (Xh s.l))(hn:r.n=s.i)(hc:s.i<=r.cap)(hs:YU F s.l):J9 F r s.l ((ag n).map f) :=
 ⟨hr,hs,by rw[s.hl,h],by rw[s.len,hn],by rw[hn];exact hc⟩
theorem Em{β:Type}[Inhabited α]{f:α->β}{l:List α}{n:Nat}(h:l.length=n):(ag n).map (λi=>f (el l i))=l.map f:=by
 apply bX
 ·simp[h]
 ·intro i h1 h2
  have:i<l.length:=by simpa using h2
  simp[JK this]
theorem C7{o:Obj}(h:(b,o)∈bs):∃f,Own bs b o f:=by
 induction bs with
 |nil=>cases h
 |cons x l ih =>
  rcases List.mem_cons.1 h with rfl | h
  ·exact⟨_,.here⟩
  ·obtain⟨f,hf⟩:=ih h;exact⟨_,.there hf⟩
section
variable[Dr][df:Df]{P:Program}{Q:Exit->Act->World->Prop}{N:Nat}{m:Sl}{E E0:Env}{ops:Array Oper}{l:List Oper}{w0:World}{F0:Gs}{bs:List (Nat×Obj)}{G:Gs->Prop}{d:Nat}{ty:TypeId}{pos:String}{aft:Array Edge}
theorem gj{x:Operand}{v:Value}(hx:ev m x=some v)(hr:∀w,(Instr.makeInterface T v).run P w = .ok (.iface T v) w)(k:JD P ops Q E0 l N ((d,.iface T v)::m) E)(hd:J5 N (some d)=true:=by rfl):
  JD P ops Q E0 (⟨some d,.makeInterface T x,ty,pos,aft,none⟩::l) N m E:=λhE a w ha hw=>by
 refine .inr ⟨rfl,?_⟩
 rw[if_pos (by simp[bh])]
 refine upon_value (w':=w) (v:=.iface T v) ?_ ⟨hE w hw,k hE _ w (ha.put hd _) hw⟩
 simp[execOp,ha.ev hx,hr]
theorem gk{γ:Type}{val:γ->Value}{fact:γ->Gs->Prop}{f:FuncId}{x:Operand}{name:String}{args:Array Operand}{tys:Array TypeId}{v:Value}{vs:List Value}(hx:ev m x=some (.iface T v))(hv:MP m args.toList=some vs)
  (hi:∀w,(invoke (.fn (.method name) #[]) (#[.iface T v]++vs.toArray)).run P w = .ok (.enter f (v::vs).toArray) w) (hc:∀w F,Fits F w->G F->QS P f (v::vs) w F val fact)
  (k:∀c,JD P ops Q E0 l N ((d,val c)::m) ⟨w0,F0,bs,λF=>G F/\fact c F⟩) (hd:J5 N (some d)=true:=by rfl):JD P ops Q E0 (⟨some d,.call ⟨.invoke x name,args,tys⟩,ty,pos,aft,none⟩::l) N m ⟨w0,F0,bs,G⟩:=by
 intro hE a w ha hw
 obtain⟨F,hF⟩:=hw
 have hcg:=hc w F hF.fits hF.hG
 refine .inr ⟨rfl,?_⟩
 rw[if_pos (by simp[bh])]
 unfold Oper.wp
 have e2:args.map a.eval=vs.toArray:=by rw[<-ha.MP hv];apply eK;simp
 have hrun:(execOp a.eval ⟨some d,.call ⟨.invoke x name,args,tys⟩,ty,pos,aft,none⟩).run P w = .ok (.enter f (v::vs).toArray) w:=by
  simp only[execOp,resolve,ha.ev hx,aU,eI,aB,e2]
  exact hi w
 rw[hrun]
 simp only[eR]
 refine hcg.2.mono ?_
 rintro e w' ⟨c,F',rfl,h1,h2,h3,h4,h5⟩
 have hS:St ⟨w0,F0,bs,λF=>G F/\fact c F⟩ w':=⟨F',hF.call h1 h2 h3 h4 h5⟩
 exact⟨hE w' (hS.BY λ_ h=>h.1),k c (λw h=>hE w (h.BY λ_ h=>h.1)) _ w' (ha.put hd (val c)) hS⟩
end
theorem Bb{q:Option Addr}{ss:List (List UInt8×List UInt8)}(hF:Fits F w)(hGl:JC F)(hR:Qy F q n 2 (ss.flatMap OO))(hn:ss.length=n)(hb:n<=1000000)(hc:∀s∈ss,ZH s.1 s.2=0/\s.1.length<=1000000/\s.2.length<=1000000):
  Ws Tryz.prog 114 [.slice q n c] w F (ss.map JF):=by
 refine QS.intro (G:=λF=>JC F/\Qy F q n 2 (ss.flatMap OO)) Tryz.func114 rfl wc rfl rfl hF (λF' hF'=>⟨hGl.le hF',hR.le hF'⟩)<|wI<|wH rfl<|wI<|wH rfl<|QG<|wJ rfl<|QA (Qh rfl Xq)<|wE rfl<|wG<|QU<|JU (ι:=W1 (n) (λi=>JF (el ss i))) [(6,_),(7,_)] (λi=>[(3,i.v),(8,.int .i64 ((i.i:Nat):Int))]) (λi=>i.ob) (λi F=>YU F i.l) (λi=>(n) - i.i) (W1.start _ _) wP wP wK (λ_ _=>YU.nil _) (λi=>?_)
 simp only[aa,ae]
 have hi:=i.le
 refine wI<|QA (QZ I I I)<|wG<|QG ?_
 refine QR I (λhc2=>?_) (λhc2=>?_)
 ·
  have hlt:i.i<n:=by have:=wM hc2;omega
  have hem:=Q4 (show i.i<ss.length by omega)
  have hcl:=hc _ hem
  have hck:=VO hcl.1
  refine QQ<|QC<|QG<|QU<|wI<|QA (Q9 (n:=n) i.i (λF h9=>h9.1.2) rfl rfl Xq XD O)<|QA (Ja (n:=n) (vs:=[tx (el ss i.i).1,tx (el ss i.i).2]) ((i.i)*2) (λF h9=>h9.1.2) O rfl XD I (λj v hv=>Jm (f:=OO) (l:=ss) By O hv))<|Qb Xm (λb5=>QO (vs:=[_,_]) I I I XD I .here .h2 wP<|wG<|QB<|wE I<|QA (QJ (vs:=[_,_]) I XD .here .h2 rfl)<|QI I (λw F hF h9=>qT (lo:=(el ss i.i).1) (hi:=(el ss i.i).2) hF h9.1.1 hck.1 hck.2.1 hcl.2) (λc14=>Qa I (Qw JN) Qi Ji I I (λb15=>?_)))
  refine Yu (bs1:=[_]) (ob:=i.ob) (n:=i.i) (k:=1) (sz:=8) (news:=(Xs c14)) I I JN Qi Ji I Wq i.hr (Src.row (off:=0) wk (λj q hq=>by rw[aM];rw[ay];exact hq) rfl) O O (Kx _) (λv16 ob16 hr16=>?_)
  refine wF I<|QE<|Qk<|QC<|QB<|QA (Qu I I O)<|wE I<|QE ?_
  exact Ql (i.next hlt c14 (JF (el ss i.i)) hr16 rfl) (by show n - (i.i+1)<n - i.i;omega) wR (.cons _ wK) (λF h9=>⟨h9.1.1.1,h9.1.1.2.snoc h9.1.2⟩)
 ·
  have hge:i.i=n:=by have:=wN hc2;omega
  refine Qz ?_
  repeat (first | refine QW ?_ | refine QP wc ?_)
  refine QX<|QC<|QG<|QB ?_
  have hxl:=i.len
  obtain⟨⟨rq,rn,rc⟩,hv2,hrn,hrc,hfix⟩:=Qx.fix (w0:=w) (F0:=F) (bs1:=[]) (G:=_) i.hr
  dsimp only at hrn hrc hfix
  subst hrn
  refine YM hfix ?_
  rw[hv2]
  dsimp only[Sr.v]
  refine wE I<|wH I<|QY ?_
  exact QV ((⟨rq,i.i,rc⟩,i.l)) I (wB I) (rfl) (λF h9=>by have:=i.box hge (r:=⟨rq,i.i,rc⟩) h9.2 I hrc h9.1.2;rw[Em O (f:=JF)]at this;exact this)
structure TxJ(vs:List (Rat×Rat)) where
 i:Nat
 v:Value
 ob:List (Nat×Obj)
 le:i<=vs.length
 hr:Qx 40 2 v i ((vs.take i).flatMap λa=>[tx (Je a.1),tx (Je a.2)]) ob
 no:∀a∈vs.take i,(Jj a.1||Jj a.2)=false
theorem pg{vs:List (Rat×Rat)}(h:i<vs.length)(k:(Jj (el vs i).1||Jj (el vs i).2)=true):Jz vs=true:=by
 unfold Jz;rw[List.any_eq_true];exact⟨_,Q4 h,k⟩
theorem pf{vs:List (Rat×Rat)}(h:∀a∈vs,(Jj a.1||Jj a.2)=false):Jz vs=false:=by
 unfold Jz
 cases e:vs.any λs=>Jj s.1||Jj s.2 with
 |false=>rfl
 |true =>
  obtain⟨a,ha,k⟩:=List.any_eq_true.1 e
  rw[h a ha]at k;cases k
def QA1(a:Rat×Rat):List Value:=[tx (Je a.1),tx (Je a.2)]
theorem Ba{r:Sr}{vs:List (Rat×Rat)}(hF:Fits F w)(hGl:JC F)(hB:J9 F r l vs)(hb:r.n<=1000000)(hz:∀a∈vs,Xj a 100000000):
  QS Tryz.prog 115 [r.v] w F (λ(c:Sr)=>.tuple #[c.v,.int .i64 (if Jz vs=true then 4 else 0)]) (λc F=>Qy F c.q c.n 2 ((if Jz vs=true then[]else vs).flatMap QA1)/\c.n=(if Jz vs=true then[]else vs).length/\c.n<=c.cap):=by
 obtain⟨q,n,c⟩:=r
 have hvl:=hB.YZ
 have hll:=hB.len
 have hcap:=hB.cap
 have hel:=λi hi=>hB.el (i:=i) hi
 dsimp only[Sr.v]at *
 refine QS.intro (G:=λF=>JC F/\J9 F ⟨q,n,c⟩ l vs) Tryz.func115 rfl wc rfl rfl hF (λF' hF'=>⟨hGl.le hF',hB.le hF'⟩)<|wI<|wF rfl<|wH rfl<|wI<|wH rfl<|QG<|wJ rfl<|QA (Qh rfl JN)<|wE rfl<|wG<|QU<|JU (ι:=TxJ vs) [(7,_),(8,_)] (λi=>[(4,i.v),(9,.int .i64 ((i.i:Nat):Int))]) (λi=>i.ob) (λi F=>True) (λi=>n - i.i) (⟨0,_,[],aD _,.nil,λ_ h=>by cases h⟩) wP wP wK wh (λi=>?_)
 simp only[aa,ae]
 have hi:=i.le
 refine wI<|QA (QZ I I I)<|wG<|QG ?_
 refine QR I (λhc2=>?_) (λhc2=>?_)
 ·
  have hlt:i.i<n:=by have:=wM hc2;omega
  have hem:=Q4 (show i.i<vs.length by omega)
  have hze:=hz _ hem
  refine QQ<|QC<|QG<|QU<|wI<|QA (Q9 (n:=n) i.i (λF h9=>h9.1.2.row) rfl rfl JN Qi O)<|QA (Ja (n:=n) (vs:=[.int .i64 (el l i.i).1.lo.n.s,.slice (el l i.i).1.lo.n.q (el l i.i).1.lo.n.n (el l i.i).1.lo.n.cap,.int .i64 (el l i.i).1.lo.d.s,.slice (el l i.i).1.lo.d.q (el l i.i).1.lo.d.n (el l i.i).1.lo.d.cap,.int .i64 (el l i.i).1.hi.n.s,.slice (el l i.i).1.hi.n.q (el l i.i).1.hi.n.n (el l i.i).1.hi.n.cap,.int .i64 (el l i.i).1.hi.d.s,.slice (el l i.i).1.hi.d.q (el l i.i).1.hi.d.n (el l i.i).1.hi.d.cap]) ((i.i)*8) (λF h9=>h9.1.2.row) O rfl Qi I (λj v hv=>Jm (f:=(λe=>Xs e.1)) (l:=l) (λ_=>rfl) O hv))<|Qb Ji (λb6=>QO (vs:=[_,_,_,_,_,_,_,_]) I I I Qi I .here .h8 wV<|wG<|QG<|wI<|QA (QJ (vs:=[_,_,_,_,_,_,_,_]) I Qi .here .h8 rfl)<|QI I (λw F hF h9=>LK (x:=(el l i.i).1) (a:=el vs i.i) hF h9.1.1 (h9.1.2.at hlt) hze) (λ_=>QE<|QC ?_))
  refine QR I (λhc2=>?_) (λhc2=>?_)
  ·
   have hl:=pg (show i.i<vs.length by omega) hc2
   refine wI<|wF I<|wH I<|QY ?_
   repeat (first | refine JA ?_ | refine Q5 ?_)
   exact JZ (⟨none,0,0⟩) I (wC I I) (by rw[if_pos hl]) (λF _=>by rw[if_pos hl];exact⟨Qy.nil F _ _,rfl,aJ _⟩)
  ·
   have hc14:=hc2
   refine QQ<|QC<|QB<|wE I<|QA (QJ (vs:=[_,_,_,_,_,_,_,_]) I Qi .here .h8 rfl)<|QI I (λw F hF h9=>uc (x:=(el l i.i).1) (a:=el vs i.i) hF h9.1.1.1 (h9.1.1.2.at hlt) hze) (λ_=>Qa I (Qw Xq) XD Xm I I (λb18=>?_))
   refine Yu (bs1:=[_]) (ob:=i.ob) (n:=i.i) (k:=1) (sz:=2) (news:=[tx (Je (el vs i.i).1),tx (Je (el vs i.i).2)]) I I Xq XD Xm I QEt i.hr (Src.row (off:=0) wk (λj q hq=>by rw[aM];rw[ay];exact hq) rfl) O O (Yc wP) (λv19 ob19 hr19=>?_)
   refine wF I<|QE<|Qk<|QC<|QB<|QA (Qu I I O)<|wE I<|QE ?_
   exact Ql (⟨i.i+1,v19,ob19,O,by rw[XN O,aK];simpa using hr19,λa ha=>by
   rw[XN O]at ha
   rcases List.mem_append.1 ha with ha | ha
   ·exact i.no a ha
   ·rw[List.mem_singleton.1 ha];exact hc14⟩) (by show n - (i.i+1)<n - i.i;omega) wR (.cons _ wK) (λF h=>⟨h.1.1.1.1,trivial⟩)
 ·
  have hge:i.i=n:=by have:=wN hc2;omega
  refine Qz ?_
  repeat (first | refine QW ?_ | refine QP wc ?_)
  refine QX<|QC<|QG<|QB ?_
  have hno:Jz vs=false:=pf λa ha=>i.no a (by rw[hge,<-hvl,bF];exact ha)
  obtain⟨⟨rq,rn,rc⟩,hv2,hrn,hrc,hfix⟩:=Qx.fix (w0:=w) (F0:=F) (bs1:=[]) (G:=_) i.hr
  dsimp only at hrn hrc hfix
  subst hrn
  refine YM hfix ?_
  rw[hv2]
  dsimp only[Sr.v]
  refine wE I<|wF I<|wH I<|QY ?_
  exact JZ (⟨rq,i.i,rc⟩) I (wC I I) (by rw[if_neg (by rw[hno];decide)]) (λF ⟨⟨⟨hGl,hB⟩,_⟩,hrow⟩=>by rw[if_neg (by rw[hno];decide)];rw[hge,<-hvl,bF]at hrow;exact⟨by dsimp only;rw[hge,<-hvl];exact hrow,hge.trans hvl.symm,hrc⟩)
theorem Ih{f:Rat×Rat->Rat×Rat}{v:List (Rat×Rat)}:Dw (λa _=>f a) v v=v.map f:=by
 unfold Dw;exact Em I
theorem UO(hF:Fits F w)(ha:J9 F ra la va)(hb:J9 F rb lb vb)(hn:ra.n<=rb.n)(hbn:ra.n<=1000000)(hza:∀x∈va,Xj x 100000000)(hzb:∀x∈vb,Xj x 100000000):
  Qe Tryz.prog 155 [ra.v,rb.v] w F (.bool (AX va vb)):=by
 obtain⟨qa,na,ca⟩:=ra
 have hvla:=ha.YZ
 have hlla:=ha.len
 have hcapa:=ha.cap
 have hela:=λi hi=>ha.el (i:=i) hi
 obtain⟨qb,nb,cb⟩:=rb
 have hvlb:=hb.YZ
 have hllb:=hb.len
 have hcapb:=hb.cap
 have helb:=λi hi=>hb.el (i:=i) hi
 dsimp only[Sr.v]at *
 refine QS.intro (G:=λF=>J9 F ⟨qa,na,ca⟩ la va/\J9 F ⟨qb,nb,cb⟩ lb vb) Tryz.func155 rfl wc rfl rfl hF (λF' hF'=>⟨ha.le hF',hb.le hF'⟩)<|wI<|wH rfl<|QG<|wJ rfl<|QA (Qh rfl JN)<|wE rfl<|wG<|QU<|ZK (ι:=EC (ag va.length) (λi=>Oz (el va i) (el vb i))) [(0,_),(1,_),(7,_)] (λi=>[(8,.int .i64 ((i.i:Nat):Int))]) (λi=>na - i.i) (EC.start _ _) wQ wO (λi=>?_)
 simp only[aa,ae]
 have hi:=i.le
 rw[bc]at hi
 refine wI<|QA (QZ I I I)<|wG<|QG ?_
 refine QR I (λhc2=>?_) (λhc2=>?_)
 ·
  have hlt:i.i<na:=by have:=wM hc2;omega
  have hma:=Q4 (show i.i<va.length by omega)
  have hmb:=Q4 (show i.i<vb.length by omega)
  have hel:el (ag va.length) i.i=i.i:=by rw[JK (by rw[bc];omega)];simp
  refine QQ<|QC<|QG<|QU<|wJ I<|wH I<|QG<|JO wK mixed y0<|QK (QD I)<|QK (QD I)<|QK (Q9 (n:=na) i.i (λF h9=>h9.1.row) rfl rfl JN Qi O)<|QK (Ja (n:=na) (vs:=[.int .i64 (el la i.i).1.lo.n.s,.slice (el la i.i).1.lo.n.q (el la i.i).1.lo.n.n (el la i.i).1.lo.n.cap,.int .i64 (el la i.i).1.lo.d.s,.slice (el la i.i).1.lo.d.q (el la i.i).1.lo.d.n (el la i.i).1.lo.d.cap,.int .i64 (el la i.i).1.hi.n.s,.slice (el la i.i).1.hi.n.q (el la i.i).1.hi.n.n (el la i.i).1.hi.n.cap,.int .i64 (el la i.i).1.hi.d.s,.slice (el la i.i).1.hi.d.q (el la i.i).1.hi.d.n (el la i.i).1.hi.d.cap]) ((i.i)*8) (λF h9=>h9.1.row) O rfl Qi I (λj v hv=>Jm (f:=(λe=>Xs e.1)) (l:=la) (λ_=>rfl) O hv))<|QK (QD I)<|QK (QD I)<|QK (Q9 (n:=nb) i.i (λF h9=>h9.2.row) rfl rfl JN Qi O)<|QK (Ja (n:=nb) (vs:=[.int .i64 (el lb i.i).1.lo.n.s,.slice (el lb i.i).1.lo.n.q (el lb i.i).1.lo.n.n (el lb i.i).1.lo.n.cap,.int .i64 (el lb i.i).1.lo.d.s,.slice (el lb i.i).1.lo.d.q (el lb i.i).1.lo.d.n (el lb i.i).1.lo.d.cap,.int .i64 (el lb i.i).1.hi.n.s,.slice (el lb i.i).1.hi.n.q (el lb i.i).1.hi.n.n (el lb i.i).1.hi.n.cap,.int .i64 (el lb i.i).1.hi.d.s,.slice (el lb i.i).1.hi.d.q (el lb i.i).1.hi.d.n (el lb i.i).1.hi.d.cap]) ((i.i)*8) (λF h9=>h9.2.row) O rfl Qi I (λj v hv=>Jm (f:=(λe=>Xs e.1)) (l:=lb) (λ_=>rfl) O hv))<|QN I (λw F hF h9=>jw (x:=(el la i.i).1) (y:=(el lb i.i).1) (a:=el va i.i) (b:=el vb i.i) hF (h9.1.at hlt) (h9.2.at (show i.i<nb by omega)) (hza _ hma) (hzb _ hmb)) (λ_=>QK (YN I)<|Q6<|QC ?_)
  refine QR I (λhc2=>?_) (λhc2=>?_)
  ·
   have hc20:=hc2
   refine wI<|wH I<|QY ?_
   repeat (first | refine JA ?_ | refine Q5 ?_)
   exact wL I I (congrArg ah (by unfold AX;rw[i.hit (by rw[bc];omega) (by rw[hel];simpa using hc20)])) wh
  ·
   have hc20:=hc2
   refine QQ<|Qk<|QC<|QB<|QA (Qu I I O)<|wE I<|QE ?_
   exact Ql (i.next (by rw[bc];omega) (by rw[hel];simpa using hc20)) (by show na - (i.i+1)<na - i.i;omega) wR wK wj
 ·
  have hge:i.i=na:=by have:=wN hc2;omega
  refine Qz ?_
  repeat (first | refine QW ?_ | refine QP wc ?_)
  refine QX<|QC<|wI<|wH I<|QY ?_
  exact wL I I (congrArg ah (by unfold AX;rw[i.stop (by rw[bc];omega)])) wh
theorem El{f:Nat}{g:Rat×Rat->Rat×Rat->Rat×Rat}(hF:Fits F w)(hg:∀F F',Gs.le F F'->G0 F->G0 F')(h0:G0 F)(ha:J9 F ra la va)(hb:J9 F rb lb vb)(hn:ra.n<=rb.n)(hbn:ra.n<=1000000)
  (hc:∀i,i<ra.n->∀(x y:Sp) w F,Fits F w->G0 F->Jk F x (el va i)->Jk F y (el vb i)->Xp Tryz.prog f (c1++[x.v,y.v]++c2) w F (g (el va i) (el vb i))) :
  Ws Tryz.prog 169 [ra.v,rb.v,.func (.func f) c1.toArray c2.toArray] w F (Dw g va vb):=by
 obtain⟨qa,na,ca⟩:=ra
 have hvla:=ha.YZ
 have hlla:=ha.len
 have hcapa:=ha.cap
 have hela:=λi hi=>ha.el (i:=i) hi
 obtain⟨qb,nb,cb⟩:=rb
 have hvlb:=hb.YZ
 have hllb:=hb.len
 have hcapb:=hb.cap
 have helb:=λi hi=>hb.el (i:=i) hi
 dsimp only[Sr.v]at *
 refine QS.intro (G:=λF=>G0 F/\J9 F ⟨qa,na,ca⟩ la va/\J9 F ⟨qb,nb,cb⟩ lb vb) Tryz.func169 rfl wc rfl rfl hF (λF' hF'=>⟨hg F F' hF' h0,ha.le hF',hb.le hF'⟩)<|wI<|wH rfl<|wI<|wH rfl<|QG<|wJ rfl<|QA (Qh rfl JN)<|wE rfl<|wG<|QU<|JU (ι:=W1 (na) (λi=>g (el va i) (el vb i))) [(0,_),(1,_),(2,_),(10,_)] (λi=>[(7,i.v),(11,.int .i64 ((i.i:Nat):Int))]) (λi=>i.ob) (λi F=>YU F i.l) (λi=>(na) - i.i) (W1.start _ _) wR wP wK (λ_ _=>YU.nil _) (λi=>?_)
 simp only[aa,ae]
 have hi:=i.le
 refine wI<|QA (QZ I I I)<|wG<|QG ?_
 refine QR I (λhc2=>?_) (λhc2=>?_)
 ·
  have hlt:i.i<na:=by have:=wM hc2;omega
  refine QQ<|QC<|QG<|QU<|wJ I<|wH I<|JO wu mixed y0<|QK (QD I)<|QK (QD I)<|QK (QD I)<|QK (QD I)<|QK (Q9 (n:=na) i.i (λF h9=>h9.1.2.1.row) rfl rfl JN Qi O)<|QK (Ja (n:=na) (vs:=[.int .i64 (el la i.i).1.lo.n.s,.slice (el la i.i).1.lo.n.q (el la i.i).1.lo.n.n (el la i.i).1.lo.n.cap,.int .i64 (el la i.i).1.lo.d.s,.slice (el la i.i).1.lo.d.q (el la i.i).1.lo.d.n (el la i.i).1.lo.d.cap,.int .i64 (el la i.i).1.hi.n.s,.slice (el la i.i).1.hi.n.q (el la i.i).1.hi.n.n (el la i.i).1.hi.n.cap,.int .i64 (el la i.i).1.hi.d.s,.slice (el la i.i).1.hi.d.q (el la i.i).1.hi.d.n (el la i.i).1.hi.d.cap]) ((i.i)*8) (λF h9=>h9.1.2.1.row) O rfl Qi I (λj v hv=>Jm (f:=(λe=>Xs e.1)) (l:=la) (λ_=>rfl) O hv))<|QK (QD I)<|QK (QD I)<|QK (Q9 (n:=nb) i.i (λF h9=>h9.1.2.2.row) rfl rfl JN Qi O)<|QK (Ja (n:=nb) (vs:=[.int .i64 (el lb i.i).1.lo.n.s,.slice (el lb i.i).1.lo.n.q (el lb i.i).1.lo.n.n (el lb i.i).1.lo.n.cap,.int .i64 (el lb i.i).1.lo.d.s,.slice (el lb i.i).1.lo.d.q (el lb i.i).1.lo.d.n (el lb i.i).1.lo.d.cap,.int .i64 (el lb i.i).1.hi.n.s,.slice (el lb i.i).1.hi.n.q (el lb i.i).1.hi.n.n (el lb i.i).1.hi.n.cap,.int .i64 (el lb i.i).1.hi.d.s,.slice (el lb i.i).1.hi.d.q (el lb i.i).1.hi.d.n (el lb i.i).1.hi.d.cap]) ((i.i)*8) (λF h9=>h9.1.2.2.row) O rfl Qi I (λj v hv=>Jm (f:=(λe=>Xs e.1)) (l:=lb) (λ_=>rfl) O hv))<|Lr (c1:=c1) (c2:=c2) rfl rfl (λw F hF h9=>hc i.i hlt (el la i.i).1 (el lb i.i).1 w F hF h9.1.1 (h9.1.2.1.at hlt) (h9.1.2.2.at (show i.i<nb by omega))) (λc24=>?_)
  refine Qm I (Qw JN) Qi Ji I I (λb25=>?_) (λw h=>h.imp wu wj)
  rw[<-bI i.ob]
  refine KG (n:=i.i) (k:=1) (sz:=8) (news:=Xs c24) rfl rfl JN Qi Ji I Wq i.hr (Src.row (off:=0) wk (λj q hq=>by rw[aM];rw[ay];exact hq) rfl) O O (Kx _) wK (λ_ h=>h.1.1) (λv26 ob26 hr26=>?_)
  rw[bI]
  refine QK (QF I)<|Q6<|Qk<|QC<|QB<|QA (Qu I I O)<|wE I<|QE ?_
  exact Ql (i.next hlt c24 (g (el va i.i) (el vb i.i)) hr26 rfl) (by show na - (i.i+1)<na - i.i;omega) wT wK (λF h9=>⟨h9.1.1.1,h9.1.1.2.snoc h9.1.2⟩)
 ·
  have hge:i.i=na:=by have:=wN hc2;omega
  refine Qz ?_
  repeat (first | refine QW ?_ | refine QP wc ?_)
  refine QX<|QC<|QG<|QB ?_
  have hxl:=i.len
  obtain⟨⟨rq,rn,rc⟩,hv2,hrn,hrc,hfix⟩:=Qx.fix (w0:=w) (F0:=F) (bs1:=[]) (G:=_) i.hr
  dsimp only at hrn hrc hfix
  subst hrn
  refine YM hfix ?_
  rw[hv2]
  dsimp only[Sr.v]
  refine wE I<|wH I<|QY ?_
  exact QV ((⟨rq,i.i,rc⟩,i.l)) I (wB I) (rfl) (λF h9=>by have:=i.box hge (r:=⟨rq,i.i,rc⟩) h9.2 I hrc h9.1.2;unfold Dw;rw[hvla];exact this)
theorem QBJ{b:Int}(hF:Fits F w)(h:Jk F x a)(hB:F bb=some (#[.int .i64 b],3))(hb:0<=b/\b<=64)(hz:Xj a 10000000):Xp Tryz.prog 300 [x.v,y.v,.pointer (some ⟨bb,0,none⟩)] w F (YH a b):=by
 refine QS.intro (G:=λF=>Jk F x a/\F bb=some (#[.int .i64 b],3)) Tryz.func300 rfl wc rfl rfl hF (λF' hF'=>⟨h.le hF',hF' _ _ hB⟩)<|wI<|Qo rfl (vs:=[_,_,_,_,_,_,_,_]) rfl (λb3=>Qo rfl (vs:=[_,_,_,_,_,_,_,_]) rfl (λb4=>Qb Ji (λb5=>wG<|wI<|QA (QJ (vs:=[_,_,_,_,_,_,_,_]) rfl Qi .u2 .h8 rfl)<|QA (Z2 (c:=#[.int .i64 b]) (T':=3) rfl JR wk rfl)<|QI rfl (λw F hF h9=>Hc (x:=x) (a:=a) (b:=b) hF h9.1 hb hz) (λc8=>QO (vs:=[_,_,_,_,_,_,_,_]) rfl rfl rfl Qi rfl .here .h8 wV<|wG<|QY ?_))))
 exact QV (c8) rfl (.JW (c:=[_,_,_,_,_,_,_,_]) I Qi .here .nil) (rfl) wk
theorem QA7{b:Int}(hF:Fits F w)(h:Jk F x a)(hB:F bb=some (#[.int .i64 b],3))(hb:0<=b/\b<=64)(hz:Xj a 10000000):Xp Tryz.prog 252 [x.v,y.v,.pointer (some ⟨bb,0,none⟩)] w F (YH a b):=by
 refine QS.intro (G:=λF=>Jk F x a/\F bb=some (#[.int .i64 b],3)) Tryz.func252 rfl wc rfl rfl hF (λF' hF'=>⟨h.le hF',hF' _ _ hB⟩)<|wI<|Qo rfl (vs:=[_,_,_,_,_,_,_,_]) rfl (λb3=>Qo rfl (vs:=[_,_,_,_,_,_,_,_]) rfl (λb4=>Qb Ji (λb5=>wG<|wI<|QA (QJ (vs:=[_,_,_,_,_,_,_,_]) rfl Qi .u2 .h8 rfl)<|QA (Z2 (c:=#[.int .i64 b]) (T':=3) rfl JR wk rfl)<|QI rfl (λw F hF h9=>Hc (x:=x) (a:=a) (b:=b) hF h9.1 hb hz) (λc8=>QO (vs:=[_,_,_,_,_,_,_,_]) rfl rfl rfl Qi rfl .here .h8 wV<|wG<|QY ?_))))
 exact QV (c8) rfl (.JW (c:=[_,_,_,_,_,_,_,_]) I Qi .here .nil) (rfl) wk
theorem QA9{c:Rat×Rat}{b:Int}(hF:Fits F w)(h:Jk F x a)(h':Jk F y c)(hB:F bb=some (#[.int .i64 b],3))(hb:0<=b/\b<=64)(hz:Xj a 10000000)(hz2:Xj c 10000000):Xp Tryz.prog 248 [x.v,y.v,.pointer (some ⟨bb,0,none⟩)] w F (YH (XF a c) b):=by
 have hzz:Xj (XF a c) 10000000:=⟨RW hz.1 hz2.1,RX hz.2 hz2.2⟩
 refine QS.intro (G:=λF=>Jk F x a/\Jk F y c/\F bb=some (#[.int .i64 b],3)) Tryz.func248 rfl wc rfl rfl hF (λF' hF'=>⟨h.le hF',h'.le hF',hF' _ _ hB⟩)<|wI<|Qo rfl (vs:=[_,_,_,_,_,_,_,_]) rfl (λb3=>Qo rfl (vs:=[_,_,_,_,_,_,_,_]) rfl (λb4=>Qb Ji (λb5=>wG<|QG<|JO (.cons _ wm) mixed y0<|QK (QJ (vs:=[_,_,_,_,_,_,_,_]) rfl Qi .u1 .h8 rfl)<|QK (QJ (vs:=[_,_,_,_,_,_,_,_]) rfl Qi .here .h8 rfl)<|QN rfl (λw F hF h9=>qV (x:=x) (y:=y) (a:=a) (b:=c) hF h9.1 h9.2.1 (hz.mono wa) (hz2.mono wa)) (λc8=>QK (Z2 (c:=#[.int .i64 b]) (T':=3) rfl JR (λF h9=>h9.2.2) rfl)<|QN rfl (λw F hF h9=>Hc (x:=c8) (a:=XF a c) (b:=b) hF h9.2 hb hzz) (λc10=>JV (vs:=[_,_,_,_,_,_,_,_]) rfl rfl rfl Qi rfl .here wm (λ_ h=>h.1.1) .h8 wV<|Q6<|QC<|QY ?_)))))
 exact QV (c10) rfl (.JW (c:=[_,_,_,_,_,_,_,_]) I Qi .here .nil) (rfl) wk
theorem QA8{gr:Fr}{c:Rat×Rat}{b:Int}{bg:Nat}(hF:Fits F w)(h:Jk F x a)(h':Jk F y c)(hG:F bg=some ((Ku gr).toArray,135))(hGr:JM F gr (((two b:Int):Rat))⁻¹)(hB:F bb=some (#[.int .i64 b],3))(hb:0<=b/\b<=64)(hz:Xj a 2000000)(hz2:Xj c 2000000):Xp Tryz.prog 250 [x.v,y.v,.pointer (some ⟨bg,0,none⟩),.pointer (some ⟨bb,0,none⟩)] w F (TH b a c):=by
 have hzz:Xj (XF a c) 2000000:=⟨RW hz.1 hz2.1,RX hz.2 hz2.2⟩
 have z1:=hzz.1
 have z2:=hzz.2
 have s1:=Bs (XF a c).2 (XF a c).1
 have s2:=Z8 ((XF a c).2 - (XF a c).1) (au 1 4)
 have s3:JL (au 1 4)<=4:=wa
 have s4:JL (((two b:Int):Rat))⁻¹<=200:=by
  have h0:((two b:Int):Rat).num≠0:=Un b
  refine aH (NC h0) ?_
  rw[<-Bp]
  have h1:=VT (((2:Int):Rat)) b.toNat
  have h2:JL (((2:Int):Rat))<=2:=wa
  have h3:b.toNat*JL (((2:Int):Rat))<=64*2:=aO O h2
  omega
 have s5:=KU (((XF a c).2 - (XF a c).1)*au 1 4) (((two b:Int):Rat))⁻¹
 have s6:=Bs (XF a c).1 (((XF a c).2 - (XF a c).1)*au 1 4+(((two b:Int):Rat))⁻¹)
 have s7:=KU (XF a c).2 (((XF a c).2 - (XF a c).1)*au 1 4+(((two b:Int):Rat))⁻¹)
 refine QS.intro (G:=λF=>Jk F x a/\Jk F y c/\F bg=some ((Ku gr).toArray,135)/\JM F gr (((two b:Int):Rat))⁻¹/\F bb=some (#[.int .i64 b],3)) Tryz.func250 rfl wc rfl rfl hF (λF' hF'=>⟨h.le hF',h'.le hF',hF' _ _ hG,hGr.le hF',hF' _ _ hB⟩)<|wI<|Qo rfl (vs:=[_,_,_,_,_,_,_,_]) rfl (λb4=>Qo rfl (vs:=[_,_,_,_,_,_,_,_]) rfl (λb5=>Qb Ji (λb6=>wG<|wI<|QA (QJ (vs:=[_,_,_,_,_,_,_,_]) rfl Qi .u2 .h8 rfl)<|QA (QJ (vs:=[_,_,_,_,_,_,_,_]) rfl Qi .u1 .h8 rfl)<|QI rfl (λw F hF h9=>qV (x:=x) (y:=y) (a:=a) (b:=c) hF h9.1 h9.2.1 (hz.mono wa) (hz2.mono wa)) (λc11=>Qb Ji (λb7=>QO (vs:=[_,_,_,_,_,_,_,_]) rfl rfl rfl Qi rfl .here .h8 wV<|wG<|QG<|K7 (r:=[0,1,2,3,4,5,6,7,8,9,10,11,12]) wm mixed y0 rfl<|Jp 0 y0 rfl rfl<|QK (QH rfl Xt QL)<|JB<|Jp 1 y0 rfl rfl<|QK (QJ (vs:=[_,_,_,_]) rfl QL .here (.skip (.skip (.skip (.skip .h4)))) rfl)<|JB ?_)))))
 refine Jp 2 y0 rfl rfl<|QK (QH I Xu QL)<|JB<|Jp 3 y0 rfl rfl<|QK (QJ (vs:=[_,_,_,_]) I QL .here .h4 rfl)<|JB<|Jp 9 y0 rfl rfl ?_
 refine QK (F7 (c:=(Ku gr).toArray) (T':=135) (vs:=Ku gr) rfl QL (λF h9=>h9.1.2.2.1) rfl (λj v hv=>by rw[aM];rw[ay];exact hv)) ?_
 refine JB<|K6 (A:=[11]) (r:=[4,5,6,7,8,10,12]) y0<|XM 4 y0 y0 wc wm wi rfl rfl rfl (λ_=>rfl) (λw F hF h9=>Aa (x:=c11.hi) (y:=c11.lo) (r:=(XF a c).2) (s:=(XF a c).1) hF h9.2.2 h9.2.1 O O) (λc16=>XM 5 y0 y0 wc wm wj rfl rfl rfl (λ_=>rfl) (λw F hF h9=>IL (n:=1) hF wa wa) (λc17=>XM 6 y0 y0 wc wm (λ_ h=>h.1.1) rfl rfl rfl (λ_=>rfl) (λw F hF h9=>IL (n:=4) hF wa wa) (λc18=>XM 7 y0 y0 wc wm (λ_ h=>h.1.1.1) rfl rfl rfl (λ_=>rfl) (λw F hF h9=>AO (a:=1) (b:=4) hF h9.1.2 h9.2 wa wa wa) (λc19=>XM 8 y0 y0 wc wm (λ_ h=>h.1.1.1.1) rfl rfl rfl (λ_=>rfl) (λw F hF h9=>Wx (x:=c16) (y:=c19) (r:=((XF a c).2 - (XF a c).1)) (s:=au 1 4) hF h9.1.1.1.2 h9.2 O O) (λc20=>XM 10 y0 y0 wc wm (λ_ h=>h.1.1.1.1.1) rfl rfl rfl (λ_=>rfl) (λw F hF h9=>D2 (x:=c20) (y:=gr) (r:=((XF a c).2 - (XF a c).1)*au 1 4) (s:=(((two b:Int):Rat))⁻¹) hF h9.2 h9.1.1.1.1.1.1.2.2.2.1 O O) (λc22=>VQ 11 (d:=8) (T:=135) y0 y0 wc wm (λ_ h=>h.1.1.1.1.1.1) y0 y0 Ju (λb8=>Z7 (vs:=[_,_,_,_]) 12 y0 y0 wc (.cons _ wm) (λ_ h=>h.1.1.1.1.1.1) rfl rfl (λ_=>rfl) (λ_=>rfl) rfl QL I .here wm .h4 wR ?_)))))))
 refine WO ?_ y0
 refine QC<|QG<|JO (.cons_cons _ (.cons_cons _ (.cons _ wm))) mixed y0<|QK (QH I Xu QL)<|QK (QJ (vs:=[_,_,_,_]) I QL .u1 .h4 rfl)<|QK (QJ (vs:=[_,_,_,_]) I QL .here .h4 rfl)<|QN I (λw F hF h9=>Aa (x:=c11.lo) (y:=c22) (r:=(XF a c).1) (s:=(((XF a c).2 - (XF a c).1)*au 1 4+(((two b:Int):Rat))⁻¹)) hF h9.1.1.1.1.1.1.2.1 h9.2 O O) (λc26=>QK (QH I Xt QL)<|QK (QJ (vs:=[_,_,_,_]) I QL .u1 (.skip (.skip (.skip (.skip .h4)))) I)<|QK (QJ (vs:=[_,_,_,_]) I QL .here .h4 rfl)<|QN I (λw F hF h9=>D2 (x:=c11.hi) (y:=c22) (r:=(XF a c).2) (s:=(((XF a c).2 - (XF a c).1)*au 1 4+(((two b:Int):Rat))⁻¹)) hF h9.1.1.1.1.1.1.1.2.2 h9.1.2 O O) (λc30=>QK (Qv I YG Ji (.cons (vs:=[_,_,_,_]) I I I .h4 (.cons (vs:=[_,_,_,_]) I I I (.skip (.skip (.skip (.skip .h4)))) .nil)))<|QK (Z2 (c:=#[.int .i64 b]) (T':=3) rfl JR (λF h9=>h9.1.1.1.1.1.1.1.2.2.2.2) rfl)<|QN I (λw F hF h9=>Hc (x:=⟨c26,c30⟩) (a:=((XF a c).1 - (((XF a c).2 - (XF a c).1)*au 1 4+(((two b:Int):Rat))⁻¹),(XF a c).2+(((XF a c).2 - (XF a c).1)*au 1 4+(((two b:Int):Rat))⁻¹))) (b:=b) hF ⟨h9.1.2,h9.2⟩ hb ⟨by show JL ((XF a c).1 - (((XF a c).2 - (XF a c).1)*au 1 4+(((two b:Int):Rat))⁻¹))<=_;omega,by show JL ((XF a c).2+(((XF a c).2 - (XF a c).1)*au 1 4+(((two b:Int):Rat))⁻¹))<=_;omega⟩) (λc33=>JV (vs:=[_,_,_,_,_,_,_,_]) I I I Qi I .u2 wm (λ_ h=>h.1.1.1) .h8 wV<|Q6<|QC<|QY ?_)))
 exact QV (c33) rfl (.JW (c:=[_,_,_,_,_,_,_,_]) I Qi .u2 .nil) (rfl) wk
theorem jN{b:Int}(hF:Fits F w)(ha:J9 F ra la va)(hb:0<=b/\b<=64)(hbn:ra.n<=1000000)(hz:∀x∈va,Xj x 10000000):Ws Tryz.prog 246 [ra.v,.int .i64 b] w F (va.map λa=>YH a b):=by
 have hvl:=ha.YZ
 dsimp only[Sr.v]
 refine QS.intro (G:=λF=>J9 F ra la va) Tryz.func246 rfl wc rfl rfl hF (λF' hF'=>ha.le hF')<|wI<|Qo rfl (vs:=[_]) rfl (λb3=>wH rfl<|wJ rfl<|wE rfl<|VR (b:=b3) .here<|QA (VM rfl)<|QI rfl (λw F hF ⟨hA,hB⟩=>El (f:=300) (c1:=[]) (c2:=[.pointer (some ⟨b3,0,none⟩)]) (g:=λa _=>YH a b) (G0:=λF=>F b3=some (#[.int .i64 b],3)) hF (λF F' hle h=>hle _ _ h) hB hA hA (aJ _) hbn (λi hi x y w F hF hG hx hy=>QBJ hF hx hG hb (hz _ (Q4 O)))) (λc8=>wH rfl<|QY ?_))
 exact QV (c8) rfl (wB I) (rfl) (λF h9=>by have h:=h9.2;rw[Ih]at h;exact h)
section
variable[Dr][df:Df]{P:Program}{Q:Exit->Act->World->Prop}{N:Nat}{m:Sl}{E E0:Env}{ops:Array Oper}{l:List Oper}{w0:World}{F0:Gs}{bs:List (Nat×Obj)}{G:Gs->Prop}{d:Nat}{ty:TypeId}{pos:String}{aft:Array Edge}{Y:World->Prop}
theorem C4{e:TypeId}{x:Operand}{q:Option Addr}(hx:ev m x=some (.slice q n c))(hT:Hr P T=some e):Qt P N m Y (.call ⟨.builtin .cap,#[x],#[T]⟩) ty (.int .i64 c):=λa w _ _ _ _ ha _=>by
 rw[YA]
 simp[builtin,Builtin.cap_,ha.ev hx,run_underlying (Qw hT),goInt]
theorem cO{t tn e:TypeId}{kn:IntKind}{sz bytes n:Nat}{z:List Value}{g:Bool}{X X2:Operand}(hx:ev m X=some (.slice none 0 0))(hy:ev m X2=some (.int .i64 (n:Int)))(ht:Hr P t=some e)(htn:Na P tn=some kn)(hs:YW P e=some (g,sz))(hz:XC P e=some z)(hzl:z.length=sz)(hby:ZU P e=some bytes)(h0:0<n)(hs0:0<sz)(h63:n<=1000000000)(h47:n*bytes<=140737488355328)
  (kk:∀(b cap:Nat) (rest:List Value),n<=cap->rest.length=cap*sz->cap<=maxLen->JS P ops Q l N ((d,.slice (some ⟨b,0,none⟩) n cap)::m) ⟨w0,F0,(b,.cells rest.toArray e (0,0))::bs,G⟩) (hu:Gg e=true:=by rfl) (hd:J5 N (some d)=true:=by rfl) :
  JS P ops Q (⟨some d,.call ⟨.builtin .append,#[X,X2],#[t,tn]⟩,ty,pos,aft,none⟩::l) N m ⟨w0,F0,bs,G⟩:=λa w ha hw =>
 wpList_plain rfl λK hK=>by
  have hi:∃i,P.info? e=some i/\i.size=sz/\i.bytes=bytes/\∃zv,i.zero=some zv/\zv.cells.toList=z:=by
   unfold YW at hs
   unfold XC at hz
   unfold ZU at hby
   cases h:P.info? e with
   |none=>rw[h]at hz;cases hz
   |some i =>
    rw[h]at hs hz hby
    dsimp only at hz hs
    simp only[eL,bJ]at hby
    refine⟨i,rfl,?_,hby,?_⟩
    ·split at hs
     ·rename_i h1 h2;cases h2;cases hs;rfl
     ·cases hs
    ·cases hzz:i.zero with
     |none=>rw[hzz]at hz;cases hz
     |some zv=>rw[hzz]at hz;simp only[eL,bJ]at hz;exact⟨zv,rfl,hz⟩
  obtain⟨i,hi1,hi2,hi3,zv,hi4,hi5⟩:=hi
  subst hi2 hi3
  have hkn:P.underlying tn=some (.int kn):=by
   unfold Na at htn
   cases h:P.underlying tn with
   |none=>rw[h]at htn;cases htn
   |some u=>rw[h]at htn;cases u<;>simp at htn;rw[htn]
  have hzc:∀q,(aI zv.cells q).toList.length=q*i.size:=λq=>by
   have:=hzl;rw[<-hi5]at this;simp[aI]at this ⊢;rw[this]
  have hrun:=Go.Lib.run_append_nil_zeros (P:=P) w t tn ty e i zv .i64 kn (Qw ht) hkn hi1 hi4 n h0 hs0 O O
  have hge:=grownCap_ge w n 0 e
  have e1:(aI zv.cells n++aI zv.cells (grownCap w n 0 e - n))=((aI zv.cells n).toList++(aI zv.cells (grownCap w n 0 e - n)).toList).toArray:=by apply eK;simp
  rw[e1]at hrun
  refine upon_value (w':=_) (v:=_) ?_ (hK _ _ (kk w.heap.size (grownCap w n 0 e) ((aI zv.cells n).toList++(aI zv.cells (grownCap w n 0 e - n)).toList) hge (by rw[aF,hzc,hzc,<-ef];congr 1;omega) (grownCap_le_maxLen w n 0 e (by simp only[maxLen];omega)) _ _ (ha.put hd _) (hw.drew.alloc _ (ZB hu))))
  rw[YA]
  simp[builtin,ha.ev hx,ha.ev hy,hrun]
end
theorem QB8{n:Nat}(h0:0<n)(hn:n<=100000000):XB Tryz.prog 277 [.slice none 0 0,.int .i64 (n:Int)] ⟨w0,F0,bs,G⟩ (λ(c:{ c:Value×List (Nat×Obj) // Qx 168 8 c.1 0 [] c.2 })=>c.1.1) (λc=>⟨w0,F0,c.1.2++bs,G⟩):=by
 refine XB.intro Tryz.func277 rfl wc rfl rfl<|wI<|wH rfl<|QG<|wJ rfl<|QA (QZ rfl rfl rfl)<|QE<|QC ?_
 refine QR I (λhc2=>?_) (λhc2=>?_)
 ·exact absurd hc2 we
 ·
  refine QQ<|QC<|QG<|wJ I<|wE I<|QA (C4 I JN)<|wE I<|QA (Qh I JN)<|QA (Xw I I O)<|QA (Xw I I O) ?_
  rw[show((n:Int) - (((0:Nat):Int) - ((0:Nat):Int)))=(n:Int) by omega]
  refine wH I<|wJ I<|QA (QZ I I I)<|QE<|QC ?_
  refine QR I (λhc2=>?_) (λhc2=>?_)
  ·
   refine QB<|wE I<|wE I<|QA (C4 I JN)<|QA (N8 0 rfl rfl rfl JN Qi (aJ _))<|wE I<|cO (sz:=8) (bytes:=128) rfl rfl JN k_3 Qi Ji I Wq h0 wa O O (λb22 cap22 rest22 hc22 hr22 hm22=>wE I<|QA (Qh I JN)<|QA (N8 0 rfl rfl rfl JN Qi (aD _))<|wH I<|wJ I<|wH I<|QY ?_)
   exact KQ (⟨(.slice (some ⟨b22,0,none⟩) 0 cap22,[(b22,_)]),.some (l:=[]) (rest:=rest22) rfl (by simpa using hr22) (aD _) hm22⟩) I (wB I) (rfl) wi
  ·exact absurd hc2 wg
abbrev FL:Type:=Sr×List Y9
variable{ls:List FL}
instance :Inhabited FL:=⟨(⟨none,0,0⟩,[])⟩
def Lu(F:Gs)(ls:List FL):Prop:=∀e∈ls,J9 F e.1 e.2 (e.2.map (·.2))
theorem Lu.le(h:Lu F ls)(k:Gs.le F F'):Lu F' ls:=λe he=>(h e he).le k
def PB(ls:List FL):List Y9:=ls.flatMap (·.2)
def BF(ls:List FL):Nat:=(PB ls).length
theorem MS(h:i<ls.length):BF (ls.take (i+1))=BF (ls.take i)+(el ls i).2.length:=by
 unfold BF PB;rw[XN h,aK,aF];simp
theorem Cg(i:Nat):BF (ls.take i)<=BF ls:=by
 unfold BF PB
 rw[<-eF i ls,aK,aF,eF];omega
theorem xE(h:i<ls.length):Xh (PB (ls.take (i+1)))=Xh (PB (ls.take i))++Xh (el ls i).2:=by
 unfold PB;rw[XN h,aK];unfold Xh;rw[aK];simp
theorem yC(l:List Y9):∀v∈Xh l,v.oneCell'=true:=λv hv=>by
 obtain⟨e,_,h⟩:=List.mem_flatMap.1 hv
 exact Kx e.1 v h
theorem J9.q0{r:Sr}{vs:List (Rat×Rat)}(h:J9 F r l vs):r.q=none->r.n=0:=λe=>by
 rcases eM r.n with h0 | h0
 ·exact h0
 ·obtain⟨b,off,h1⟩:=h.row.ptr h0
  rw[e]at h1;cases h1
structure CcI(ls:List FL) where
 i:Nat
 le:i<=ls.length
structure CcJ(ls:List FL) where
 i:Nat
 v:Value
 ob:List (Nat×Obj)
 le:i<=ls.length
 hr:Qx 168 8 v (BF (ls.take i)) (Xh (PB (ls.take i))) ob
theorem vu{q:Option Addr}{cap:Nat}(hF:Fits F w)(hR:Qy F q n 1 (ls.map λe=>e.1.v))(hn:ls.length=n)(hB:Lu F ls)(hnb:n<=1000000)(h0:0<BF ls)(ht:BF ls<=1000000):
  Ws Tryz.prog 218 [.slice q n cap] w F ((PB ls).map (·.2)):=by
 have hlen:∀e∈ls,e.2.length=e.1.n:=λe he=>(hB e he).len
 refine QS.intro (G:=λF=>Qy F q n 1 (ls.map λe=>e.1.v)/\Lu F ls) Tryz.func218 rfl wc rfl rfl hF (λF' hF'=>⟨hR.le hF',hB.le hF'⟩)<|wI<|wH rfl<|wI<|wH rfl<|QG<|wJ rfl<|QA (Qh rfl Re)<|wE rfl<|wG<|QU<|ZK (ι:=CcI ls) [(0,_),(9,_),(10,_)] (λi=>[(3,.int .i64 (((BF (ls.take i.i)):Nat):Int)),(11,.int .i64 ((i.i:Nat):Int))]) (λi=>n - i.i) (⟨0,aD _⟩) wQ wP (λi=>?_)
 simp only[aa,ae]
 have hi:=i.le
 refine wI<|QA (QZ I I I)<|wG<|QG ?_
 refine QR I (λhc2=>?_) (λhc2=>?_)
 ·
  have hlt:i.i<ls.length:=by have:=wM hc2;omega
  have hem:=Q4 hlt
  have htk:=MS hlt
  have htl:=Cg (ls:=ls) (i.i+1)
  refine QQ<|QC<|QG<|QU<|wI<|QA (Q9 (n:=n) i.i wj rfl rfl Re JE O)<|QA (Jd (n:=n) ((i.i)*1) wj O rfl JE (X8 (f:=λe:FL=>e.1.v) (l:=ls) O))<|wH I<|wJ I<|wE I<|QA (Qh I JN) ?_
  rw[<-hlen _ hem]
  refine QA (Qu I I O) ?_
  rw[show(((BF (ls.take i.i):Nat):Int)+(((el ls i.i).2.length:Nat):Int))=((BF (ls.take (i.i+1)):Nat):Int) by rw[htk];omega]
  refine wH I<|wJ I<|QA (QZ I I I)<|QE<|QC ?_
  refine QR I (λhc2=>?_) (λhc2=>?_)
  ·exact absurd hc2 we
  ·
   refine QQ<|Qk<|QC<|QB<|QA (Qu I I O)<|wE I<|QE ?_
   exact Ql (⟨i.i+1,hlt⟩) (by show n - (i.i+1)<n - i.i;omega) wS wK wi
 ·
  have hge:i.i=ls.length:=by have:=wN hc2;omega
  refine Qz ?_
  repeat (first | refine QW ?_ | refine QP wc ?_)
  refine QX<|QC<|wI<|wE I ?_
  rw[show BF (ls.take i.i)=BF ls by rw[hge,bF]]
  refine XX I (eJ _) (QB8 h0 O) (λc24=>?_)
  rw[bI]
  refine wH I<|QG<|wJ I<|QA (Qh I Re)<|wE I<|wG<|QU<|JU (ι:=CcJ ls) [(25,_),(26,_)] (λi2=>[(6,i2.v),(27,.int .i64 ((i2.i:Nat):Int))]) (λi2=>i2.ob) (λi2 F=>True) (λi2=>n - i2.i) (⟨0,c24.1.1,c24.1.2,aD _,c24.2⟩) wP wP wK wh (λi2=>?_)
  simp only[aa,ae]
  have hi2:=i2.le
  refine wI<|QA (QZ I I I)<|wG<|QG ?_
  refine QR I (λhc2=>?_) (λhc2=>?_)
  ·
   have hlt2:i2.i<ls.length:=by have:=wM hc2;omega
   have hem2:=Q4 hlt2
   have htk2:=MS hlt2
   have htl2:=Cg (ls:=ls) (i2.i+1)
   refine QQ<|QC<|QG<|QU<|wI<|QA (Q9 (n:=n) (i2.i) (λF h9=>h9.1.1) rfl rfl Re JE O)<|QA (Jd (n:=n) ((i2.i)*1) (λF h9=>h9.1.1) O rfl JE (X8 (f:=λe:FL=>e.1.v) (l:=ls) O))<|wH I<|QB<|wE I<|wE I<|Yu (bs1:=[]) (ob:=i2.ob) (n:=BF (ls.take i2.i)) (k:=(el ls i2.i).2.length) (sz:=8) (news:=Xh (el ls i2.i).2) rfl rfl JN Qi Ji I Wq i2.hr (by rw[hlen _ hem2];exact Src.QGC (hB _ hem2).q0 (λF h9=>(h9.1.2 _ hem2).row) (by rw[Ga,hlen _ hem2])) O O (yC _) (λv33 ob33 hr33=>wF I<|QE<|Qk<|QC<|QB<|QA (Qu I I O)<|wE I<|QE ?_)
   exact Ql (⟨i2.i+1,v33,ob33,hlt2,by rw[MS hlt2,xE hlt2];exact hr33⟩) (by show n - (i2.i+1)<n - i2.i;omega) wR wK (λF h=>⟨h.1,trivial⟩)
  ·
   have hge2:i2.i=ls.length:=by have:=wN hc2;omega
   refine Qz ?_
   repeat (first | refine QW ?_ | refine QP wc ?_)
   refine QX<|QC<|QG<|QB ?_
   obtain⟨⟨rq,rn,rc⟩,hv2,hrn,hrc,hfix⟩:=Qx.fix (w0:=w) (F0:=F) (bs1:=[]) (G:=_) i2.hr
   dsimp only at hrn hrc hfix
   refine YM hfix ?_
   rw[hv2]
   dsimp only[Sr.v]
   refine wE I<|wH I<|QY ?_
   exact QV ((⟨rq,rn,rc⟩,PB ls)) I (wB I) (rfl) (λF ⟨⟨⟨hR,hB⟩,_⟩,hrow⟩=>by rw[hge2,bF]at hrow hrn hrc;exact⟨by dsimp only;rw[hrn];exact hrow,λe he=>by obtain⟨x,hx,h⟩:=List.mem_flatMap.1 he;exact(hB x hx).sp e h,rfl,hrn.symm,by dsimp only;rw[hrn];exact hrc⟩)
theorem Nd:∀(l:List Rat) (r:Rat),l.foldl AR r<=r
 |[],r=>ai
 |x::l,r=>by
  refine ak (Nd l (AR r x)) ?_
  unfold AR
  split
  ·rename_i h;exact bG ((GA x r).1 h)
  ·exact ai
theorem Nf:∀(l:List Rat) (r:Rat),r<=l.foldl Pd r
 |[],r=>ai
 |x::l,r=>by
  refine ak ?_ (Nf l (Pd r x))
  unfold Pd
  split
  ·rename_i h;exact bG ((GB x r).1 h)
  ·exact ai
theorem jD(a b:Rat×Rat):(Jc a b).1<=(Jc a b).2:=by
 unfold Jc;rw[ZV];exact ak (Nd _ _) (Nf _ _)
theorem OB(h:a.1<=a.2):Jc a (1,1)=a:=by
 unfold Jc;rw[ZV]
 simp only[bw,eX,List.foldl_nil]
 have l1:AR a.1 a.1=a.1:=by unfold AR;split<;>rfl
 have l2:AR a.1 a.2=a.1:=by unfold AR;rw[if_neg (by rw[GA];exact Rat.not_lt.2 h)]
 have g1:Pd a.1 a.1=a.1:=by unfold Pd;split<;>rfl
 have g3:Pd a.2 a.2=a.2:=by unfold Pd;split<;>rfl
 have g2:Pd a.1 a.2=a.2:=by
  unfold Pd
  by_cases e:a.1<a.2
  ·rw[if_pos ((GB a.2 a.1).2 e)]
  ·rw[if_neg (by rw[GB];exact e)];exact Rat.le_antisymm h (Rat.not_lt.1 e)
 rw[l1,l2,l2,g1,g2,g3]
theorem jY(a:Rat×Rat):Kz a 0=(1,1):=by
 unfold Kz;rw[ZV]
 simp[AR,Pd,aR]
theorem Cd{c:Rat×Rat}(hc:c.1<=c.2)(bs:List (Rat×Rat))(ks:List Int):∀i,(Vo c bs ks i).1<=(Vo c bs ks i).2
 |0=>hc
 |i+1=>by
  rw[WS]
  split
  ·exact jD _ _
  ·exact Cd hc bs ks i
theorem zU{c:Rat×Rat}(hc:c.1<=c.2){bs:List (Rat×Rat)}{ks:List Int}{i:Nat}(hk:0<=Qf ks i):Jc (Vo c bs ks i) (Kz (el bs i) (Qf ks i))=Vo c bs ks (i+1):=by
 rw[WS]
 by_cases h:Qf ks i>0
 ·rw[if_pos h]
 ·rw[if_neg h,show Qf ks i=0 by omega,jY,OB (Cd hc bs ks i)]
structure CY(bs:List (Rat×Rat))(l:List Tm):Prop where
 base:∀x∈bs,Xj x 1000000
 FK:∀t∈l,JL t.1<=1000000
 pw:∀t∈l,t.2.length<=bs.length/\t.2.length<=1000/\∀k∈t.2,0<=k/\k<=12
 val:∀t∈l,∀i,i<=t.2.length->Xj (Vo (t.1,t.1) bs t.2 i) 20000000
 pow:∀t∈l,∀i,i<t.2.length->Xj (Kz (el bs i) (Qf t.2 i)) 20000000
 sum:∀k,Xj (J8 bs (l.take k)) 100000000
structure VaI(n:Nat) where
 i:Nat
 x:Sp
 le:i<=n
theorem SS{bs:List (Rat×Rat)}{l:List Tm}(h:i<l.length):J8 bs (l.take (i+1))=Y3 (J8 bs (l.take i)) (Vo ((el l i).1,(el l i).1) bs (el l i).2 (el l i).2.length):=by
 rw[XN h];unfold J8;rw[aw];rfl
theorem EJ{pa:Vn}{t:Rat×Rat}(hF:Fits F w)(hP:XU F pa.1 pa.2 (J1 pa.2))(hT:Jk F x t)(hB:J9 F rb lb vb)(hbn:rb.n<=100000)(hpn:pa.1.n<=1000000)(ho:CY (t::vb) (J1 pa.2)):
  Xp Tryz.prog 129 [pa.1.v,x.v,rb.v] w F (J8 (t::vb) (J1 pa.2)):=by
 obtain⟨⟨q,n,c⟩,ts⟩:=pa
 have hln:ts.length=n:=hP.2.2.2.2
 have hvl:=hB.YZ
 dsimp only[Sr.v]at *
 have hlm:(J1 ts).length=n:=by rw[Yx];exact hln
 refine QS.intro (G:=λF=>(Qy F q n 5 (ts.flatMap V1)/\GU F ts)/\Jk F x t/\J9 F rb lb vb) Tryz.func129 rfl wc rfl rfl hF (λF' hF'=>⟨⟨hP.1.le hF',hP.2.1.le hF'⟩,hT.le hF',hB.le hF'⟩)<|wI<|Qo rfl (vs:=[_,_,_,_,_,_,_,_]) rfl (λb4=>Qb Ji (λb6=>wG<|wI<|QA (QJ (vs:=[_,_,_,_,_,_,_,_]) rfl Qi .u1 .h8 rfl)<|Qa rfl (Qw JN) Qi Ji rfl rfl (λb15=>wE rfl<|Qa rfl (Qw Re) JE QDd rfl rfl (λb17=>?_))))
 have hcat:(PB [((⟨some ⟨b15,0,none⟩,1,1⟩:Sr),[(x,t)]),(rb,lb)]).map (·.2)=t::vb:=by unfold PB;simp[hB.val]
 have htot:BF [((⟨some ⟨b15,0,none⟩,1,1⟩:Sr),[(x,t)]),(rb,lb)]=1+rb.n:=by unfold BF PB;simp[hB.len];omega
 refine QI I (λw F hF ⟨⟨⟨⟨hR,hN⟩,hT,hB⟩,hs15⟩,hs17⟩=>vu (ls:=[((⟨some ⟨b15,0,none⟩,1,1⟩:Sr),[(x,t)]),(rb,lb)]) hF (Qy.of (n:=2) (sz:=1) hs17 rfl) rfl (λe he=>by
  simp only[bt,bj,or_false]at he
  rcases he with rfl | rfl
  ·exact⟨Qy.of (n:=1) (sz:=8) hs15 rfl,λe he=>by rw[List.mem_singleton.1 he];exact hT,rfl,rfl,aJ _⟩
  ·exact⟨hB.row,hB.sp,rfl,hB.len,hB.cap⟩) wa O O) (λc18=>?_)
 rw[hcat]
 refine JQ _ (λw F hF h=>eZ h.2.len (eZ h.2.YZ h.2.cap)) (λh18p=>?_)
 obtain⟨l18,v18,_⟩:=h18p
 rw[aX]at v18
 refine wH I<|wI<|QI I (λw F hF h9=>TO (n:=0) hF wa wa) (λc19=>QI I (λw F hF h9=>K1 (x:=c19) (r:=((0:Int):Rat)) hF h9.2) (λc20=>Qb Ji (λb8=>QO (vs:=[_,_,_,_,_,_,_,_]) I I I Qi I .here .h8 wV<|wG<|QG<|wJ I<|QA (Qh I KB)<|wE I<|wG<|QU<|JU (ι:=VaI ts.length) [(6,_),(7,_),(8,_),(21,_),(22,_)] (λi=>[(23,.int .i64 ((i.i:Nat):Int))]) (λi=>[(b8,.cells (Xs i.x).toArray 168 (0,0)),(b6,.cells [.int .i64 0,.slice none 0 0,.int .i64 0,.slice none 0 0,.int .i64 0,.slice none 0 0,.int .i64 0,.slice none 0 0].toArray 168 (0,0)),(b4,.cells (Xs x).toArray 168 (0,0))]) (λi F=>Jk F i.x (J8 (t::vb) ((J1 ts).take i.i))) (λi=>ts.length - i.i) (⟨0,c20,aD _⟩) wS wO wK wk (λi=>?_))))
 simp only[aa,ae]
 have hi:=i.le
 refine wI<|QA (QZ I I I)<|wG<|QG ?_
 refine QR I (λhc2=>?_) (λhc2=>?_)
 ·
  have hlt:i.i<ts.length:=by have:=wM hc2;omega
  have htm:=Q4 hlt
  have htA:(el ts i.i).t∈J1 ts:=bR htm
  have hpw:=ho.pw _ htA
  refine XQ _ (λw F hF h=>(h.1.1.1.1.1.1.1.2 _ htm).2.2.1) (λhrl=>QQ<|QC<|QG<|QU<|wI<|QA (Q9 (n:=n) i.i (λF h9=>h9.1.1.1.1.1.1.1.1) rfl rfl KB Xy O)<|QA (Ja (n:=n) (vs:=[.int .i64 (el ts i.i).x.n.s,.slice (el ts i.i).x.n.q (el ts i.i).x.n.n (el ts i.i).x.n.cap,.int .i64 (el ts i.i).x.d.s,.slice (el ts i.i).x.d.q (el ts i.i).x.d.n (el ts i.i).x.d.cap,.slice (el ts i.i).r.q (el ts i.i).r.n (el ts i.i).r.cap]) ((i.i)*5) (λF h9=>h9.1.1.1.1.1.1.1.1) O rfl Xy I (λj v hv=>Jm (f:=V1) (l:=ts) B1 O hv))<|Qb GY (λb10=>QO (vs:=[_,_,_,_,_]) I I I Xy I .here .h5 wS<|wG<|wI<|QA (QH I W9 QL)<|QA (QJ (vs:=[_,_,_,_]) I QL .here .h4 rfl)<|QI I (λw F hF h9=>K1 (x:=(el ts i.i).x) (r:=(el ts i.i).t.1) hF (h9.1.1.1.1.1.1.1.2 _ htm).1) (λc29=>Qb Ji (λb11=>QO (vs:=[_,_,_,_,_,_,_,_]) I I I Qi I .here .h8 wV<|wG<|QG<|QG<|QB ?_))))
  refine QA (QH I V8 Jf)<|QA (Qg I Jf .u1 (.skip (.skip (.skip (.skip .h1)))))<|QA (Qh I Q2)<|wE I<|wG<|QU<|JU (ι:=VaI (el ts i.i).t.2.length) [(6,_),(7,_),(8,_),(11,_),(21,_),(22,_),(23,_),(31,_),(32,_)] (λi2=>[(33,.int .i64 ((i2.i:Nat):Int))]) (λi2=>[(b11,.cells (Xs i2.x).toArray 168 (0,0)),(b10,.cells (V1 (el ts i.i)).toArray 263 (0,0)),(b8,.cells (Xs i.x).toArray 168 (0,0)),(b6,.cells [.int .i64 0,.slice none 0 0,.int .i64 0,.slice none 0 0,.int .i64 0,.slice none 0 0,.int .i64 0,.slice none 0 0].toArray 168 (0,0)),(b4,.cells (Xs x).toArray 168 (0,0))]) (λi2 F=>Jk F i2.x (Vo ((el ts i.i).t.1,(el ts i.i).t.1) (t::vb) (el ts i.i).t.2 i2.i)) (λi2=>(el ts i.i).t.2.length - i2.i) (⟨0,c29,aD _⟩) wW wO wK wk (λi2=>?_)
  simp only[aa,ae]
  have hj:=i2.le
  refine wI<|QA (QZ I I I)<|wG<|QG ?_
  refine QR I (λhc2=>?_) (λhc2=>?_)
  ·
   have hlt2:i2.i<(el ts i.i).t.2.length:=by have:=wM hc2;omega
   have hk12:0<=Qf (el ts i.i).t.2 i2.i/\Qf (el ts i.i).t.2 i2.i<=12:=by rw[KD hlt2];exact hpw.2.2 _ (Q4 hlt2)
   have hbl:(t::vb).length=vb.length+1:=aX
   have hbz:=ho.base _ (Q4 (show i2.i<(t::vb).length by omega))
   refine QQ<|QC<|QG<|QU<|wJ I<|QA (Q9 (n:=(el ts i.i).r.n) (i2.i) (λF h9=>((h9.1.1.1.1.1.1.1.1.1.2 _ htm).2).1) rfl rfl Q2 JR O)<|QA (Jd (n:=(el ts i.i).r.n) ((i2.i)*1) (λF h9=>((h9.1.1.1.1.1.1.1.1.1.2 _ htm).2).1) O rfl JR (XR (o:=(el ts i.i).t.2) O))<|wF I<|wH I<|Jt 8 wK mixed y0 y0 ?_
   simp only[bA,bL,bB,bM]
   refine QK (QJ (vs:=[_,_,_,_,_,_,_,_]) I Qi .here .h8 rfl)<|QK (QD I)<|QK (QD I)<|QK (Q9 (n:=c18.1.n) (i2.i) (λF h9=>h9.1.1.1.1.1.2.row) rfl rfl JN Qi O)<|QK (Ja (n:=c18.1.n) (vs:=[.int .i64 (el c18.2 (i2.i)).1.lo.n.s,.slice (el c18.2 (i2.i)).1.lo.n.q (el c18.2 (i2.i)).1.lo.n.n (el c18.2 (i2.i)).1.lo.n.cap,.int .i64 (el c18.2 (i2.i)).1.lo.d.s,.slice (el c18.2 (i2.i)).1.lo.d.q (el c18.2 (i2.i)).1.lo.d.n (el c18.2 (i2.i)).1.lo.d.cap,.int .i64 (el c18.2 (i2.i)).1.hi.n.s,.slice (el c18.2 (i2.i)).1.hi.n.q (el c18.2 (i2.i)).1.hi.n.n (el c18.2 (i2.i)).1.hi.n.cap,.int .i64 (el c18.2 (i2.i)).1.hi.d.s,.slice (el c18.2 (i2.i)).1.hi.d.q (el c18.2 (i2.i)).1.hi.d.n (el c18.2 (i2.i)).1.hi.d.cap]) ((i2.i)*8) (λF h9=>h9.1.1.1.1.1.2.row) O rfl Qi I (λj v hv=>Jm (f:=(λe=>Xs e.1)) (l:=c18.2) (λ_=>rfl) O hv))<|QK (QD I)<|QN I (λw F hF h9=>vO (x:=(el c18.2 i2.i).1) (a:=el (t::vb) i2.i) (n:=Qf (el ts i.i).t.2 i2.i) hF (h9.1.1.1.1.1.2.at (show i2.i<c18.1.n by omega)) hk12 hbz) (λc44=>QN I (λw F hF h9=>Aj (x:=i2.x) (y:=c44) (a:=Vo ((el ts i.i).t.1,(el ts i.i).t.1) (t::vb) (el ts i.i).t.2 i2.i) (b:=Kz (el (t::vb) i2.i) (Qf (el ts i.i).t.2 i2.i)) hF h9.1.2 h9.2 (ho.val _ htA _ O) (ho.pow _ htA _ hlt2)) (λc45=>Ze<|QO (vs:=[_,_,_,_,_,_,_,_]) I I I Qi I .here .h8 wV<|QE<|Qk<|QC<|QB<|QA (Qu I I O)<|wE I<|QE ?_))
   exact Ql (⟨i2.i+1,c45,hlt2⟩) (by show(el ts i.i).t.2.length - (i2.i+1)<(el ts i.i).t.2.length - i2.i;omega) wX wK (λF ⟨⟨⟨⟨⟨⟨⟨⟨⟨⟨⟨⟨hR,hN⟩,hT,hB⟩,hs15⟩,hs17⟩,h18⟩,SH⟩,h20⟩,hS⟩,h29⟩,hY⟩,h44⟩,h45⟩=>⟨⟨⟨⟨⟨⟨⟨⟨⟨⟨hR,hN⟩,hT,hB⟩,hs15⟩,hs17⟩,h18⟩,SH⟩,h20⟩,hS⟩,h29⟩,by show Jk F c45 (Vo _ _ _ (i2.i+1));rw[<-zU ai hk12.1];exact h45⟩)
  ·
   have hge2:i2.i=(el ts i.i).t.2.length:=by have:=wN hc2;omega
   refine Qz ?_
   repeat (first | refine QW ?_ | refine QP wc ?_)
   refine QX<|QC<|QB<|QA (QJ (vs:=[_,_,_,_,_,_,_,_]) I Qi .u2 .h8 rfl)<|QA (QJ (vs:=[_,_,_,_,_,_,_,_]) I Qi .here .h8 rfl)<|QI I (λw F hF h9=>Mw (x:=i.x) (y:=i2.x) (a:=J8 (t::vb) ((J1 ts).take i.i)) (b:=Vo ((el ts i.i).t.1,(el ts i.i).t.1) (t::vb) (el ts i.i).t.2 i2.i) hF h9.1.1.2 h9.2 (ho.sum _) ((ho.val _ htA _ O).mono wa)) (λc49=>QO (vs:=[_,_,_,_,_,_,_,_]) I I I Qi I .u2 .h8 wV<|QE<|Qk<|QC<|QB<|QA (Qu I I O)<|wE I<|QE ?_)
   exact Ql (⟨i.i+1,c49,hlt⟩) (by show ts.length - (i.i+1)<ts.length - i.i;omega) wT (.cons _ (.cons _ wK)) (λF ⟨⟨⟨⟨⟨⟨⟨⟨⟨⟨⟨hR,hN⟩,hT,hB⟩,hs15⟩,hs17⟩,h18⟩,SH⟩,h20⟩,hS⟩,h29⟩,hY⟩,h49⟩=>⟨⟨⟨⟨⟨⟨⟨⟨hR,hN⟩,hT,hB⟩,hs15⟩,hs17⟩,h18⟩,SH⟩,h20⟩,by show Jk F c49 (J8 _ ((J1 ts).take (i.i+1)));rw[SS O,<-zZ hlt,<-hge2];exact h49⟩)
 ·
  have hge:i.i=ts.length:=by have:=wN hc2;omega
  refine Qz ?_
  repeat (first | refine QW ?_ | refine QP wc ?_)
  refine QX<|QC<|wI<|QA (QJ (vs:=[_,_,_,_,_,_,_,_]) I Qi .here .h8 rfl)<|QO (vs:=[_,_,_,_,_,_,_,_]) I I I Qi I .u1 .h8 wV<|wG<|QY ?_
  exact QV (i.x) rfl (.JW (c:=[_,_,_,_,_,_,_,_]) I Qi .u1 .nil) (rfl) (λF h=>by have h1:=h.2;rw[List.take_of_length_le (by rw[Yx];omega)]at h1;exact h1)
structure xw where
 b:Nat
 rt:Sr
 ps:List Vn
 st:Sr
 sl:List Y9
structure Gt(F:Gs)(y:xw)(rs:List (List Tm))(vs:List (Rat×Rat)):Prop where
 BA:F y.b=some (#[y.rt.v,y.st.v],188)
 row:Qy F y.rt.q y.rt.n 1 (y.ps.map λe=>e.1.v)
 pls:PL F y.ps
 val:Cb y.ps=rs
 len:y.ps.length=y.rt.n
 box:J9 F y.st y.sl vs
theorem Gt.le{y:xw}{rs:List (List Tm)}{vs:List (Rat×Rat)}(h:Gt F y rs vs)(k:Gs.le F F'):Gt F' y rs vs:=⟨k _ _ h.BA,h.row.le k,λe he=>(h.pls e he).le k,h.val,h.len,h.box.le k⟩
theorem Gt.Va{y:xw}{rs:List (List Tm)}{vs:List (Rat×Rat)}(h:Gt F y rs vs):rs.length=y.rt.n:=by rw[<-h.val,<-h.len];simp[Cb]
theorem Gt.at{y:xw}{rs:List (List Tm)}{vs:List (Rat×Rat)}(h:Gt F y rs vs){i:Nat}(hi:i<y.rt.n):XU F (el y.ps i).1 (el y.ps i).2 (J1 (el y.ps i).2)/\J1 (el y.ps i).2=el rs i:=by
 have h1:=h.len
 refine⟨h.pls _ (Q4 O),?_⟩
 rw[<-h.val,JK (show i<y.ps.length by omega),JK (by simp[Cb];omega)];simp[Cb]
structure xx where
 fr:Fr
 Tc:Fr
 bx:Sr
 bl:List Y9
def dp(x:xx):List Value:=Ku x.fr++Ku x.Tc++[x.bx.v]
@[reducible] def xx.v (x:xx):Value:=.agg #[.int .i64 x.fr.n.s,.slice x.fr.n.q x.fr.n.n x.fr.n.cap,.int .i64 x.fr.d.s,.slice x.fr.d.q x.fr.d.n x.fr.d.cap,.int .i64 x.Tc.n.s,.slice x.Tc.n.q x.Tc.n.n x.Tc.n.cap,.int .i64 x.Tc.d.s,.slice x.Tc.d.q x.Tc.d.n x.Tc.d.cap,x.bx.v]
structure M5(F:Gs)(x:xx)(a b:Rat)(vs:List (Rat×Rat)):Prop where
 fr:JM F x.fr a
 Tc:JM F x.Tc b
 bx:J9 F x.bx x.bl vs
theorem M5.le{x:xx}{a b:Rat}{vs:List (Rat×Rat)}(h:M5 F x a b vs)(k:Gs.le F F'):M5 F' x a b vs:=⟨h.fr.le k,h.Tc.le k,h.bx.le k⟩
structure gY(rs:List (List Tm))(fr t2:Rat)(x on:List (Rat×Rat)):Prop where
 ev:∀i,i<rs.length->CY ((fr,t2)::on) (el rs i)
 sz:∀i,i<rs.length->Xj (J8 ((fr,t2)::on) (el rs i)) 10000000
 tm:JL fr<=1000000/\JL t2<=1000000
 bx:∀a∈x,Xj a 10000000
theorem Mb{y:xw}{x:xx}{rs:List (List Tm)}{vs vx von:List (Rat×Rat)}{fr t2:Rat}{ro:Sr}{lo:List Y9}(hF:Fits F w)(hy:Gt F y rs vs)(hx:M5 F x fr t2 vx)(ho:J9 F ro lo von)(hn:y.rt.n=x.bx.n)(hno:ro.n<=100000)(hnx:x.bx.n<=1000000)(hpn:∀e∈y.ps,e.1.n<=1000000)(hk:gY rs fr t2 vx von):
  Ws Tryz.prog 156 [.pointer (some ⟨y.b,0,none⟩),x.v,ro.v] w F (Zp rs fr t2 vx von):=by
 have hrl:=hy.Va
 have hxl2:=hx.bx.YZ
 have hpl:=hy.len
 have hbl2:=hx.bx.len
 have zfr:=hk.tm.1
 have zto:=hk.tm.2
 have zs:=Bs t2 fr
 dsimp only[Sr.v]at *
 refine QS.intro (G:=λF=>Gt F y rs vs/\M5 F x fr t2 vx/\J9 F ro lo von) Tryz.func156 rfl wc rfl rfl hF (λF' hF'=>⟨hy.le hF',hx.le hF',ho.le hF'⟩)<|wI<|Qo rfl (vs:=[_,_,_,_,_,_,_,_,_]) rfl (λb4=>wH rfl<|QG<|K7 (r:=[0,1,2,3,4,5,6,7,8]) wv mixed y0 rfl<|Jp 1 y0 rfl rfl<|QK (QH rfl B7 QL)<|JB<|Jp 2 y0 rfl rfl<|QK (QJ (vs:=[_,_,_,_]) rfl QL .here (.skip (.skip (.skip (.skip .h4)))) rfl)<|JB<|Jp 3 y0 rfl rfl<|QK (QH rfl B8 QL)<|JB<|Jp 4 y0 rfl rfl<|QK (QJ (vs:=[_,_,_,_]) rfl QL .here .h4 rfl)<|JB<|K6 (A:=[7]) (r:=[0,5,6,8]) y0<|XM 0 y0 y0 wc wv wi rfl rfl rfl (λ_=>rfl) (λw F hF h9=>TO (n:=0) hF wa wa) (λc11=>XM 5 y0 y0 wc wv wj rfl rfl rfl (λ_=>rfl) (λw F hF h9=>Aa (x:=x.Tc) (y:=x.fr) (r:=t2) (s:=fr) hF h9.1.2.1.Tc h9.1.2.1.fr O O) (λc16=>xX 6 y0 y0 wc wv (λ_ h=>h.1.1) rfl wc (λ_=>Qv rfl YG Ji (.cons (vs:=[_,_,_,_]) rfl rfl rfl .h4 (.cons (vs:=[_,_,_,_]) rfl rfl rfl (.skip (.skip (.skip (.skip .h4)))) .nil))) ?_)))
 refine VQ 7 (d:=7) (T:=168) y0 y0 wc wv (λ_ h=>h.1.1) y0 y0 Ji (λb7=>Z7 (vs:=[_,_,_,_,_,_,_,_]) 8 y0 y0 wc (.cons _ wv) (λ_ h=>h.1.1) rfl rfl (λ_=>rfl) (λ_=>rfl) rfl Qi I .here wv .h8 wV ?_)
 refine WO ?_ y0
 refine QC<|wI<|wH I<|QG<|wJ I<|QA (Zj I)<|QA (QH I B5 Yb)<|QA (Z2 (c:=#[y.rt.v,y.st.v]) (T':=188) rfl Yb (λF h9=>h9.1.1.1.BA) rfl)<|QA (Qh I Yk)<|wE I<|wG<|QU<|JU (ι:=W1 (y.rt.n) (λi=>Y3 (el vx i) (Jc (0,t2 - fr) (J8 ((fr,t2)::von) (el rs i))))) [(2,_),(4,_),(7,_),(21,_),(22,_)] (λi=>[(8,i.v),(23,.int .i64 ((i.i:Nat):Int))]) (λi=>(b7,.cells (Xs ⟨c11,c16⟩).toArray 168 (0,0))::(b4,.cells (dp x).toArray 183 (0,0))::i.ob) (λi F=>YU F i.l) (λi=>(y.rt.n) - i.i) (W1.start _ _) wS wP wK (λ_ _=>YU.nil _) (λi=>?_)
 simp only[aa,ae]
 have hi:=i.le
 refine wI<|QA (QZ I I I)<|wG<|QG ?_
 refine QR I (λhc=>?_) (λhc=>?_)
 ·
  have hlt:i.i<y.rt.n:=by have:=wM hc;omega
  have hltx:i.i<x.bx.n:=O
  have hem:=Q4 (show i.i<y.ps.length by omega)
  refine XQ _ (λw F hF h=>(h.1.1.1.1.at hlt).2) (λheq=>QQ<|QC<|QG<|QU<|wJ I<|QA (Q9 (n:=y.rt.n) i.i (λF h9=>h9.1.1.1.1.row) rfl rfl Yk Ya O)<|QA (Jd (n:=y.rt.n) ((i.i)*1) (λF h9=>h9.1.1.1.1.row) O rfl Ya (X8 (f:=λe:Vn=>e.1.v) (l:=y.ps) O))<|wF I<|wH I<|JO wy mixed y0<|QK (QD I)<|QK (QH I B6 JE)<|QK (Qg I JE .u1 (.skip (.skip (.skip (.skip (.skip (.skip (.skip (.skip .h1)))))))))<|QK (QD I)<|QK (Q9 (n:=x.bx.n) i.i (λF h9=>h9.1.1.1.2.1.bx.row) rfl rfl JN Qi O)<|QK (Ja (n:=x.bx.n) (vs:=[.int .i64 (el x.bl i.i).1.lo.n.s,.slice (el x.bl i.i).1.lo.n.q (el x.bl i.i).1.lo.n.n (el x.bl i.i).1.lo.n.cap,.int .i64 (el x.bl i.i).1.lo.d.s,.slice (el x.bl i.i).1.lo.d.q (el x.bl i.i).1.lo.d.n (el x.bl i.i).1.lo.d.cap,.int .i64 (el x.bl i.i).1.hi.n.s,.slice (el x.bl i.i).1.hi.n.q (el x.bl i.i).1.hi.n.n (el x.bl i.i).1.hi.n.cap,.int .i64 (el x.bl i.i).1.hi.d.s,.slice (el x.bl i.i).1.hi.d.q (el x.bl i.i).1.hi.d.n (el x.bl i.i).1.hi.d.cap]) ((i.i)*8) (λF h9=>h9.1.1.1.2.1.bx.row) O rfl Qi I (λj v hv=>Jm (f:=(λe=>Xs e.1)) (l:=x.bl) (λ_=>rfl) O hv))<|QK (QJ (vs:=[_,_,_,_,_,_,_,_]) I Qi .here .h8 rfl)<|QK (QD I)<|QK (QH I B8 QL)<|QK (QJ (vs:=[_,_,_,_]) I QL .u1 .h4 rfl) ?_)
  refine QK (QH I B7 QL)<|QK (QJ (vs:=[_,_,_,_]) I QL .u1 (.skip (.skip (.skip (.skip .h4)))) I)<|QK (Qv I YG Ji (.cons (vs:=[_,_,_,_]) I I I .h4 (.cons (vs:=[_,_,_,_]) I I I (.skip (.skip (.skip (.skip .h4)))) .nil)))<|QK (QD I)<|QN I (λw F hF ⟨⟨⟨⟨hY,hX,hO⟩,h11⟩,h16⟩,hS⟩=>EJ (pa:=el y.ps i.i) (x:=⟨x.fr,x.Tc⟩) (t:=(fr,t2)) hF (hY.at hlt).1 ⟨hX.fr,hX.Tc⟩ hO hno (hpn _ hem) (by rw[heq];exact hk.ev _ O)) (λc42=>?_)
  rw[heq]
  refine QN I (λw F hF h9=>Aj (x:=⟨c11,c16⟩) (y:=c42) (a:=(0,t2 - fr)) (b:=(J8 ((fr,t2)::von) (el rs i.i))) hF ⟨h9.1.1.1.2,h9.1.1.2⟩ h9.2 ⟨by show JL 0<=_;decide,by show JL (t2 - fr)<=_;omega⟩ ((hk.sz _ O).mono wa)) (λc43=>QN I (λw F hF h9=>Mw (x:=(el x.bl i.i).1) (y:=c43) (a:=el vx i.i) (b:=Jc (0,t2 - fr) (J8 ((fr,t2)::von) (el rs i.i))) hF (h9.1.1.1.1.1.2.1.bx.at hltx) h9.2 ((hk.bx _ (Q4 O)).mono wa) ((VI (m:=3000000) (n:=10000000) ⟨by show JL 0<=_;decide,by show JL (t2 - fr)<=_;omega⟩ (hk.sz _ O)).mono wa)) (λc44=>?_))
  refine Qm I (Qw JN) Qi Ji I I (λb45=>?_) (λw h=>h.imp wy (λF h=>h.1.1.1))
  refine Y6 (aE (l₁:=[_,_])) ?_
  refine KG (n:=i.i) (k:=1) (sz:=8) (news:=Xs c44) rfl rfl JN Qi Ji I Wq i.hr (Src.row (off:=0) wk (λj q hq=>by rw[aM];rw[ay];exact hq) rfl) O O (Kx _) wK (λ_ h=>h.1.1.1.1) (λv46 ob46 hr46=>?_)
  refine Y6 (aE (l₂:=[_,_]))<|QK (QF I)<|Q6<|Qk<|QC<|QB<|QA (Qu I I O)<|wE I<|QE ?_
  exact Ql (i.next hlt c44 _ hr46 rfl) (by show y.rt.n - (i.i+1)<y.rt.n - i.i;omega) wU wK (λF ⟨⟨⟨⟨⟨⟨⟨⟨hY,hX,hO⟩,h11⟩,h16⟩,hS⟩,h42⟩,h43⟩,h44⟩,hs45⟩=>⟨⟨⟨⟨hY,hX,hO⟩,h11⟩,h16⟩,hS.snoc h44⟩)
 ·
  have hge:i.i=y.rt.n:=by have:=wN hc;omega
  refine Qz ?_
  repeat (first | refine QW ?_ | refine QP wc ?_)
  refine QX<|QC<|QG<|QB ?_
  have hxl:=i.len
  obtain⟨⟨rq,rn,rc⟩,hv2,hrn,hrc,hfix⟩:=Qx.fix (w0:=w) (F0:=F) (bs1:=[_,_]) (G:=_) i.hr
  dsimp only at hrn hrc hfix
  subst hrn
  refine YM hfix ?_
  rw[hv2]
  dsimp only[Sr.v]
  refine wE I<|wH I<|QY ?_
  exact QV ((⟨rq,i.i,rc⟩,i.l)) I (wB I) (rfl) (λF h9=>by have:=i.box hge (r:=⟨rq,i.i,rc⟩) h9.2 I hrc h9.1.2;unfold Zp;rw[hxl2,<-hn];exact this)
structure QGq(f:Nat->Rat×Rat)(n:Nat) where
 v:Value
 ob:List (Nat×Obj)
 l:List Y9
 hr:Qx 168 8 v n (Xh l) ob
 hl:l.map (·.2)=(ag n).map f
def CH(a:Rat)(k:Nat):Rat×Rat:=if k=0 then(a,a)else(0,0)
theorem Aq(a:Rat)(n:Nat):(ag (n+1)).map (CH a)=Ye a n:=by
 unfold Ye
 rw[List.range_succ_eq_map,aN,List.map_map]
 congr 1
 apply bX
 ·simp
 ·intro i h1 h2;simp[CH]
structure CsJ(n:Nat)(a:Rat) where
 s:W1 (n+1) (CH a)
 j:Nat
 hj:s.i=j+1
theorem QGM(x y z:α)(l:List α)(m:List α):([x,y,z]++(l++m)).Perm (l++([x,y,z]++m)):=aL _ _ _
structure QAs(va vb:List (Rat×Rat)):Prop where
 el:∀k,k<va.length->Xj (el va k) 20000000/\Xj (el vb k) 20000000
 cv:∀k,k<va.length->∀i,i<=k+1->Xj (Vf va vb k i) 50000000
theorem Se(a b:List (Rat×Rat))(k j:Nat):Vf a b k (j+1)=Y3 (Vf a b k j) (Jc (el a j) (el b (k - j))):=by
 unfold Vf;rw[aV,aw];rfl
theorem y4(a b:List (Rat×Rat)):(ag a.length).map (λk=>Y3 (el a k) (el b k))=KK a b:=rfl
structure QE8(bs:List (Nat×Obj))(b n c:Nat)(l:List Y9) where
 rest:List Value
 hm:(b,bZ (Xh l++rest).toArray 168 (0,0))∈bs
 hl:l.length=n
theorem kG{rest:List Value}{j:Nat}{v:Value}(h:k<l.length)(hv:(Xs (el l k).1)[j]?=some v):(Xh l++rest)[0+k*8+j]?=some v:=by
 have h1:(Xh l)[k*8+j]?=some v:=Jm (f:=λe:Y9=>Xs e.1) (k:=8) (λ_=>rfl) h hv
 have hlt:k*8+j<(Xh l).length:=by
  rcases eE (k*8+j) (Xh l).length with g | g
  ·exact g
  ·rw[eH g]at h1;cases h1
 rw[aM,List.getElem?_append_left hlt];exact h1
theorem Sg{x:Fr}{a:Rat}{n:Nat}(hA:∀F,G F->JM F x a)(hn:n<=1000):XB Tryz.prog 205 [x.v,.int .i64 (n:Int)] ⟨w0,F0,bs,G⟩ (λ(c:QGq (CH a) (n+1))=>.agg #[c.v]) (λc=>⟨w0,F0,c.ob++bs,λF=>G F/\YU F c.l⟩):=by
 refine XB.intro Tryz.func205 rfl wc rfl rfl<|wI<|Qo rfl (vs:=[_,_,_,_]) rfl (λb2=>Qb WZ (λb4=>wG<|wI<|QA (QJ (vs:=[_,_,_,_]) rfl QL .u1 .h4 rfl)<|QI rfl (λw F hF hG=>K1 (x:=x) (r:=a) hF (hA _ hG)) (λc7=>VW rfl (Qw JN) Qi Ji rfl rfl (λb8=>QA (Qv rfl y8 WZ (.cons (vs:=[_]) rfl rfl rfl .h1 .nil))<|Qb WZ (λb5=>QO (vs:=[_]) rfl rfl rfl XK rfl .here .h1 wO<|wG<|QG<|QG<|gh (.cons _ (List.perm_middle (l₁:=[_,_])).symm)<|QB<|wE rfl<|wE rfl<|QE<|QC ?_)))))
 refine QU<|JU (ι:=CsJ n a) [(4,_),(5,_),(10,_)] (λi=>[(11,.int .i64 ((i.j:Nat):Int))]) (λi=>(b5,.cells [i.s.v].toArray 173 (0,0))::(b4,.cells [.slice none 0 0].toArray 173 (0,0))::(b2,.cells (Ku x).toArray 135 (0,0))::(i.s.ob++bs)) (λi F=>YU F i.s.l) (λi=>n - i.j) (⟨⟨1,_,_,[(c7,(a,a))],O,.some (n:=1) (l:=Xh [(c7,(a,a))]) (rest:=[]) rfl rfl (aJ _) wa,rfl⟩,0,rfl⟩) wQ wO wK (λ_ h=>by intro e he;rw[List.mem_singleton.1 he];exact h.2) (λi=>?_)
 simp only[aa,ae]
 have hi:=i.s.le
 have hij:=i.hj
 refine wI<|QA (QZ I I I)<|wG<|QG ?_
 refine QR I (λhc=>?_) (λhc=>?_)
 ·
  have hlt:i.j<n:=by have:=wM hc;omega
  refine QQ<|QC<|QG<|QU<|Jt 7 wz mixed y0 y0 ?_
  simp only[bA,bL,bB,bM]
  refine QK (QH I Xg JE)<|QK (Qg I JE .here .h1)<|QN I (λw F hF h9=>TO (n:=0) hF wa wa) (λc15=>QN I (λw F hF h9=>K1 (x:=c15) (r:=((0:Int):Rat)) hF h9.2) (λc16=>?_))
  refine Qm I (Qw JN) Qi Ji I I (λb17=>?_) (λw h=>h.imp wz (λF h=>h.1.1))
  refine Y6 (aL [_,_,_] i.s.ob bs) ?_
  refine KG (n:=i.s.i) (k:=1) (sz:=8) (news:=Xs c16) rfl rfl JN Qi Ji I Wq i.s.hr (Src.row (off:=0) wk (λj q hq=>by rw[aM];rw[ay];exact hq) rfl) O O (Kx _) wz (λ_ h=>h.1.1.1) (λv18 ob18 hr18=>?_)
  refine Y6 (aL ob18 [_,_,_] bs)<|QK (QH I Xg JE)<|Ze<|QO (vs:=[v18]) I I hr18.one.2 JE I .here .h1 ⟨hr18.one.1,trivial⟩<|QE<|Qk<|QC<|QB<|QA (Qu I I O)<|wE I<|QE ?_
  exact Ql (⟨i.s.next O c16 (CH a i.s.i) hr18 rfl,i.j+1,by show i.s.i+1=_;omega⟩) (by show n - (i.j+1)<n - i.j;omega) wR wK (λF h9=>⟨⟨h9.1.1.1.1.1,h9.1.1.1.1.2⟩,h9.1.1.1.2.snoc (by rw[show CH a i.s.i=(((0:Int):Rat),((0:Int):Rat)) by unfold CH;rw[if_neg O];rfl];exact h9.1.2)⟩)
 ·
  have hge:i.j=n:=by have:=wN hc;omega
  refine Qz ?_
  repeat (first | refine QW ?_ | refine QP wc ?_)
  refine QX<|QC<|wI<|QA (QJ (vs:=[_]) I XK .here .h1 rfl)<|QO (vs:=[i.s.v]) I I I XK I .u1 .h1 ⟨i.s.hr.one.1,trivial⟩<|wG<|QY ?_
  exact KQ (⟨i.s.v,i.s.ob,i.s.l,by have e:i.s.i=n+1:=O;have h:=i.s.hr;rw[e]at h;exact h,by rw[i.s.hl,show i.s.i=n+1 by omega]⟩) I (.JW (c:=[_]) I XK .u1 .nil) (rfl) (λw h=>h.imp (.cons _ (.cons _ (.cons _ wK))) (λF h9=>⟨h9.1.1,h9.2⟩))
theorem Sf{x:Fr}{a:Rat}{n:Nat}(hF:Fits F w)(hA:JM F x a)(hn:n<=1000):QS Tryz.prog 205 [x.v,.int .i64 (n:Int)] w F (λ(c:Sr×List Y9)=>.agg #[c.1.v]) (λc F=>J9 F c.1 c.2 (Ye a n)):=by
 have h:=Sg (w0:=w) (F0:=F) (bs:=[]) (G:=λF'=>Gs.le F F') (x:=x) (a:=a) (λF' h=>hA.le h) hn
 refine⟨h.1,(h.2 w (St.start hF λ_ h=>h)).mono ?_⟩
 rintro e w' ⟨c,rfl,hw⟩
 dsimp only at hw
 rw[bI]at hw
 obtain⟨s,hv,hsn,hsc,hfix⟩:=Qx.fix (w0:=w) (F0:=F) (bs1:=[]) c.hr
 obtain⟨F',h'⟩:=hfix w' hw
 exact⟨(s,c.l),F',by show Ending.returned (.agg #[c.v])=_;rw[hv],h'.ext,h'.le,h'.old,h'.fits,λF'' hle=>⟨by rw[hsn];exact(h'.g F'' hle).2,(h'.g F'' hle).1.2,by rw[c.hl,Aq],by rw[hsn,<-bz (f:=λe:Y9=>e.2),c.hl];simp,by rw[hsn];exact hsc⟩⟩
theorem QBT(hF:Fits F w)(ha:J9 F ra la va)(hb:J9 F rb lb vb)(hn:ra.n<=rb.n)(hbn:ra.n<=1000000)(hza:∀x∈va,Xj x 100000000)(hzb:∀x∈vb,Xj x 100000000):
  QS Tryz.prog 207 [.agg #[ra.v],.agg #[rb.v]] w F (λ(c:Sr×List Y9)=>.agg #[c.1.v]) (λc F=>J9 F c.1 c.2 (KK va vb)):=by
 have hva:=ha.YZ
 have hvb:=hb.YZ
 have hla:=ha.len
 have hlb:=hb.len
 dsimp only[Sr.v]
 refine QS.intro (G:=λF=>J9 F ra la va/\J9 F rb lb vb) Tryz.func207 rfl wc rfl rfl hF (λF' hF'=>⟨ha.le hF',hb.le hF'⟩)<|wI<|Qo rfl (vs:=[_]) rfl (λb2=>Qo rfl (vs:=[_]) rfl (λb3=>Qb WZ (λb4=>wG<|wI<|Qb WZ (λb5=>wG<|QG<|wI<|QA (QH rfl Xg JE)<|QA (Qg rfl JE .u3 .h1)<|QA (Qh rfl JN)<|wE rfl<|wG<|QU<|JU (ι:=W1 (ra.n) (λk=>Y3 (el va k) (el vb k))) [(2,_),(3,_),(4,_),(5,_),(9,_)] (λi=>[(10,.int .i64 ((i.i:Nat):Int))]) (λi=>(b5,.cells [i.v].toArray 173 (0,0))::(b4,.cells [.slice none 0 0].toArray 173 (0,0))::(b3,.cells [.slice rb.q rb.n rb.cap].toArray 173 (0,0))::(b2,.cells [.slice ra.q ra.n ra.cap].toArray 173 (0,0))::i.ob) (λi F=>YU F i.l) (λi=>(ra.n) - i.i) (W1.start _ _) wS wO wK (λ_ _=>YU.nil _) (λi=>?_)))))
 simp only[aa,ae]
 have hi:=i.le
 refine wI<|QA (QZ I I I)<|wG<|QG ?_
 refine QR I (λhc=>?_) (λhc=>?_)
 ·
  have hlt:i.i<ra.n:=by have:=wM hc;omega
  refine QQ<|QC<|QG<|QU<|wJ I<|wH I<|Jt 17 (.cons_cons _ (.cons_cons _ (.cons_cons _ (.cons_cons _ wu)))) mixed y0 y0 ?_
  simp only[bA,bL,bB,bM]
  refine QK (QH I Xg JE)<|QK (Qg I JE .here .h1)<|QK (QH I Xg JE)<|QK (Qg I JE .u3 .h1)<|QK (QD I)<|QK (Q9 (n:=ra.n) i.i (λF h9=>h9.1.1.row) rfl rfl JN Qi O)<|QK (Ja (n:=ra.n) (vs:=[.int .i64 (el la i.i).1.lo.n.s,.slice (el la i.i).1.lo.n.q (el la i.i).1.lo.n.n (el la i.i).1.lo.n.cap,.int .i64 (el la i.i).1.lo.d.s,.slice (el la i.i).1.lo.d.q (el la i.i).1.lo.d.n (el la i.i).1.lo.d.cap,.int .i64 (el la i.i).1.hi.n.s,.slice (el la i.i).1.hi.n.q (el la i.i).1.hi.n.n (el la i.i).1.hi.n.cap,.int .i64 (el la i.i).1.hi.d.s,.slice (el la i.i).1.hi.d.q (el la i.i).1.hi.d.n (el la i.i).1.hi.d.cap]) ((i.i)*8) (λF h9=>h9.1.1.row) O rfl Qi I (λj v hv=>Jm (f:=(λe=>Xs e.1)) (l:=la) (λ_=>rfl) O hv))<|gj (v:=(el la i.i).1.v) rfl (λ_=>y0)<|QK (QH I Xg JE)<|QK (Qg I JE .u2 .h1)<|QK (QD I)<|QK (Q9 (n:=rb.n) i.i (λF h9=>h9.1.2.row) rfl rfl JN Qi O)<|QK (Ja (n:=rb.n) (vs:=[.int .i64 (el lb i.i).1.lo.n.s,.slice (el lb i.i).1.lo.n.q (el lb i.i).1.lo.n.n (el lb i.i).1.lo.n.cap,.int .i64 (el lb i.i).1.lo.d.s,.slice (el lb i.i).1.lo.d.q (el lb i.i).1.lo.d.n (el lb i.i).1.lo.d.cap,.int .i64 (el lb i.i).1.hi.n.s,.slice (el lb i.i).1.hi.n.q (el lb i.i).1.hi.n.n (el lb i.i).1.hi.n.cap,.int .i64 (el lb i.i).1.hi.d.s,.slice (el lb i.i).1.hi.d.q (el lb i.i).1.hi.d.n (el lb i.i).1.hi.d.cap]) ((i.i)*8) (λF h9=>h9.1.2.row) O rfl Qi I (λj v hv=>Jm (f:=(λe=>Xs e.1)) (l:=lb) (λ_=>rfl) O hv))<|gk (v:=(el la i.i).1.v) (vs:=[(el lb i.i).1.v]) I I (λ_=>y0) (λw F hF h9=>Mw (x:=(el la i.i).1) (y:=(el lb i.i).1) (a:=el va i.i) (b:=el vb i.i) hF (h9.1.1.at hlt) (h9.1.2.at (show i.i<rb.n by omega)) (hza _ (Q4 O)) (hzb _ (Q4 O))) (λc26=>?_)
  refine Qm I (Qw JN) Qi Ji I I (λb27=>?_) (λw h=>h.imp (.cons_cons _ (.cons_cons _ (.cons_cons _ (.cons_cons _ wu)))) wj)
  refine Y6 (aE (l₁:=[_,_,_,_])) ?_
  refine KG (n:=i.i) (k:=1) (sz:=8) (news:=Xs c26) rfl rfl JN Qi Ji I Wq i.hr (Src.row (off:=0) wk (λj q hq=>by rw[aM];rw[ay];exact hq) rfl) O O (Kx _) wK (λ_ h=>h.1.1) (λv28 ob28 hr28=>?_)
  refine Y6 (aE (l₂:=[_,_,_,_]))<|QK (QH I Xg JE)<|Ze<|QO (vs:=[v28]) I I hr28.one.2 JE I .here .h1 ⟨hr28.one.1,trivial⟩<|QE<|Qk<|QC<|QB<|QA (Qu I I O)<|wE I<|QE ?_
  exact Ql (i.next hlt c26 _ hr28 rfl) (by show ra.n - (i.i+1)<ra.n - i.i;omega) wT wK (λF h9=>⟨⟨h9.1.1.1.1,h9.1.1.1.2⟩,h9.1.1.2.snoc h9.1.2⟩)
 ·
  have hge:i.i=ra.n:=by have:=wN hc;omega
  refine Qz ?_
  repeat (first | refine QW ?_ | refine QP wc ?_)
  refine QX<|QC<|QG<|QB ?_
  have hxl:=i.len
  obtain⟨⟨rq,rn,rc⟩,hv2,hrn,hrc,hfix⟩:=Qx.fix (w0:=w) (F0:=F) (bs1:=[_,_,_,_]) (G:=_) i.hr
  dsimp only at hrn hrc hfix
  subst hrn
  refine YM hfix ?_
  rw[hv2]
  dsimp only[Sr.v]
  refine QA (QJ (vs:=[_]) I XK .here .h1 rfl)<|QO (vs:=[_]) I I I XK I .u1 .h1 wO<|wG<|QY ?_
  exact QV ((⟨rq,i.i,rc⟩,i.l)) I (.JW (c:=[_]) I XK .u1 .nil) (rfl) (λF h9=>by have:=i.box hge (r:=⟨rq,i.i,rc⟩) h9.2 I hrc h9.1.2;rw[<-y4,hva];exact this)
theorem dc{nb cb:Nat}(ha:∀F,G F->J9 F ra la va)(hin:QE8 bs bb nb cb lb)(hvb:lb.map (·.2)=vb)(hsb:∀F,G F->YU F lb)(hla:la.length=ra.n)(hva:va.length=ra.n)(hn:ra.n<=nb)(hbn:ra.n<=1000000)(ho:QAs va vb):
  XB Tryz.prog 276 [.agg #[ra.v],.agg #[.slice (some ⟨bb,0,none⟩) nb cb]] ⟨w0,F0,bs,G⟩ (λ(c:Sr×List Y9)=>.agg #[c.1.v]) (λc=>⟨w0,F0,bs,λF=>G F/\J9 F c.1 c.2 (XS va vb)⟩):=by
 obtain⟨rest,hm,hll⟩:=hin
 obtain⟨fo,hfo⟩:=C7 hm
 have hbel:∀k,k<nb->(el lb k).2=el vb k:=λk hk=>by rw[<-hvb,JK (show k<lb.length by omega),JK (by rw[bz];omega),bm]
 dsimp only[Sr.v]
 refine XB.intro Tryz.func276 rfl wc rfl rfl<|wI<|Qo rfl (vs:=[_]) rfl (λb2=>Qo rfl (vs:=[_]) rfl (λb3=>Qb WZ (λb4=>wG<|wI<|Qb WZ (λb5=>wG<|QG<|wI<|QA (QH rfl Xg JE)<|QA (Qg rfl JE .u3 .h1)<|QA (Qh rfl JN)<|wE rfl<|wG<|QU<|JU (ι:=W1 (ra.n) (λk=>Vf va vb k (k+1))) [(2,_),(3,_),(4,_),(5,_),(11,_)] (λi=>[(12,.int .i64 ((i.i:Nat):Int))]) (λi=>(b5,.cells [i.v].toArray 173 (0,0))::(b4,.cells [.slice none 0 0].toArray 173 (0,0))::(b3,.cells [.slice (some ⟨bb,0,none⟩) nb cb].toArray 173 (0,0))::(b2,.cells [.slice ra.q ra.n ra.cap].toArray 173 (0,0))::(i.ob++bs)) (λi F=>YU F i.l) (λi=>(ra.n) - i.i) (W1.start _ _) wS wO wK (λ_ _=>YU.nil _) (λi=>?_)))))
 simp only[aa,ae]
 have hi:=i.le
 refine wI<|QA (QZ I I I)<|wG<|QG ?_
 refine QR I (λhc=>?_) (λhc=>?_)
 ·
  have hlt:i.i<ra.n:=by have:=wM hc;omega
  refine QQ<|QC<|QG<|QU<|wJ I<|wH I<|wI<|QI I (λw F hF h9=>TO (n:=0) hF wa wa) (λc15=>QI I (λw F hF h9=>K1 (x:=c15) (r:=((0:Int):Rat)) hF h9.2) (λc16=>Qb Ji (λb7=>QO (vs:=[_,_,_,_,_,_,_,_]) I I I Qi I .here .h8 wV<|wG<|QG<|wJ I<|QA (Qu I I O)<|wE I<|QE ?_)))
  refine QC<|QU<|JU (ι:=VaI (i.i+1)) [(2,_),(3,_),(4,_),(5,_),(6,_),(7,_),(11,_),(12,_),(18,_)] (λi2=>[(19,.int .i64 ((i2.i:Nat):Int))]) (λi2=>(b7,.cells (Xs i2.x).toArray 168 (0,0))::(b5,.cells [i.v].toArray 173 (0,0))::(b4,.cells [.slice none 0 0].toArray 173 (0,0))::(b3,.cells [.slice (some ⟨bb,0,none⟩) nb cb].toArray 173 (0,0))::(b2,.cells [.slice ra.q ra.n ra.cap].toArray 173 (0,0))::(i.ob++bs)) (λi2 F=>Jk F i2.x (Vf va vb i.i i2.i)) (λi2=>i.i+1 - i2.i) (⟨0,c16,aD _⟩) wW wO wK wk (λi2=>?_)
  simp only[aa,ae]
  have hj:=i2.le
  refine wI<|QA (QZ I I I)<|wG<|QG ?_
  refine QR I (λhc=>?_) (λhc=>?_)
  ·
   have hlt2:i2.i<i.i+1:=by have:=wM hc;omega
   refine QQ<|QC<|QG<|QU<|wJ I<|wH I<|Jt 15 wK mixed y0 y0 ?_
   simp only[bA,bL,bB,bM]
   refine QK (QJ (vs:=[_,_,_,_,_,_,_,_]) I Qi .here .h8 rfl)<|QK (QH I Xg JE)<|QK (Qg I JE .u4 .h1)<|QK (QD I)<|QK (Q9 (n:=ra.n) (i2.i) (λF h9=>(ha _ h9.1.1.1.1).row) rfl rfl JN Qi O)<|QK (Ja (n:=ra.n) (vs:=[.int .i64 (el la (i2.i)).1.lo.n.s,.slice (el la (i2.i)).1.lo.n.q (el la (i2.i)).1.lo.n.n (el la (i2.i)).1.lo.n.cap,.int .i64 (el la (i2.i)).1.lo.d.s,.slice (el la (i2.i)).1.lo.d.q (el la (i2.i)).1.lo.d.n (el la (i2.i)).1.lo.d.cap,.int .i64 (el la (i2.i)).1.hi.n.s,.slice (el la (i2.i)).1.hi.n.q (el la (i2.i)).1.hi.n.n (el la (i2.i)).1.hi.n.cap,.int .i64 (el la (i2.i)).1.hi.d.s,.slice (el la (i2.i)).1.hi.d.q (el la (i2.i)).1.hi.d.n (el la (i2.i)).1.hi.d.cap]) ((i2.i)*8) (λF h9=>(ha _ h9.1.1.1.1).row) O rfl Qi I (λj v hv=>Jm (f:=(λe=>Xs e.1)) (l:=la) (λ_=>rfl) O hv))<|QK (QH I Xg JE)<|QK (Qg I JE .u3 .h1)<|QK (QD I)<|QK (QD I)<|QK (Xw I I O)<|QK (JG (i:=i.i - i2.i) rfl wA JN Qi O)<|QK (F8 (vs:=Xs (el lb (i.i - i2.i)).1) rfl Qi (.there (.there (.there (.there (.there (hfo.skip i.ob)))))) I (λj v hv=>kG O hv))<|QN I (λw F hF h9=>Aj (x:=(el la i2.i).1) (y:=(el lb (i.i - i2.i)).1) (a:=el va i2.i) (b:=el vb (i.i - i2.i)) hF ((ha _ h9.1.1.1.1).at (show i2.i<ra.n by omega)) (by rw[<-hbel _ (show i.i - i2.i<nb by omega)];exact hsb _ h9.1.1.1.1 _ (Q4 O)) (ho.el i2.i O).1 (ho.el (i.i - i2.i) O).2) (λc35=>QN I (λw F hF h9=>Mw (x:=i2.x) (y:=c35) (a:=Vf va vb i.i i2.i) (b:=Jc (el va i2.i) (el vb (i.i - i2.i))) hF h9.1.2 h9.2 ((ho.cv _ O _ O).mono wa) ((VI (ho.el i2.i O).1 (ho.el (i.i - i2.i) O).2).mono wa)) (λc36=>Ze<|QO (vs:=[_,_,_,_,_,_,_,_]) I I I Qi I .here .h8 wV<|QE<|Qk<|QC<|QB<|QA (Qu I I O)<|wE I<|QE ?_))
   exact Ql (⟨i2.i+1,c36,hlt2⟩) (by show i.i+1 - (i2.i+1)<i.i+1 - i2.i;omega) wX wK (λF ⟨⟨⟨⟨⟨⟨hG,hS⟩,h15⟩,h16⟩,hY⟩,h35⟩,h36⟩=>⟨⟨⟨⟨hG,hS⟩,h15⟩,h16⟩,by show Jk F c36 (Vf va vb i.i (i2.i+1));rw[Se];exact h36⟩)
  ·
   have hge2:i2.i=i.i+1:=by have:=wN hc;omega
   refine Qz ?_
   repeat (first | refine QW ?_ | refine QP wc ?_)
   refine QX<|QC<|QB<|QA (QH I Xg JE)<|QA (Qg I JE .u1 .h1)<|QA (QJ (vs:=[_,_,_,_,_,_,_,_]) I Qi .here .h8 rfl)<|Qa I (Qw JN) Qi Ji I I (λb41=>ZP (aL [_,_,_,_,_] i.ob bs) ?_)
   refine M7 (bs:=[_,_,_,_,_]++bs) (n:=i.i) (k:=1) (sz:=8) (news:=Xs i2.x) rfl rfl JN Qi Ji I Wq i.hr (Src.row (off:=0) wk (λj q hq=>by rw[aM];rw[ay];exact hq) rfl) O O (Kx _) (λv42 ob42 hr42=>?_)
   refine ZP (aL ob42 [_,_,_,_,_] bs)<|QA (QH I Xg JE)<|QO (vs:=[v42]) I I hr42.one.2 JE I .u1 .h1 ⟨hr42.one.1,trivial⟩<|QE<|Qk<|QC<|QB<|QA (Qu I I O)<|wE I<|QE ?_
   exact Ql (i.next hlt i2.x _ hr42 rfl) (by show ra.n - (i.i+1)<ra.n - i.i;omega) wT (.cons _ wK) (λF h9=>⟨h9.1.1.1.1.1,h9.1.1.1.1.2.snoc (by have e:=h9.1.2;rw[hge2]at e;exact e)⟩)
 ·
  have hge:i.i=ra.n:=by have:=wN hc;omega
  refine Qz ?_
  repeat (first | refine QW ?_ | refine QP wc ?_)
  refine QX<|QC<|wI<|ZP (.cons _ (.cons _ (.cons _ (.cons _ aE)))) ?_
  have hxl:=i.len
  obtain⟨⟨rq,rn,rc⟩,hv2,hrn,hrc,hfix⟩:=Qx.fix (w0:=w0) (F0:=F0) (bs1:=_::_::_::_::bs) (G:=_) i.hr
  dsimp only at hrn hrc hfix
  subst hrn
  refine YM hfix ?_
  rw[hv2]
  dsimp only[Sr.v]
  refine QA (QJ (vs:=[_]) I XK .here .h1 rfl)<|QO (vs:=[_]) I I I XK I .u1 .h1 wO<|wG<|QY ?_
  exact KQ ((⟨rq,i.i,rc⟩,i.l)) I (.JW (c:=[_]) I XK .u1 .nil) (rfl) (λw h=>h.imp (.cons _ (.cons _ (.cons _ (.cons _ wK)))) (λF h9=>⟨h9.1.1,by have:=i.box hge (r:=⟨rq,i.i,rc⟩) h9.2 I hrc h9.1.2;unfold XS;rw[hva];exact this⟩))
section
variable[Dr][df:Df]{P:Program}{Q:Exit->Act->World->Prop}{N:Nat}{m:Sl}{E:Env}{ops:Array Oper}{l:List Oper}{d:Nat}{ty:TypeId}{pos:String}{aft:Array Edge}
theorem QAw{o:Op}{v:Value}(h:Qt P N m (St E) o ty v)(k:JSI P ops Q l N ((d,v)::m) E)(hnd:(match o with | .defer _=>false | _=>true)=true:=by rfl)(hd:J5 N (some d)=true:=by rfl):JSI P ops Q (⟨some d,o,ty,pos,aft,none⟩::l) N m E:=by
 intro a w ha hw
 refine wpListIn_plain rfl λK hK=>?_
 refine⟨λf _=>trivial,?_⟩
 rw[bY aj a.eval _ (λc e=>by have e':o = .defer c:=e;subst e';cases hnd),h a w (some d) pos aft none ha hw]
 exact hK _ _ (k _ w (ha.put hd v) hw)
theorem xY(h:JSI P l.toArray Q l N m E):J P (.region id l.toArray false) Q N m E:=λa w ha hw=>wpIn_wide.1 (wpIn_region_lit (h a w ha hw))
end
structure VL where
 b:Nat
 c:Nat
 l:List Y9
instance :Inhabited VL:=⟨⟨0,0,[]⟩⟩
def VL.q(e:VL):List (Rat×Rat):=e.l.map (·.2)
structure VL.In(bs:List (Nat×Obj))(n:Nat)(e:VL):Prop where
 hm:∃rest,(e.b,bZ (Xh e.l++rest).toArray 168 (0,0))∈bs
 hl:e.l.length=n
 hc:n<=e.c
theorem VL.In.cons{e:VL}(h:e.In bs n)(x:Nat×Obj):e.In (x::bs) n:=⟨h.hm.imp λ_ g=>ab _ g,h.hl,h.hc⟩
def QE2(l:List Tm)(all:List (List (Rat×Rat)))(n:Nat):Prop:=∀t∈l,(t.2.length=all.length/\∀k∈t.2,0<=k/\k<=1000)/\∀v,v<t.2.length->∀i,i<(Qf t.2 v).toNat->QAs (Dp (Wj t.1 t.2 all n v) (el all v) i) (el all v)
theorem T8(c:Rat)(ks:List Int)(all:List (List (Rat×Rat)))(n i:Nat):Wj c ks all n (i+1)=Dp (Wj c ks all n i) (el all i) (Qf ks i).toNat:=by
 unfold Wj;rw[aV,aw];rfl
theorem Tr(y b:List (Rat×Rat))(n:Nat):Dp y b (n+1)=XS (Dp y b n) b:=by
 unfold Dp;rw[aV,aw];rfl
structure TsI{ι:Type}(pos:ι->Nat)(n:Nat) where
 i:Nat
 s:ι
 le:i<=n
 hp:pos s=i
structure TsJ(n:Nat) where
 i:Nat
 y:Sr×List Y9
 le:i<=n
theorem ze{B:ι->List (Nat×Obj)}{H:ι->Gs->Prop}{pos:ι->Nat}{p:Vn}{b1 b2 b3 b4 L n bv cv:Nat}{e0:VL}{ls:List VL} 
  (hH:∀s F,H s F->(F b1=some (#[p.1.v],190)/\F b2=some (#[.int .i64 (n:Int)],3)/\F b3=some (#[.slice (some ⟨e0.b,0,none⟩) (n+1) e0.c],173)/\F b4=some (#[.slice (some ⟨bv,0,none⟩) ls.length cv],163))/\XU F p.1 p.2 (J1 p.2)/\∀e∈e0::ls,YU F e.l) (hPn:p.2.length=p.1.n) (hpl:p.2.length<=1000000) (hn:n<=1000) (hls:ls.length<=1000)
  (hB:∀s,∀e∈e0::ls,e.In (B s) (n+1)) (hV:∀s,(bv,bZ (ls.map λe=>.slice (some ⟨e.b,0,none⟩) (n+1) e.c).toArray 173 (0,0))∈B s) (ho:QE2 (J1 p.2) ((e0::ls).map VL.q) n)
  (hround:∀(G:Gs->Prop) (C:List (Nat×Obj)) (s:ι) (i:Nat) (y:Sr×List Y9) (W:World),i<p.2.length->pos s=i ->
   St ⟨w0,F0,B s++C,λF=>(G F/\H s F)/\J9 F y.1 y.2 (Wj (el p.2 i).t.1 (el p.2 i).t.2 ((e0::ls).map VL.q) n ((e0::ls).map VL.q).length)⟩ W->YieldAt aj 0 Tryz.prog L #[.agg #[y.1.v]] W λe W'=>e = .returned (.bool true)/\∃s',pos s'=pos s+1/\St ⟨w0,F0,B s'++C,λF=>G F/\H s' F⟩ W')
  (s0:ι) (h0:pos s0=0) :
  XB Tryz.prog 275 [.func (.yield L) #[] #[],.pointer (some ⟨b1,0,none⟩),.pointer (some ⟨b2,0,none⟩),.pointer (some ⟨b3,0,none⟩),.pointer (some ⟨b4,0,none⟩)] ⟨w0,F0,B s0,H s0⟩ (λ(_:{ s:ι // pos s=p.2.length })=>.tuple #[]) (λs=>⟨w0,F0,B s.1,H s.1⟩):=by
 have hal:((e0::ls).map VL.q).length=ls.length+1:=we
 refine XB.intro Tryz.func275 rfl wc rfl rfl<|wI<|QA (Z2 (c:=#[p.1.v]) (T':=190) rfl Ya (λF hs0=>(hH _ _ hs0).1.1) rfl)<|QA (Qh rfl KB)<|wE rfl<|wG<|QU<|JU (ι:=TsI pos p.2.length) [(0,_),(2,_),(3,_),(4,_),(12,_),(13,_)] (λi=>[(14,.int .i64 ((i.i:Nat):Int))]) (λi=>B i.s) (λi F=>H i.s F) (λi=>p.2.length - i.i) (⟨0,s0,aD _,h0⟩) wT wO wK wi (λi=>?_)
 simp only[aa,ae]
 have hi:=i.le
 refine wI<|QA (QZ I I I)<|wG<|QG ?_
 refine QR I (λhc=>?_) (λhc=>?_)
 ·
  have hlt:i.i<p.2.length:=by have:=wM hc;omega
  have htm:=Q4 hlt
  have htA:(el p.2 i.i).t∈J1 p.2:=bR htm
  have ho:=ho _ htA
  have hol:=ho.1.1
  refine XQ _ (λw F hF h=>((hH _ _ h.1).2.1.2.1 _ htm).2.2.1) (λhrl=>QQ<|QC<|QG<|QU<|wI<|QA (Q9 (n:=p.1.n) i.i (λF h9=>(hH _ _ h9.1).2.1.1) rfl rfl KB Xy O)<|QA (Ja (n:=p.1.n) (vs:=[.int .i64 (el p.2 i.i).x.n.s,.slice (el p.2 i.i).x.n.q (el p.2 i.i).x.n.n (el p.2 i.i).x.n.cap,.int .i64 (el p.2 i.i).x.d.s,.slice (el p.2 i.i).x.d.q (el p.2 i.i).x.d.n (el p.2 i.i).x.d.cap,.slice (el p.2 i.i).r.q (el p.2 i.i).r.n (el p.2 i.i).r.cap]) ((i.i)*5) (λF h9=>(hH _ _ h9.1).2.1.1) O rfl Xy I (λj v hv=>Jm (f:=V1) (l:=p.2) B1 O hv))<|Qb GY (λb7=>QO (vs:=[_,_,_,_,_]) I I I Xy I .here .h5 wS<|wG<|wI<|QA (QH I W9 QL)<|QA (QJ (vs:=[_,_,_,_]) I QL .here .h4 rfl)<|QA (Z2 (c:=#[.int .i64 (n:Int)]) (T':=3) rfl JR (λF h9=>(hH _ _ h9.1).1.2.1) rfl)<|QI I (λw F hF h9=>Sf (x:=(el p.2 i.i).x) (a:=(el p.2 i.i).t.1) (n:=n) hF ((hH _ _ h9.1).2.1.2.1 _ htm).1 hn) (λc21=>Qb WZ (λb8=>QO (vs:=[_]) I I I XK I .here .h1 wO<|wG<|QG<|QG ?_))))
  refine QB<|QA (QH I V8 Jf)<|QA (Qg I Jf .u1 (.skip (.skip (.skip (.skip .h1)))))<|QA (Qh I Q2)<|wE I<|wG<|QU<|JU (ι:=TsJ (el p.2 i.i).t.2.length) [(0,_),(2,_),(3,_),(4,_),(8,_),(12,_),(13,_),(14,_),(23,_),(24,_)] (λi2=>[(25,.int .i64 ((i2.i:Nat):Int))]) (λi2=>(b8,.cells [.slice i2.y.1.q i2.y.1.n i2.y.1.cap].toArray 173 (0,0))::(b7,.cells (V1 (el p.2 i.i)).toArray 263 (0,0))::B i.s) (λi2 F=>J9 F i2.y.1 i2.y.2 (Wj (el p.2 i.i).t.1 (el p.2 i.i).t.2 ((e0::ls).map VL.q) n i2.i)) (λi2=>(el p.2 i.i).t.2.length - i2.i) (⟨0,c21,aD _⟩) wX wO wK wk (λi2=>?_)
  simp only[aa,ae]
  have hj:=i2.le
  refine wI<|QA (QZ I I I)<|wG<|QG ?_
  refine QR I (λhc=>?_) (λhc=>?_)
  ·
   have hlt2:i2.i<(el p.2 i.i).t.2.length:=by have:=wM hc;omega
   have hk12:0<=Qf (el p.2 i.i).t.2 i2.i/\Qf (el p.2 i.i).t.2 i2.i<=1000:=by rw[KD hlt2];exact ho.1.2 _ (Q4 hlt2)
   refine QQ<|QC<|QG<|QU<|wJ I<|QA (Q9 (n:=(el p.2 i.i).r.n) (i2.i) (λF h9=>(((hH _ _ h9.1.1.1).2.1.2.1 _ htm).2).1) rfl rfl Q2 JR O)<|QA (Jd (n:=(el p.2 i.i).r.n) ((i2.i)*1) (λF h9=>(((hH _ _ h9.1.1.1).2.1.2.1 _ htm).2).1) O rfl JR (XR (o:=(el p.2 i.i).t.2) O))<|wF I<|wH I<|wI<|QA (F7 (c:=#[.slice (some ⟨e0.b,0,none⟩) (n+1) e0.c]) (T':=173) (vs:=[_]) I XK (λF h9=>(hH _ _ h9.1.1.1).1.2.2.1) rfl (λj v hv=>by rw[aM];simpa using hv))<|Qb WZ (λb11=>QO (vs:=[_]) I I I XK I .here .h1 ⟨rfl,trivial⟩<|QE<|QC ?_)
   refine Lx (ι:=VL) [(0,_),(2,_),(3,_),(4,_),(8,_),(10,_),(11,_),(12,_),(13,_),(14,_),(23,_),(24,_),(25,_)] (λxv=>[]) (λxv=>(b11,.cells [.slice (some ⟨xv.b,0,none⟩) (n+1) xv.c].toArray 173 (0,0))::(b8,.cells [.slice i2.y.1.q i2.y.1.n i2.y.1.cap].toArray 173 (0,0))::(b7,.cells (V1 (el p.2 i.i)).toArray 263 (0,0))::B i.s) (λxv F=>xv=el (e0::ls) i2.i) ⟨rfl,rfl,rfl,rfl,rfl,rfl,rfl,rfl,rfl,rfl,rfl,rfl,rfl,trivial⟩ ?_ ?_
   ·
    refine wJ I<|QA (QZ I I I)<|QE<|QC ?_
    refine QR I (λhc=>?_) (λhc=>?_)
    ·
     have hv0:0<i2.i:=by have:=wM hc;omega
     refine JO (.cons _ (.cons_cons _ (.cons_cons _ wK))) mixed y0<|QK (Z2 (c:=#[.slice (some ⟨bv,0,none⟩) ls.length cv]) (T':=163) rfl QA0 (λF h9=>(hH _ _ h9.1.1.1).1.2.2.2) rfl)<|QK (QD I)<|QK (Xw I I O)<|QK (JG (i:=i2.i - 1) rfl wA GP XK O)<|QK (QH I Xg JE) ?_
     obtain⟨fv,hfv⟩:=C7 (hV i.s)
     refine QK (V4 (v:=.slice (some ⟨(el ls (i2.i - 1)).b,0,none⟩) (n+1) (el ls (i2.i - 1)).c) rfl JE (.there (.there hfv)) (by rw[show 0+(i2.i - 1)*1+0=(i2.i - 1)*1 by omega];exact X8 (f:=λe:VL=>Value.slice (some ⟨e.b,0,none⟩) (n+1) e.c) (show i2.i - 1<ls.length by omega)))<|QK (Z2 (c:=#[.int .i64 (n:Int)]) (T':=3) rfl JR (λF h9=>(hH _ _ h9.1.1.1).1.2.1) rfl)<|QK (Qu I I O)<|QK (N8 (n+1) rfl rfl wA JN Qi (hB i.s _ (ab _ (Q4 (show i2.i - 1<ls.length by omega)))).hc)<|QK (Qv I y8 WZ (.cons (vs:=[_]) I I I .h1 .nil))<|JV (vs:=[_]) I I I XK I .here (.cons_cons _ (.cons_cons _ wK)) wi .h1 wO<|Q6 ?_
     exact Zq (el ls (i2.i - 1)) ⟨rfl,rfl,rfl,rfl,rfl,rfl,rfl,rfl,rfl,rfl,rfl,rfl,rfl,trivial⟩ wK (λF h9=>⟨⟨⟨⟨h9.1.1.1,h9.1.1.2⟩,h9.1.2⟩,h9.2⟩,(by rw[show i2.i=(i2.i - 1)+1 by omega];rfl)⟩)
    ·
     have hv0:¬0<i2.i:=by have:=wN hc;omega
     refine QQ ?_
     exact Zq (e0) ⟨rfl,rfl,rfl,rfl,rfl,rfl,rfl,rfl,rfl,rfl,rfl,rfl,rfl,trivial⟩ wK (λF h9=>⟨⟨⟨⟨h9.1.1.1,h9.1.1.2⟩,h9.1.2⟩,h9.2⟩,(by rw[show i2.i=0 by omega];rfl)⟩)
   ·intro xv
    simp only[aa,ae]
    refine XQ _ (λw F hF h=>h.2) (λhxe=>?_)
    have hxm:xv∈e0::ls:=by rw[hxe];exact Q4 wg
    have hxi:=hB i.s _ hxm
    have hxq:xv.l.map (·.2)=el ((e0::ls).map VL.q) i2.i:=by rw[hxe,JK (show i2.i<(e0::ls).length by simp;omega),JK (show i2.i<((e0::ls).map VL.q).length by omega),bm];rfl
    refine wJ I<|wE I<|wG<|QU<|JU (ι:=TsJ (Qf (el p.2 i.i).t.2 i2.i).toNat) [(0,_),(2,_),(3,_),(4,_),(8,_),(11,_),(12,_),(13,_),(14,_),(23,_),(24,_),(25,_),(43,_)] (λi3=>[(44,.int .i64 ((i3.i:Nat):Int))]) (λi3=>(b11,.cells [.slice (some ⟨xv.b,0,none⟩) (n+1) xv.c].toArray 173 (0,0))::(b8,.cells [.slice i3.y.1.q i3.y.1.n i3.y.1.cap].toArray 173 (0,0))::(b7,.cells (V1 (el p.2 i.i)).toArray 263 (0,0))::B i.s) (λi3 F=>J9 F i3.y.1 i3.y.2 (Dp (Wj (el p.2 i.i).t.1 (el p.2 i.i).t.2 ((e0::ls).map VL.q) n i2.i) (el ((e0::ls).map VL.q) i2.i) i3.i)) (λi3=>(Qf (el p.2 i.i).t.2 i2.i).toNat - i3.i) (⟨0,i2.y,aD _⟩) ⟨rfl,rfl,rfl,rfl,rfl,rfl,rfl,rfl,rfl,rfl,rfl,rfl,rfl,trivial⟩ wO wK (λ_ h=>h.1.2) (λi3=>?_)
    simp only[aa,ae]
    have hk3:=i3.le
    refine XQ _ (λw F hF h=>eZ h.2.len h.2.YZ) (λh3p=>?_)
    obtain⟨hyl,hyv⟩:=h3p
    have hyn:i3.y.1.n=n+1:=by rw[<-hyv,Ge,Yn]
    refine wI<|QA (QZ I I I)<|wG<|QG ?_
    refine QR I (λhc=>?_) (λhc=>?_)
    ·
     have hlt3:i3.i<(Qf (el p.2 i.i).t.2 i2.i).toNat:=by have:=wM hc;omega
     refine QQ<|QC<|QG<|QU<|QB<|QA (QJ (vs:=[_]) I XK .u1 .h1 rfl)<|QA (QJ (vs:=[_]) I XK .here .h1 rfl)<|XX I (eJ _) (dc (ra:=i3.y.1) (la:=i3.y.2) (va:=Dp (Wj (el p.2 i.i).t.1 (el p.2 i.i).t.2 ((e0::ls).map VL.q) n i2.i) (el ((e0::ls).map VL.q) i2.i) i3.i) (vb:=el ((e0::ls).map VL.q) i2.i) (bb:=xv.b) (nb:=n+1) (cb:=xv.c) (lb:=xv.l) wk ⟨hxi.hm.choose,ab _ (ab _ (ab _ hxi.hm.choose_spec)),hxi.hl⟩ hxq (λF h9=>(hH _ _ h9.1.1.1.1.1).2.2 _ hxm) hyl hyv O O (ho.2 _ hlt2 _ hlt3)) (λc48=>QO (vs:=[_]) I I I XK I .u1 .h1 wO<|QE<|Qk<|QC<|QB<|QA (Qu I I O)<|wE I<|QE ?_)
     exact Ql (⟨i3.i+1,c48,hlt3⟩) (by show(Qf (el p.2 i.i).t.2 i2.i).toNat - (i3.i+1)<(Qf (el p.2 i.i).t.2 i2.i).toNat - i3.i;omega) ⟨rfl,rfl,rfl,rfl,rfl,rfl,rfl,rfl,rfl,rfl,rfl,rfl,rfl,rfl,trivial⟩ wK (λF ⟨⟨⟨⟨⟨⟨hs0,hs1⟩,h21⟩,hY⟩,hxe_⟩,hZ⟩,h48⟩=>⟨⟨⟨⟨⟨hs0,hs1⟩,h21⟩,hY⟩,hxe_⟩,by show J9 F c48.1 c48.2 (Dp _ _ (i3.i+1));rw[Tr];exact h48⟩)
    ·
     have hge3:i3.i=(Qf (el p.2 i.i).t.2 i2.i).toNat:=by have:=wN hc;omega
     refine Qz ?_
     repeat (first | refine QW ?_ | refine QP wc ?_)
     refine QX<|Qk<|QC<|QB<|QA (Qu I I O)<|wE I<|QE ?_
     exact Ql (⟨i2.i+1,i3.y,hlt2⟩) (by show(el p.2 i.i).t.2.length - (i2.i+1)<(el p.2 i.i).t.2.length - i2.i;omega) wY (.cons _ wK) (λF h9=>⟨⟨⟨h9.1.1.1.1.1,h9.1.1.1.1.2⟩,h9.1.1.1.2⟩,by show J9 F i3.y.1 i3.y.2 (Wj _ _ _ _ (i2.i+1));have e:=h9.2;rw[hge3]at e;rw[T8];exact e⟩)
  ·
   have hge2:i2.i=(el p.2 i.i).t.2.length:=by have:=wN hc;omega
   refine Qz ?_
   repeat (first | refine QW ?_ | refine QP wc ?_)
   refine QX<|QC<|QG<|xY<|QAw (QD I)<|QAw (QJ (vs:=[_]) I XK .here .h1 rfl) ?_
   refine xb (E':=λs':{ s:ι // pos s=pos i.s+1 }=>⟨w0,F0,(b8,.cells [.slice i2.y.1.q i2.y.1.n i2.y.1.cap].toArray 173 (0,0))::(b7,.cells (V1 (el p.2 i.i)).toArray 263 (0,0))::B s'.1,λF=>H s0 F/\H s'.1 F⟩) I I (λW hW=>?_) (λs53=>?_)
   ·obtain⟨fn,tmps,assign,body,e1,e2⟩:=hround (λF=>H s0 F) [(b8,.cells [.slice i2.y.1.q i2.y.1.n i2.y.1.cap].toArray 173 (0,0)),(b7,.cells (V1 (el p.2 i.i)).toArray 263 (0,0))] i.s i.i i2.y W hlt i.hp ((hW.perm (aE (l₁:=[_,_]))).BY λF h=>⟨h.1.1,by have e:=h.2;have e1:i2.i=((e0::ls).map VL.q).length:=hge2.trans hol;rw[e1]at e;exact e⟩)
    exact⟨fn,tmps,assign,body,e1,e2.mono λe w' ⟨h2,s',h3,h4⟩=>⟨h2,⟨s',h3⟩,h4.perm (aE (l₂:=[_,_]))⟩⟩
   refine QCU (λ⟨a,w,h⟩=>by obtain⟨c,e,_⟩:=h;cases e) rfl<|QA (YN rfl)<|QE<|QC ?_
   refine QR I (λhc=>?_) (λhc=>?_)
   ·exact absurd hc wa
   ·
    refine QQ<|Qk<|QC<|QB<|QA (Qu I I O)<|wE I<|QE ?_
    exact Ql (⟨i.i+1,s53.1,hlt,by rw[s53.2,i.hp]⟩) (by show p.2.length - (i.i+1)<p.2.length - i.i;omega) wU (.cons _ (.cons _ wK)) wi
 ·
  have hge:i.i=p.2.length:=by have:=wN hc;omega
  refine Qz ?_
  repeat (first | refine QW ?_ | refine QP wc ?_)
  refine QX<|M9 ?_
  exact KQ ((⟨i.s,by rw[i.hp,hge]⟩:{ s:ι // pos s=p.2.length })) I .nil (rfl) (λw h=>h.imp wK wk)
theorem de{p:Vn}{n:Nat}{v1 v2:Value}(hF:Fits F w)(h1:v1.oneCell'=true/\v1.cells=[v1].toArray)(h2:v2.oneCell'=true/\v2.cells=[v2].toArray):
  QS Tryz.prog 206 [p.1.v,.int .i64 (n:Int),.agg #[v1],v2] w F (λ(c:Nat×Nat×Nat×Nat)=>.func (.func 275) #[] #[.pointer (some ⟨c.1,0,none⟩),.pointer (some ⟨c.2.1,0,none⟩),.pointer (some ⟨c.2.2.1,0,none⟩),.pointer (some ⟨c.2.2.2,0,none⟩)]) (λc F=>F c.1=some (#[p.1.v],190)/\F c.2.1=some (#[.int .i64 (n:Int)],3)/\F c.2.2.1=some (#[v1],173)/\F c.2.2.2=some (#[v2],163)):=by
 refine QS.intro (G:=λF=>True) Tryz.func206 rfl wc rfl rfl hF wh<|wI<|Qo rfl (vs:=[_]) rfl (λb4=>Qo rfl (vs:=[_]) rfl (λb5=>Qo rfl (vs:=[_]) rfl (λb6=>Qo (vs:=[v2]) rfl h2.2 (λb7=>wH rfl<|wI<|VR (b:=b4) .u3<|VR (b:=b5) .u2<|VR (b:=b6) .u1<|VR (b:=b7) .here<|QA (VM rfl)<|wH rfl<|QY ?_))))
 exact QV ((b4,b5,b6,b7)) I (wB I) (rfl) (λF h9=>⟨h9.1.1.1.2,h9.1.1.2,h9.1.2,h9.2⟩)
section
variable[Dr]{P:Program}{Q:Exit->Act->World->Prop}{N:Nat}{m:Sl}{w0:World}{F0:Gs}{bs:List (Nat×Obj)}{G:Gs->Prop}
@[reducible] def VF (Ds:List Nat):Df:=⟨Ds.map λD=>{ target:=.collected D,args:=#[] }⟩
def dfB(Ds:List Nat):List (Nat×Obj):=Ds.map λD=>(D,.deferred (some []))
def gn{ι:Type}(dfs:ι->Df)(N:Nat)(w0:World)(F0:Gs)(M:ι->Sl)(B:ι->List (Nat×Obj))(H:ι->Gs->Prop)(μ:ι->Nat)(i:ι)(a:Act)(w:World):Prop :=
 ∃j,μ j<μ i/\JP (df:=dfs j) N (M j) a/\St ⟨w0,F0,B j,H j⟩ w
theorem Lm(dfs:ι->Df){c:Code}(K:Sl)(M:ι->Sl)(B:ι->List (Nat×Obj))(R:ι->Gs->Prop)(μ:ι->Nat)(i0:ι)(hd:d0=dfs i0)
  (hk:KP m K) (hm:KP m (M i0)) (hb:(B i0).Sublist bs) (hg:∀F,G F->R i0 F)
  (round:∀i,J (df:=dfs i) P c (Exit.then (gn dfs N w0 F0 (λi=>K++M i) B (λi F=>G F/\R i F) μ i) Q) N (K++M i) ⟨w0,F0,B i,λF=>G F/\R i F⟩):J (df:=d0) P (.loop c) Q N m ⟨w0,F0,bs,G⟩:=by
 subst hd
 intro a w ha hw
 refine wp_loop_ghost (λn a w=>∃i,μ i=n/\JP (df:=dfs i) N (K++M i) a/\St ⟨w0,F0,B i,λF=>G F/\R i F⟩ w) (μ i0) ⟨i0,rfl,JP.sub (df:=dfs i0) ha (hk.append hm),hw.imp hb λF h=>⟨h,hg F h⟩⟩ ?_
 rintro n a w ⟨i,rfl,ha,hw⟩
 refine wp_mono (round i a w ha hw) ?_
 intro e a' w' h
 cases e with
 |normal=>obtain⟨j,h1,h2,h3⟩:=h;exact⟨μ j,h1,j,rfl,h2,h3⟩
 |_=>exact h
theorem Lt{dfs:ι->Df}{M:ι->Sl}{B:ι->List (Nat×Obj)}{H:ι->Gs->Prop}{μ:ι->Nat}{i:ι}(j:ι)(hd:d0=dfs j)(hμ:μ j<μ i)
  (hm:KP m (M j)) (hb:(B j).Sublist bs) (hg:∀F,G F->H j F):Fin (df:=d0) (Exit.then (gn dfs N w0 F0 M B H μ i) Q) .normal N m ⟨w0,F0,bs,G⟩:=by
 subst hd
 exact λa w ha hw=>⟨j,hμ,JP.sub (df:=dfs j) ha hm,hw.imp hb hg⟩
theorem FE{Ds:List Nat}{g:Operand}{gf:Nat}{lb:Array Value}(B:ι->List (Nat×Obj))(R:ι->Gs->Prop)(Dn:ι->Prop)(hd:d0=VF Ds)(hg:ev m g=some (.func (.func gf) #[] lb))(he:Enters P gf)
  (hcall:∀(L D:Nat) (r:Loop) (w:World),Li N m ps assign body r->St ⟨w0,F0,(L,.loop r)::(D,.deferred (some []))::bs,G⟩ w ->
   Calls P gf (#[.func (.yield L) #[] #[]]++lb) w λe w'=>(∃v,e = .returned v)/\∃s,Dn s/\St ⟨w0,F0,(L,.loop r)::(D,.deferred (some []))::B s,λF=>G F/\R s F⟩ w')
  (k:∀D s,Dn s->Fin (df:=VF (D::Ds)) Q .normal N m ⟨w0,F0,(D,.deferred (some []))::B s,λF=>G F/\R s F⟩):J (df:=d0) P (.rangeFunc g ps assign body) Q N m ⟨w0,F0,bs,G⟩:=by
 subst hd
 intro a w ha hw
 refine(wpIn_wide (n:=0)).1 (wpIn_rangeFunc λfn _=>?_)
 obtain⟨r,hr⟩:∃r:Loop,r={ state:=.ready,pending:=none,fn,tmps:=a.tmps,params:=ps,assign,body,defers:=w.heap.size }:=⟨_,rfl⟩
 have hs1:St ⟨w0,F0,(w.heap.size+1,.loop r)::(w.heap.size,.deferred (some []))::bs,G⟩ ((w.alloc (.deferred (some []))).alloc (.loop r)):=by
  have h1:=hw.alloc (.deferred (some [])) (λc fr e=>by cases e)
  have h2:=h1.alloc (.loop r) (λc fr e=>by cases e)
  rwa [eN]at h2
 have hd:a.defers=Ds.map λD=>{ target:=.collected D,args:=#[] }:=JP.df (df:=VF Ds) ha
 have hsz:a.tmps.size=N:=JP.size (df:=VF Ds) (a:=a) ha
 have hgt:∀t v,look m t=some v->a.tmps[t]?=some v:=λt v h=>JP.get (df:=VF Ds) (a:=a) ha t v h
 refine⟨w.heap.size+1,[{ target:=.collected w.heap.size,args:=#[] }],(w.alloc (.deferred (some []))).alloc (.loop r),{ target:=.fn (.func gf) lb,args:=#[.func (.yield (w.heap.size+1)) #[] #[]] },(w.alloc (.deferred (some []))).alloc (.loop r),gf,
  #[.func (.yield (w.heap.size+1)) #[] #[]]++lb,(w.alloc (.deferred (some []))).alloc (.loop r),?_,?_,λ_ _=>trivial,?_,λe=>(by cases e),?_⟩
 ·rw[hr];exact run_enterLoop_outer _ _ _ _ _
 ·simp only[resolve,JP.ev (df:=VF Ds) ha hg]
  simp[go_sem]
 ·simpa[invoke,go_sem]using he _ _
 ·refine(callsIn_wide.2 (hcall _ _ r _ ⟨by rw[hr],by rw[hr],by rw[hr],by rw[hr],by rw[hr],⟨by rw[hr];exact hsz,rfl,by rw[hr];exact hgt⟩⟩ hs1)).mono ?_
  rintro e w' ⟨⟨v,rfl⟩,s,hdn,hs⟩
  have hl:w'.heap[w.heap.size+1]?=some (.loop r):=hs.own .here
  refine⟨none,w'.putObj (w.heap.size+1) (.loop { r with state:=.exhausted }),?_,k w.heap.size s hdn _ _ (JP.mk (df:=VF (w.heap.size::Ds)) (JP.size (df:=VF Ds) (a:=a) ha) ?_ (λt v h=>JP.get (df:=VF Ds) (a:=a) ha t v h)) ?_⟩
  ·rw[run_endLoop hl (by rw[hr];intro e;cases e)]
   rw[hr]
  ·show _++a.defers=_
   rw[hd];rfl
  ·exact(hs.put (.loop { r with state:=.exhausted }) .here (λc fr e=>by cases e)).imp (.cons _ wK) λ_ h=>h
theorem QCS{c:Code}(h:∀G':Gs->Prop,(∀F,G' F->G F)->J (df:=d0) P c Q N m ⟨w0,F0,bs,G'⟩):J (df:=d0) P c Q N m ⟨w0,F0,bs,G⟩:=h G λ_ h=>h
theorem cQ(Ds:List Nat){d0:Df}(hd:d0=VF Ds)(h:Fin (df:=VE) (bodyPost P fn R) .ret N m ⟨w0,F0,bs,G⟩):Fin (df:=d0) (bodyPostM aj 0 P fn R) .ret N m ⟨w0,F0,dfB Ds++bs,G⟩:=by
 subst hd
 intro a w ha hw
 have hdf:a.defers=Ds.map λD=>{ target:=.collected D,args:=#[] }:=JP.df (df:=VF Ds) ha
 show LeavesInM aj 0 P fn a.tmps R a.defers .returning w
 rw[hdf]
 have:∀(Ds:List Nat) (w:World),St ⟨w0,F0,dfB Ds++bs,G⟩ w->LeavesInM aj 0 P fn a.tmps R (Ds.map λD=>{ target:=.collected D,args:=#[] }) .returning w:=by
  intro Ds
  induction Ds with
  |nil =>
   intro w hw
   have h1:=h { tmps:=a.tmps,defers:=[] } w (JP.mk (df:=VE) (JP.size (df:=VF _) (a:=a) ha) rfl (λt v h=>JP.get (df:=VF _) (a:=a) ha t v h)) hw
   obtain⟨_,v,h2,h3⟩:=h1
   exact⟨v,h2,h3⟩
  |cons D Ds ih =>
   intro w hw
   refine⟨λe=>(by cases e),.inl ⟨D,_,rfl,run_takeDeferred (hw.own .here),ih _ ?_⟩⟩
   exact(hw.put (.deferred none) .here (λc fr e=>by cases e)).imp (.cons _ wK) λ_ h=>h
 exact this Ds w hw
end
structure VB where
 b:Nat
 c:Nat
 l:List Y9
 rest:List Value
instance :Inhabited VB:=⟨⟨0,0,[],[]⟩⟩
def VB.box(e:VB):Nat×Obj:=(e.b,.cells (Xh e.l++e.rest).toArray 168 (0,0))
def VB.vl(e:VB):VL:=⟨e.b,e.c,e.l⟩
@[reducible] def VB.sl (k:Nat) (e:VB):Value:=.slice (some ⟨e.b,0,none⟩) k e.c
structure VB.Ok(k:Nat)(e:VB):Prop where
 hl:e.l.length=k
 hr:(Xh e.l).length+e.rest.length=e.c*8
 hc:k<=e.c
 hm:e.c<=maxLen
theorem VB.Ok.own{e:VB}(h:e.Ok k):Qx 168 8 (e.sl k) k (Xh e.l) [e.box]:=.some (by rw[Ga,h.hl]) h.hr h.hc h.hm
theorem kD{v:Value}{ob:List (Nat×Obj)}(h:Qx 168 8 v k (Xh l) ob)(hk:0<k):∃e:VB,e.l=l/\e.Ok k/\v=e.sl k/\ob=[e.box]:=by
 generalize hcs:Xh l=cs at h
 cases h with
 |nil=>exact absurd hk (Nat.lt_irrefl 0)
 |some h1 h2 h3 h4 =>
  rename_i b cap rest
  subst hcs
  refine⟨⟨b,cap,l,rest⟩,rfl,⟨?_,h2,h3,h4⟩,rfl,rfl⟩
  rw[Ga]at h1;show l.length=k;omega
theorem yr{vs:List Value}{z v:Value}(h:vs.length=i)(hi:i<n):Kb (vs++Xb [z] (n - i)) (0+i*1+0) [v] ((vs++[v])++Xb [z] (n - (i+1))):=by
 rw[show n - i=(n - (i+1))+1 by omega,Xb,ax,show 0+i*1+0=vs.length by omega]
 exact PV I
theorem QBQ{z:List Value}(c:Sp)(x:Rat×Rat)(hz:z.length=8)(h:l.length=i)(hi:i<n):Kb (Xh l++Xb z (n - i)) (0+i*8) (Xs c) (Xh (l++[(c,x)])++Xb z (n - (i+1))):=by
 rw[show n - i=(n - (i+1))+1 by omega,Xb,MX,ax,show 0+i*8=(Xh l).length by rw[Ga];omega]
 exact PV hz
theorem Ti(e:Y9)(l:List Y9):Xh (e::l)=Xs e.1++Xh l:=rfl
theorem Fo(l m:List Y9):Xh (l++m)=Xh l++Xh m:=by unfold Xh;rw[aK]
theorem yt{rest:List Value}(h:i<l.length)(c:Sp)(x:Rat×Rat):Kb (Xh l++rest) (0+i*8) (Xs c) (Xh (l.set i (c,x))++rest):=by
 have e1:l=l.take i++l[i]::l.drop (i+1):=by rw[List.getElem_cons_drop];simp
 have e2:l.set i (c,x)=l.take i++(c,x)::l.drop (i+1):=by rw[List.set_eq_take_append_cons_drop,if_pos h]
 rw[e2]
 conv=>arg 1;rw[e1]
 rw[Fo,Fo,Ti,Ti,ax,ax,ax,ax,show 0+i*8=(Xh (l.take i)).length by rw[Ga,List.length_take];omega]
 exact PV I
theorem QBP{a b:List Value}{u v:Value}(h:a.length=i):Kb (a++u::b) (0+i*1+0) [v] ((a++[v])++b):=by
 rw[ax,show 0+i*1+0=a.length by omega]
 exact PV (z:=[u]) I
theorem Mg(X M Y:List α)(a:α):(a::(X++(M++Y))).Perm (X++(M++a::Y)):=by
 rw[<-ax,<-ax];exact List.perm_middle.symm
theorem YU.set{c:Sp}{x:Rat×Rat}(h:YU F l)(k:Jk F c x):YU F (l.set i (c,x)):=λe he=>by
 rcases List.mem_or_eq_of_mem_set he with he | rfl
 ·exact h e he
 ·exact k
theorem gC(t:Rat×Rat):(Ye 0 0).set 0 t=Z6 t 0:=rfl
theorem uw(t:Rat×Rat){k:Nat}(h:0<k):((Ye 0 k).set 0 t).set 1 (((1:Int):Rat),((1:Int):Rat))=Z6 t k:=by
 obtain⟨n,rfl⟩:∃n,k=n+1:=⟨k - 1,O⟩
 rfl
structure FB(rs:List (List Tm))(t:Rat×Rat)(vb:List (Rat×Rat))(n:Nat):Prop where
 tm:∀k,k<n->∀i,i<rs.length->QE2 (el rs i) (Z6 t k::JX rs t vb k) k
 mn:∀k,k<n->∀i,i<rs.length->∀u∈el rs i,∀x∈Wj u.1 u.2 (Z6 t k::JX rs t vb k) k (vb.length+1),Xj x 100000000
 sm:∀k,k<n->∀i,i<rs.length->∀j,∀x∈Kf ((el rs i).take j) (Z6 t k::JX rs t vb k) k,Xj x 100000000
 cf:∀k,k<n->∀i,i<rs.length->Xj (el (Kf (el rs i) (Z6 t k::JX rs t vb k) k) k) 20000000
theorem Rm{p:List Tm}{all:List (List (Rat×Rat))}(h:i<p.length):Kf (p.take (i+1)) all n=KK (Kf (p.take i) all n) (Wj (el p i).1 (el p i).2 all n all.length):=by
 unfold Kf;rw[XN h,aw];rfl
structure TaJ(vb:List (Rat×Rat)) where
 i:Nat
 es:List VB
 M:List (Nat×Obj)
 hM:M=es.map VB.box
 le:i<=vb.length
 len:es.length=i
 ok:∀e∈es,e.Ok 1
 hq:es.map (λe=>e.l.map (·.2))=(vb.take i).map λx=>[x]
structure TkJ(rs:List (List Tm))(t:Rat×Rat)(vb:List (Rat×Rat))(n:Nat) where
 k:Nat
 es:List VB
 M:List (Nat×Obj)
 Ds:List Nat
 hM:M=es.map VB.box
 le:k<=n
 len:es.length=vb.length
 ok:∀e∈es,e.Ok (k+1)
 hq:es.map (λe=>e.l.map (·.2))=JX rs t vb k
def nxQ(rs:List (List Tm))(t:Rat×Rat)(vb:List (Rat×Rat))(k i:Nat):Rat×Rat:=Jc (el (Kf (el rs i) (Z6 t k::JX rs t vb k) k) k) ((((k+1:Nat):Int):Rat)⁻¹,(((k+1:Nat):Int):Rat)⁻¹)
structure TrJ(f:Nat->Rat×Rat)(n:Nat) where
 i:Nat
 nx:List Y9
 Ds:List Nat
 le:i<=n
 len:nx.length=i
 hv:nx.map (·.2)=(ag i).map f
structure TsS(n:Nat) where
 i:Nat
 y:Sr×List Y9
 le:i<=n
structure TeJ(es:List VB)(k:Nat)(f:Nat->Rat×Rat) where
 i:Nat
 e1:List VB
 M1:List (Nat×Obj)
 M2:List (Nat×Obj)
 hM1:M1=e1.map VB.box
 hM2:M2=(es.drop i).map VB.box
 le:i<=es.length
 len:e1.length=i
 ok:∀e∈e1,e.Ok (k+2)
 hq:e1.map (λe=>e.l.map (·.2))=(ag i).map λj=>(el es j).l.map (·.2)++[f j]
theorem St.QAc:∀(es:List VB) {G:Gs->Prop},St ⟨w0,F0,bs++es.map VB.box,G⟩ w->St ⟨w0,F0,bs,λF=>G F/\∀e∈es,F e.b=some ((Xh e.l++e.rest).toArray,168)⟩ w
 |[],G,h=>by
  have:=h.BY (G':=λF=>G F/\∀e∈([]:List VB),F e.b=some ((Xh e.l++e.rest).toArray,168)) λF hF=>⟨hF,λ_ h=>by cases h⟩
  simpa using this
 |e::es,G,h=>by
  rw[aN]at h
  have h1:=St.freeze (pre:=bs) (post:=es.map VB.box) (b:=e.b) h
  exact(St.QAc es h1).BY λF hF=>⟨hF.1.1,λe' he=>by
   rcases List.mem_cons.1 he with rfl | he
   ·exact hF.1.2
   ·exact hF.2 e' he⟩
section
variable[Dr][df:Df]{P:Program}{Q:Exit->Act->World->Prop}{N:Nat}{m:Sl}{E:Env}
theorem cL{c:Code}(h:J P c (fy Q) N m E):J P (.scope c) Q N m E:=λa w ha hw=>wp_scope_straight (h a w ha hw)
theorem cN{l:Nat}(h:Fin Q .normal N m E):J P (.label l) Q N m E:=λa w ha hw=>wp_label (h a w ha hw)
theorem QCW(h:Fin Q .ret N m E):Fin (fy Q) .ret N m E:=h
end
theorem uO{q:Option Addr}{f:Nat}{p:Y9->Bool}(hF:Fits F w)(hg:∀F F',Gs.le F F'->G0 F->G0 F')(h0:G0 F)(hR:Qy F q n 8 (Xh l))(hn:l.length=n)(hb:n<=1000000)(hc:∀e∈l,∀w F,Fits F w->G0 F->Qe Tryz.prog f (c1++[e.1.v]++c2) w F (.bool (p e))):QS Tryz.prog 303 [.slice q n c,.func (.func f) c1.toArray c2.toArray] w F (λ(k:Int)=>.int .i64 k) (λk _=>decide (k>=0)=l.any p):=by
 refine QS.intro (G:=λF=>G0 F/\Qy F q n 8 (Xh l)) Tryz.func303 rfl wc rfl rfl hF (λF' hF'=>⟨hg F F' hF' h0,hR.le hF'⟩)<|wI<|wH rfl<|QG<|wJ rfl<|QA (Qh rfl JN)<|wE rfl<|wG<|QU<|ZK (ι:=Sx l p) [(0,_),(1,_),(7,_)] (λi=>[(8,.int .i64 ((i.i:Nat):Int))]) (λi=>l.length - i.i) (Sx.start _ _) wQ wO (λi=>?_)
 simp only[aa,ae]
 have hi:=i.le
 refine wI<|QA (QZ I I I)<|wG<|QG ?_
 refine QR I (λhc2=>?_) (λhc2=>?_)
 ·
  have hlt:i.i<l.length:=by have:=wM hc2;omega
  have hem:=Q4 hlt
  refine QQ<|QC<|QG<|QU<|wJ I<|wH I<|wJ I<|wE I<|wE I<|QA (Q9 (n:=n) i.i wk rfl rfl JN Qi O)<|QA (Ja (n:=n) (vs:=[.int .i64 (el l i.i).1.lo.n.s,.slice (el l i.i).1.lo.n.q (el l i.i).1.lo.n.n (el l i.i).1.lo.n.cap,.int .i64 (el l i.i).1.lo.d.s,.slice (el l i.i).1.lo.d.q (el l i.i).1.lo.d.n (el l i.i).1.lo.d.cap,.int .i64 (el l i.i).1.hi.n.s,.slice (el l i.i).1.hi.n.q (el l i.i).1.hi.n.n (el l i.i).1.hi.n.cap,.int .i64 (el l i.i).1.hi.d.s,.slice (el l i.i).1.hi.d.q (el l i.i).1.hi.d.n (el l i.i).1.hi.d.cap]) ((i.i)*8) wk O rfl Qi I (λj v hv=>Jm (f:=(λe=>Xs e.1)) (l:=l) (λ_=>rfl) O hv))<|Gu (c1:=c1) (c2:=c2) rfl rfl (λw F hF h9=>hc _ hem w F hF h9.1) (λ_=>QE<|QC ?_)
  refine QR I (λhc2=>?_) (λhc2=>?_)
  ·
   have hc16:=hc2
   refine wJ I<|wH I<|QY ?_
   repeat (first | refine JA ?_ | refine Q5 ?_)
   exact QV (((i.i:Nat):Int)) I (wB I) (rfl) (λF _=>by rw[decide_eq_true O,List.any_eq_true.2 ⟨_,hem,hc16⟩])
  ·
   have hc16:=hc2
   refine QQ<|Qk<|QC<|QB<|QA (Qu I I O)<|wE I<|QE ?_
   exact Ql (i.next hlt hc16) (by show l.length - (i.i+1)<l.length - i.i;omega) wR wK wj
 ·
  have hge:l.length<=i.i:=by have:=wN hc2;omega
  refine Qz ?_
  repeat (first | refine QW ?_ | refine QP wc ?_)
  refine QX<|QC<|wI<|wH I<|QY ?_
  exact QV ((-1:Int)) I (wB I) (rfl) (λF _=>by rw[Bool.eq_false_iff.2 (i.stop hge)];rfl)
theorem vt{q:Option Addr}{f:Nat}{p:Y9->Bool}(hF:Fits F w)(hg:∀F F',Gs.le F F'->G0 F->G0 F')(h0:G0 F)(hR:Qy F q n 8 (Xh l))(hn:l.length=n)(hb:n<=1000000)(hc:∀e∈l,∀w F,Fits F w->G0 F->Qe Tryz.prog f (c1++[e.1.v]++c2) w F (.bool (p e))):Qe Tryz.prog 251 [.slice q n c,.func (.func f) c1.toArray c2.toArray] w F (.bool (l.any p)):=by
 refine QS.intro (G:=λF=>G0 F/\Qy F q n 8 (Xh l)) Tryz.func251 rfl wc rfl rfl hF (λF' hF'=>⟨hg F F' hF' h0,hR.le hF'⟩)<|wI<|wH rfl<|wJ rfl<|wE rfl<|QI rfl (λw F hF h9=>uO (p:=p) hF hg h9.1 h9.2 hn hb hc) (λc7=>JQ _ (λw F hF h=>h.2) (λh7=>QA (QZ rfl rfl rfl)<|wH rfl<|QY ?_))
 exact wL I I (congrArg ah h7.symm) wh
theorem uP{q:Option Addr}{f:Nat}{l:List (Fr×Rat)}{p:(Fr×Rat)->Bool}(hF:Fits F w)(hg:∀F F',Gs.le F F'->G0 F->G0 F')(h0:G0 F)(hR:Qy F q n 4 (l.flatMap λe=>Ku e.1))(hn:l.length=n)(hb:n<=1000000)(hc:∀e∈l,∀w F,Fits F w->G0 F->Qe Tryz.prog f (c1++[e.1.v]++c2) w F (.bool (p e))):QS Tryz.prog 186 [.slice q n c,.func (.func f) c1.toArray c2.toArray] w F (λ(k:Int)=>.int .i64 k) (λk _=>decide (k>=0)=l.any p):=by
 refine QS.intro (G:=λF=>G0 F/\Qy F q n 4 (l.flatMap λe=>Ku e.1)) Tryz.func186 rfl wc rfl rfl hF (λF' hF'=>⟨hg F F' hF' h0,hR.le hF'⟩)<|wI<|wH rfl<|QG<|wJ rfl<|QA (Qh rfl XY)<|wE rfl<|wG<|QU<|ZK (ι:=Sx l p) [(0,_),(1,_),(7,_)] (λi=>[(8,.int .i64 ((i.i:Nat):Int))]) (λi=>l.length - i.i) (Sx.start _ _) wQ wO (λi=>?_)
 simp only[aa,ae]
 have hi:=i.le
 refine wI<|QA (QZ I I I)<|wG<|QG ?_
 refine QR I (λhc2=>?_) (λhc2=>?_)
 ·
  have hlt:i.i<l.length:=by have:=wM hc2;omega
  have hem:=Q4 hlt
  refine QQ<|QC<|QG<|QU<|wJ I<|wH I<|wJ I<|wE I<|wE I<|QA (Q9 (n:=n) i.i wk rfl rfl XY QL O)<|QA (Ja (n:=n) (vs:=[.int .i64 (el l i.i).1.n.s,.slice (el l i.i).1.n.q (el l i.i).1.n.n (el l i.i).1.n.cap,.int .i64 (el l i.i).1.d.s,.slice (el l i.i).1.d.q (el l i.i).1.d.n (el l i.i).1.d.cap]) ((i.i)*4) wk O rfl QL I (λj v hv=>Jm (f:=(λe=>Ku e.1)) (l:=l) (λ_=>rfl) O hv))<|Gu (c1:=c1) (c2:=c2) rfl rfl (λw F hF h9=>hc _ hem w F hF h9.1) (λ_=>QE<|QC ?_)
  refine QR I (λhc2=>?_) (λhc2=>?_)
  ·
   have hc16:=hc2
   refine wJ I<|wH I<|QY ?_
   repeat (first | refine JA ?_ | refine Q5 ?_)
   exact QV (((i.i:Nat):Int)) I (wB I) (rfl) (λF _=>by rw[decide_eq_true O,List.any_eq_true.2 ⟨_,hem,hc16⟩])
  ·
   have hc16:=hc2
   refine QQ<|Qk<|QC<|QB<|QA (Qu I I O)<|wE I<|QE ?_
   exact Ql (i.next hlt hc16) (by show l.length - (i.i+1)<l.length - i.i;omega) wR wK wj
 ·
  have hge:l.length<=i.i:=by have:=wN hc2;omega
  refine Qz ?_
  repeat (first | refine QW ?_ | refine QP wc ?_)
  refine QX<|QC<|wI<|wH I<|QY ?_
  exact QV ((-1:Int)) I (wB I) (rfl) (λF _=>by rw[Bool.eq_false_iff.2 (i.stop hge)];rfl)
theorem qd{q:Option Addr}{f:Nat}{l:List (Fr×Rat)}{p:(Fr×Rat)->Bool}(hF:Fits F w)(hg:∀F F',Gs.le F F'->G0 F->G0 F')(h0:G0 F)(hR:Qy F q n 4 (l.flatMap λe=>Ku e.1))(hn:l.length=n)(hb:n<=1000000)(hc:∀e∈l,∀w F,Fits F w->G0 F->Qe Tryz.prog f (c1++[e.1.v]++c2) w F (.bool (p e))):Qe Tryz.prog 92 [.slice q n c,.func (.func f) c1.toArray c2.toArray] w F (.bool (l.any p)):=by
 refine QS.intro (G:=λF=>G0 F/\Qy F q n 4 (l.flatMap λe=>Ku e.1)) Tryz.func92 rfl wc rfl rfl hF (λF' hF'=>⟨hg F F' hF' h0,hR.le hF'⟩)<|wI<|wH rfl<|wJ rfl<|wE rfl<|QI rfl (λw F hF h9=>uP (p:=p) hF hg h9.1 h9.2 hn hb hc) (λc7=>JQ _ (λw F hF h=>h.2) (λh7=>QA (QZ rfl rfl rfl)<|wH rfl<|QY ?_))
 exact wL I I (congrArg ah h7.symm) wh
def xk(c:Nat):Bool:=HQ c||(decide (48<=c)&&decide (c<=57))||c==95||c==39||c==35
def nmS(s:List UInt8):Bool:=s.all (λc=>xk c.toNat)&&decide (1<=s.length)&&decide (s.length<=32)
theorem IU(h:128<=c):xk c=false:=by
 unfold xk HQ
 simp;omega
def nsV(o:Option (Nat×Nat))(p:Nat):Value:=match o with
 |none=>.tuple #[.bool false]
 |some (c,_)=>.tuple #[.bool true,.int .i64 p,.int .i32 c]
theorem QEK(o:Option (Nat×Nat))(p:Nat):∃vs,nsV o p = .tuple vs/\vs[0]?=some (.bool o.isSome):=by
 cases o with
 |none=>exact⟨_,rfl,rfl⟩
 |some x=>exact⟨_,rfl,rfl⟩
def nsW(o:Option (Nat×Nat)):Nat:=match o with | none=>0 | some (_,w)=>w
def nsP(s:List UInt8)(p:Nat)(o:Option (Nat×Nat)):Prop:=match o with
 |none=>s.length<=p
 |some (c,wd)=>∃hi:p<s.length,(s[p].toNat<128/\c=s[p].toNat/\wd=1)\/(128<=s[p].toNat/\128<=c)
section
variable{P:Program}{Q:Exit->Act->World->Prop}{N:Nat}{m:Sl}{ops:Array Oper}{l:List Oper}{w0:World}{F0:Gs}{bs:List (Nat×Obj)}{G:Gs->Prop}{d:Nat}{ty:TypeId}{pos:String}{aft:Array Edge}
theorem Lp{x:Operand}{s:List UInt8}{p:Nat}(hx:ev m x=some (.pointer (some ⟨b,0,none⟩)))(ho:Own bs b (.stringIter ⟨s.toArray⟩ p) f)
  (k:∀o,nsP s p o->JS P ops Q l N ((d,nsV o p)::m) ⟨w0,F0,f (.stringIter ⟨s.toArray⟩ (p+nsW o)),G⟩) (hd:J5 N (some d)=true:=by rfl) :
  JS P ops Q (⟨some d,.next x true,ty,pos,aft,none⟩::l) N m ⟨w0,F0,bs,G⟩:=by
 rcases eE p s.length with hi | hi
 ·obtain⟨c,wd,hdec,hcase⟩:=j6 hi
  exact CS hx ho hi hdec (k (some (c,wd)) ⟨hi,hcase⟩) hd
 ·have h:=k none hi
  refine CU hx ho hi ?_ hd
  obtain⟨pre,post,e1,e2⟩:=ho.split
  rw[e2]at h
  rw[e1];exact h
end
theorem uV{s:List UInt8}(hF:Fits F w)(hl:s.length<=9223372036854775807):Qe Tryz.prog 198 [tx s] w F (.bool (nmS s)):=by
 refine QS.intro (G:=λF=>True) Tryz.func198 rfl wc rfl rfl hF wh<|wI<|wH rfl<|QG<|wJ rfl<|Ln rfl ZQ (λb7=>wG<|QU<|JU (ι:=EC s (λc=>xk c.toNat)) [(0,_),(7,_)] (λi=>[]) (λi=>[(b7,.stringIter ⟨s.toArray⟩ i.i)]) (λi F=>True) (λi=>s.length - i.i) (EC.start _ _) wP trivial wK wh (λi=>?_))
 simp only[aa,ae]
 have hle:=i.le
 refine wI<|Lp (s:=s) (p:=i.i) rfl .here (λo ho=>?_)
 obtain⟨nv,hnv,hn0⟩:=QEK o i.i
 refine QA (v:=.bool o.isSome) (QT (vs:=nv) (by rw[<-hnv];rfl) hn0)<|wG<|QG ?_
 refine QR I (λhc=>?_) (λhc=>?_)
 ·
  obtain⟨⟨c,wd⟩,rfl⟩:∃x,o=some x:=by
   cases o with
   |none=>cases hc
   |some x=>exact⟨x,rfl⟩
  obtain⟨hi,hcase⟩:=ho
  refine QQ<|QC<|QU<|wI<|QA (QT I I)<|wF I<|QE<|QC ?_
  refine YV [(0,_),(4,_),(7,_)] [(5,.bool ((HQ c||(decide (48<=c)&&decide (c<=57)))))] wQ ?_ ?_
  ·
   refine QB<|wE I<|QA (QZ I I I)<|wE I ?_
   refine Q3 (t:=13) rfl (λhb13=>?_) (λhb13=>?_)
   ·
    refine QM I I<|wE I<|QM I I<|QA (QZ I I I)<|QA (Qp I I I)<|wE I ?_
    refine Q3 (t:=17) rfl (λhb17=>?_) (λhb17=>?_)
    ·
     refine Qc I I I<|Qc I I I<|Qc I I I<|J2 I I<|J2 I I<|Qc I I I<|QA (Qp I I I)<|wE I<|Qc I I I<|Qc I I I<|Qc I I I<|J2 I I<|J2 I I<|Qc I I I<|QA (Qp I I I)<|wF I<|QE ?_
     exact J3 ⟨rfl,rfl,rfl,(congrArg (λb=>some (ah b)) (by rw[af];simp_all [HQ]<;>omega)),trivial⟩ wK wi
    ·
     refine QM I I<|wE I<|QM I I<|QA (QZ I I I)<|QM I I<|wE I ?_
     refine Q3 (t:=20) rfl (λhb20=>?_) (λhb20=>?_)
     ·
      refine QM I I<|wE I<|QM I I<|QA (QZ I I I)<|QM I I<|QA (Qp I I I)<|QA (Qj I I I)<|wE I ?_
      refine Q3 (t:=25) rfl (λhb25=>?_) (λhb25=>?_)
      ·
       refine Qc I I I<|Qc I I I<|Qc I I I<|J2 I I<|J2 I I<|Qc I I I<|QA (Qp I I I)<|wF I<|QE ?_
       exact J3 ⟨rfl,rfl,rfl,(congrArg (λb=>some (ah b)) (by rw[af];simp_all [HQ]<;>omega)),trivial⟩ wK wi
      ·
       refine QM I I<|wE I<|QM I I<|QA (QZ I I I)<|QM I I<|wE I ?_
       refine Q3 (t:=28) rfl (λhb28=>?_) (λhb28=>?_)
       ·
        refine QM I I<|wE I<|QM I I<|QA (QZ I I I)<|QM I I<|QA (Qp I I I)<|QA (Qj I I I)<|wF I<|QE ?_
        exact J3 ⟨rfl,rfl,rfl,(congrArg (λb=>some (ah b)) (by rw[af];simp_all [HQ]<;>omega)),trivial⟩ wK wi
       ·
        refine Qc I I I<|Qc I I I<|QM I I<|QA (Qj I I I)<|QA (Qj I I I)<|wF I<|QE ?_
        exact J3 ⟨rfl,rfl,rfl,(congrArg (λb=>some (ah b)) (by rw[af];simp_all [HQ]<;>omega)),trivial⟩ wK wi
     ·
      refine Qc I I I<|Qc I I I<|QM I I<|QA (Qj I I I)<|QA (Qj I I I)<|wE I<|QM I I<|wE I<|QM I I<|QA (QZ I I I)<|QM I I<|wE I ?_
      refine Q3 (t:=28) rfl (λhb28=>?_) (λhb28=>?_)
      ·
       refine QM I I<|wE I<|QM I I<|QA (QZ I I I)<|QM I I<|QA (Qp I I I)<|QA (Qj I I I)<|wF I<|QE ?_
       exact J3 ⟨rfl,rfl,rfl,(congrArg (λb=>some (ah b)) (by rw[af];simp_all [HQ]<;>omega)),trivial⟩ wK wi
      ·
       refine Qc I I I<|Qc I I I<|QM I I<|QA (Qj I I I)<|QA (Qj I I I)<|wF I<|QE ?_
       exact J3 ⟨rfl,rfl,rfl,(congrArg (λb=>some (ah b)) (by rw[af];simp_all [HQ]<;>omega)),trivial⟩ wK wi
   ·
    refine Qc I I I<|Qc I I I<|QA (Qj I I I)<|wE I<|QM I I<|wE I<|QM I I<|QA (QZ I I I)<|QM I I<|wE I ?_
    refine Q3 (t:=20) rfl (λhb20=>?_) (λhb20=>?_)
    ·
     refine QM I I<|wE I<|QM I I<|QA (QZ I I I)<|QM I I<|QA (Qp I I I)<|QA (Qj I I I)<|wE I ?_
     refine Q3 (t:=25) rfl (λhb25=>?_) (λhb25=>?_)
     ·
      refine Qc I I I<|Qc I I I<|Qc I I I<|J2 I I<|J2 I I<|Qc I I I<|QA (Qp I I I)<|wF I<|QE ?_
      exact J3 ⟨rfl,rfl,rfl,(congrArg (λb=>some (ah b)) (by rw[af];simp_all [HQ]<;>omega)),trivial⟩ wK wi
     ·
      refine QM I I<|wE I<|QM I I<|QA (QZ I I I)<|QM I I<|wE I ?_
      refine Q3 (t:=28) rfl (λhb28=>?_) (λhb28=>?_)
      ·
       refine QM I I<|wE I<|QM I I<|QA (QZ I I I)<|QM I I<|QA (Qp I I I)<|QA (Qj I I I)<|wF I<|QE ?_
       exact J3 ⟨rfl,rfl,rfl,(congrArg (λb=>some (ah b)) (by rw[af];simp_all [HQ]<;>omega)),trivial⟩ wK wi
      ·
       refine Qc I I I<|Qc I I I<|QM I I<|QA (Qj I I I)<|QA (Qj I I I)<|wF I<|QE ?_
       exact J3 ⟨rfl,rfl,rfl,(congrArg (λb=>some (ah b)) (by rw[af];simp_all [HQ]<;>omega)),trivial⟩ wK wi
    ·
     refine Qc I I I<|Qc I I I<|QM I I<|QA (Qj I I I)<|QA (Qj I I I)<|wE I<|QM I I<|wE I<|QM I I<|QA (QZ I I I)<|QM I I<|wE I ?_
     refine Q3 (t:=28) rfl (λhb28=>?_) (λhb28=>?_)
     ·
      refine QM I I<|wE I<|QM I I<|QA (QZ I I I)<|QM I I<|QA (Qp I I I)<|QA (Qj I I I)<|wF I<|QE ?_
      exact J3 ⟨rfl,rfl,rfl,(congrArg (λb=>some (ah b)) (by rw[af];simp_all [HQ]<;>omega)),trivial⟩ wK wi
     ·
      refine Qc I I I<|Qc I I I<|QM I I<|QA (Qj I I I)<|QA (Qj I I I)<|wF I<|QE ?_
      exact J3 ⟨rfl,rfl,rfl,(congrArg (λb=>some (ah b)) (by rw[af];simp_all [HQ]<;>omega)),trivial⟩ wK wi
  ·
   simp only[aa,ae]
   refine YV [(0,_),(7,_)] [(46,.bool ((!xk c)))] wP ?_ ?_
   ·
    refine QB<|wE I<|QA (YN I)<|wE I ?_
    refine Q3 (t:=35) rfl (λhb35=>?_) (λhb35=>?_)
    ·
     refine QM I I<|wE I<|QM I I<|QA (QZ I I I)<|QA (Qp I I I)<|wE I ?_
     refine Q3 (t:=39) rfl (λhb39=>?_) (λhb39=>?_)
     ·
      refine QM I I<|wE I<|QM I I<|QA (QZ I I I)<|QA (Qp I I I)<|wE I ?_
      refine Q3 (t:=43) rfl (λhb43=>?_) (λhb43=>?_)
      ·
       refine QM I I<|wE I<|QM I I<|QA (QZ I I I)<|QA (Qp I I I)<|QE ?_
       exact J3 ⟨rfl,rfl,(congrArg (λb=>some (ah b)) (by clear hcase;rw[af];cases hL:HQ c<;>simp_all [xk]<;>omega)),trivial⟩ wK wi
      ·
       refine Qc I I I<|Qc I I I<|QA (Qj I I I)<|QE ?_
       exact J3 ⟨rfl,rfl,(congrArg (λb=>some (ah b)) (by clear hcase;rw[af];cases hL:HQ c<;>simp_all [xk]<;>omega)),trivial⟩ wK wi
     ·
      refine Qc I I I<|Qc I I I<|QA (Qj I I I)<|wE I<|Qc I I I<|Qc I I I<|QA (Qj I I I)<|QE ?_
      exact J3 ⟨rfl,rfl,(congrArg (λb=>some (ah b)) (by clear hcase;rw[af];cases hL:HQ c<;>simp_all [xk]<;>omega)),trivial⟩ wK wi
    ·
     refine Qc I I I<|Qc I I I<|QA (Qj I I I)<|wE I<|Qc I I I<|Qc I I I<|QA (Qj I I I)<|wE I<|Qc I I I<|Qc I I I<|QA (Qj I I I)<|QE ?_
     exact J3 ⟨rfl,rfl,(congrArg (λb=>some (ah b)) (by clear hcase;rw[af];cases hL:HQ c<;>simp_all [xk]<;>omega)),trivial⟩ wK wi
   ·
    simp only[aa,ae]
    refine QR I (λhc=>?_) (λhc=>?_)
    ·
     have hbad:xk (el s i.i).toNat=false:=by
      rw[JK hi]
      rcases hcase with ⟨_,h2,_⟩ | ⟨h2,_⟩
      ·rw[<-h2];simpa using hc
      ·exact IU h2
     refine wI<|wH I<|QY ?_
     repeat (first | refine JA ?_ | refine Q5 ?_)
     exact wL I I (congrArg ah (by unfold nmS;rw[i.hit hi hbad];rfl)) wh
    ·
     have hcg0:xk c=true:=by simpa using hc
     have hasc:s[i.i].toNat<128/\c=s[i.i].toNat/\wd=1:=by
      rcases hcase with h | ⟨_,h2⟩
      ·exact h
      ·rw[IU h2]at hcg0;cases hcg0
     have hwd:wd=1:=hasc.2.2
     have hcg:xk (el s i.i).toNat=true:=by rw[JK hi,<-hasc.2.1];exact hcg0
     refine QQ<|Qk ?_
     exact Ql (i.next hi hcg) (by show s.length - (i.i+1)<s.length - i.i;omega) wP ((by rw[show nsW (some (c,wd))=1 from hwd];exact fF _)) (λF h=>⟨h.1,trivial⟩)
 ·
  obtain rfl:o=none:=by
   cases o with
   |none=>rfl
   |some x=>cases hc
  have hge:s.length<=i.i:=ho
  refine Qz ?_
  repeat (first | refine QW ?_ | refine QP wc ?_)
  refine QX<|QC<|wJ I<|QA (X7 I ZQ)<|QA (QZ I I I)<|wE I ?_
  refine Q3 (t:=50) rfl (λhb50=>?_) (λhb50=>?_)
  ·
   refine QM I I<|wE I<|QM I I<|QA (X7 I ZQ)<|QM I I<|QA (QZ I I I)<|QA (Qp I I I)<|wH I<|QY ?_
   exact wL I I (congrArg ah (by unfold nmS;rw[i.stop hge];rw[af];simp at *;simp_all<;>omega)) wh
  ·
   refine Qc I I I<|Qc I I I<|Qc I I I<|QA (Qj I I I)<|wH I<|QY ?_
   exact wL I I (congrArg ah (by unfold nmS;rw[i.stop hge];rw[af];simp at *;simp_all<;>omega)) wh
structure Zr where
 nm:Sr
 nl:List (List UInt8)
 rt:Sr
 rl:List S1
 st:Sr
 sl:List (List UInt8×List UInt8)
@[reducible] def Zr.v (y:Zr):Value:=.agg #[.slice y.nm.q y.nm.n y.nm.cap,.slice y.rt.q y.rt.n y.rt.cap,.slice y.st.q y.st.n y.st.cap]
structure Zm(F:Gs)(y:Zr):Prop where
 nm:Qy F y.nm.q y.nm.n 1 (y.nl.map tx)
 rt:Qy F y.rt.q y.rt.n 1 (y.rl.map λe=>e.1.v)
 pl:Lv F y.rl
 st:Qy F y.st.q y.st.n 2 (y.sl.flatMap OO)
 pV:y.nl.length=y.nm.n
 Va:y.rl.length=y.rt.n
 Us:y.sl.length=y.st.n
theorem Zm.le{y:Zr}(h:Zm F y)(k:Gs.le F F'):Zm F' y:=⟨h.nm.le k,h.rt.le k,h.pl.le k,h.st.le k,h.pV,h.Va,h.Us⟩
structure H6(y:Zr):Prop where
 nn:y.nm.n<=1000000
 nc:y.nm.n<=y.nm.cap
 nt:∀s∈y.nl,s.length<=9223372036854775807
 rn:y.rt.n<=1000000
 tm:∀e∈y.rl,FC e
 sn:y.st.n<=1000000
 st:∀s∈y.sl,s.1.length<=1000000/\s.2.length<=1000000
def qC(nl:List (List UInt8))(i:Nat):Int:=Qn [if(!nmS (el nl i))=true then 8 else 0,if decide (el nl i∈nl.take i)=true then 9 else 0]
def R7(nl:List (List UInt8)):Int:=Qn ((ag nl.length).map (qC nl))
def TJ(nl:List (List UInt8))(rl:List Pt)(sl:List (List UInt8×List UInt8)):Int :=
 if nl.length=0 then 12 else if nl.length>24 then 5 else if rl.length≠nl.length\/sl.length≠nl.length then 2 else
  Qn [R7 nl,Qn (rl.map λp=>Yi p nl.length),Qn (sl.map λs=>ZH s.1 s.2)]
def Zr.e(y:Zr):Int:=TJ y.nl (y.rl.map λe=>Y8 e.2) y.sl
theorem YL{l:List Int}:Qn (0::l)=Qn l:=by simp[Qn]
theorem YK{x:Int}{l:List Int}(h:x≠0):Qn (x::l)=x:=by simp[Qn,h]
theorem B4{b:Bool}{e:Int}(hF:Fits F w):Qe Tryz.prog 197 [.bool b,.int .i64 e] w F (.int .i64 (if b=true then e else 0)):=by
 refine QS.intro (G:=λF=>True) Tryz.func197 rfl wc rfl rfl hF wh<|wI<|wH rfl<|QG<|wJ rfl<|QE<|QC ?_
 refine QR I (λhc=>?_) (λhc=>?_)
 ·
  refine wJ I<|wH I<|QY ?_
  exact wL I I (congrArg (aT .i64) (by rw[if_pos hc])) wh
 ·
  refine QQ<|QC<|wI<|wH I<|QY ?_
  exact wL I I (congrArg (aT .i64) (by rw[if_neg (by rw[hc];decide)])) wh
theorem B0{b:Bool}{e:Int}(hF:Fits F w):Qe Tryz.prog 160 [.bool b,.int .i64 e] w F (.int .i64 (if b=true then e else 0)):=by
 refine QS.intro (G:=λF=>True) Tryz.func160 rfl wc rfl rfl hF wh<|wI<|wH rfl<|QG<|wJ rfl<|QE<|QC ?_
 refine QR I (λhc=>?_) (λhc=>?_)
 ·
  refine wJ I<|wH I<|QY ?_
  exact wL I I (congrArg (aT .i64) (by rw[if_pos hc])) wh
 ·
  refine QQ<|QC<|wI<|wH I<|QY ?_
  exact wL I I (congrArg (aT .i64) (by rw[if_neg (by rw[hc];decide)])) wh
theorem Eu{q:Option Addr}{l:List Int}(hF:Fits F w)(hR:Qy F q n 1 (l.map JY))(hn:n<=1000000000):Qe Tryz.prog 196 [.slice q n c] w F (.int .i64 (Qn l)):=by
 have hln:l.length=n:=by have:=hR.1;simpa using this
 have hmap:Qn l=Qn (l.map id):=by rw[fp]
 refine QS.intro (G:=λF=>Qy F q n 1 (l.map JY)) Tryz.func196 rfl wc rfl rfl hF (λF' hF'=>hR.le hF')<|wI<|wH rfl<|QG<|wJ rfl<|QA (Qh rfl ZG)<|wE rfl<|wG<|QU<|ZK (ι:=Zv l id) [(5,_),(6,_)] (λi=>[(7,.int .i64 ((i.i:Nat):Int))]) (λi=>l.length - i.i) (Zv.start _ _) wP wO (λi=>?_)
 simp only[aa,ae]
 have hi:=i.le
 refine wI<|QA (QZ I I I)<|wG<|QG ?_
 refine QR I (λhc=>?_) (λhc=>?_)
 ·
  have hlt:i.i<l.length:=by have:=wM hc;omega
  refine QQ<|QC<|QG<|QU<|wI<|QA (Q9 (n:=n) i.i wi rfl rfl ZG Yf O)<|QA (Jd (n:=n) ((i.i)*1) wi O rfl Yf (X8 (f:=JY) (l:=l) O))<|wH I<|wJ I<|QA (QZ I I I)<|QE<|QC ?_
  refine QR I (λhc=>?_) (λhc=>?_)
  ·
   have h12:id (el l i.i)≠0:=bne_iff_ne.1 hc
   refine wJ I<|wH I<|QY ?_
   repeat (first | refine JA ?_ | refine Q5 ?_)
   exact wL I I (congrArg (aT .i64) (hmap ▸ i.hit hlt h12)) wh
  ·
   have h12:id (el l i.i)=0:=bne_eq_false_iff_eq.1 hc
   refine QQ<|Qk<|QC<|QB<|QA (Qu I I O)<|wE I<|QE ?_
   exact Ql (i.next hlt h12) (by show l.length - (i.i+1)<l.length - i.i;omega) wQ wK wi
 ·
  have hge:l.length<=i.i:=by have:=wN hc;omega
  refine Qz ?_
  repeat (first | refine QW ?_ | refine QP wc ?_)
  refine QX<|QC<|wI<|wH I<|QY ?_
  exact wL I I (congrArg (aT .i64) (hmap ▸ i.stop hge)) wh
theorem YR{q:Option Addr}{l:List Int}(hF:Fits F w)(hR:Qy F q n 1 (l.map JY))(hn:n<=1000000000):Qe Tryz.prog 106 [.slice q n c] w F (.int .i64 (Qn l)):=by
 have hln:l.length=n:=by have:=hR.1;simpa using this
 have hmap:Qn l=Qn (l.map id):=by rw[fp]
 refine QS.intro (G:=λF=>Qy F q n 1 (l.map JY)) Tryz.func106 rfl wc rfl rfl hF (λF' hF'=>hR.le hF')<|wI<|wH rfl<|QG<|wJ rfl<|QA (Qh rfl ZG)<|wE rfl<|wG<|QU<|ZK (ι:=Zv l id) [(5,_),(6,_)] (λi=>[(7,.int .i64 ((i.i:Nat):Int))]) (λi=>l.length - i.i) (Zv.start _ _) wP wO (λi=>?_)
 simp only[aa,ae]
 have hi:=i.le
 refine wI<|QA (QZ I I I)<|wG<|QG ?_
 refine QR I (λhc=>?_) (λhc=>?_)
 ·
  have hlt:i.i<l.length:=by have:=wM hc;omega
  refine QQ<|QC<|QG<|QU<|wI<|QA (Q9 (n:=n) i.i wi rfl rfl ZG Yf O)<|QA (Jd (n:=n) ((i.i)*1) wi O rfl Yf (X8 (f:=JY) (l:=l) O))<|wH I<|wJ I<|QA (QZ I I I)<|QE<|QC ?_
  refine QR I (λhc=>?_) (λhc=>?_)
  ·
   have h12:id (el l i.i)≠0:=bne_iff_ne.1 hc
   refine wJ I<|wH I<|QY ?_
   repeat (first | refine JA ?_ | refine Q5 ?_)
   exact wL I I (congrArg (aT .i64) (hmap ▸ i.hit hlt h12)) wh
  ·
   have h12:id (el l i.i)=0:=bne_eq_false_iff_eq.1 hc
   refine QQ<|Qk<|QC<|QB<|QA (Qu I I O)<|wE I<|QE ?_
   exact Ql (i.next hlt h12) (by show l.length - (i.i+1)<l.length - i.i;omega) wQ wK wi
 ·
  have hge:l.length<=i.i:=by have:=wN hc;omega
  refine Qz ?_
  repeat (first | refine QW ?_ | refine QP wc ?_)
  refine QX<|QC<|wI<|wH I<|QY ?_
  exact wL I I (congrArg (aT .i64) (hmap ▸ i.stop hge)) wh
theorem LB{q:Option Addr}{f:Nat}{ls:List S1}{fE:S1->Int}(hF:Fits F w)(hg:∀F F',Gs.le F F'->G0 F->G0 F')(h0:G0 F)(hR:Qy F q n 1 (ls.map λe=>e.1.v))(hn:ls.length=n)(hb:n<=1000000)(hc:∀e∈ls,∀w F,Fits F w->G0 F->Qe Tryz.prog f (c1++[e.1.v]++c2) w F (.int .i64 (fE e))):
  Qe Tryz.prog 200 [.slice q n c,.func (.func f) c1.toArray c2.toArray] w F (.int .i64 (Qn (ls.map fE))):=by
 refine QS.intro (G:=λF=>G0 F/\Qy F q n 1 (ls.map λe=>e.1.v)) Tryz.func200 rfl wc rfl rfl hF (λF' hF'=>⟨hg F F' hF' h0,hR.le hF'⟩)<|wI<|wH rfl<|QG<|wJ rfl<|QA (Qh rfl EZ)<|wE rfl<|wG<|QU<|ZK (ι:=Zv ls fE) [(1,_),(8,_),(9,_)] (λi=>[(10,.int .i64 ((i.i:Nat):Int))]) (λi=>ls.length - i.i) (Zv.start _ _) wQ wO (λi=>?_)
 simp only[aa,ae]
 have hi:=i.le
 refine wI<|QA (QZ I I I)<|wG<|QG ?_
 refine QR I (λhc2=>?_) (λhc2=>?_)
 ·
  have hlt:i.i<ls.length:=by have:=wM hc2;omega
  have hem:=Q4 hlt
  refine QQ<|QC<|QG<|QU<|wI<|QA (Q9 (n:=n) i.i wk rfl rfl EZ NL O)<|QA (Jd (n:=n) ((i.i)*1) wk O rfl NL (X8 (f:=λe:S1=>e.1.v) (l:=ls) O))<|wH I<|wJ I<|wE I<|Gu (c1:=c1) (c2:=c2) rfl rfl (λw F hF h9=>hc _ hem w F hF h9.1) (λ_=>wH I<|wJ I<|QA (QZ I I I)<|QE<|QC ?_)
  refine QR I (λhc2=>?_) (λhc2=>?_)
  ·
   have h18:=bne_iff_ne.1 hc2
   refine wJ I<|wH I<|QY ?_
   repeat (first | refine JA ?_ | refine Q5 ?_)
   exact wL I I (congrArg (aT .i64) (i.hit hlt h18)) wh
  ·
   have h18:=bne_eq_false_iff_eq.1 hc2
   refine QQ<|Qk<|QC<|QB<|QA (Qu I I O)<|wE I<|QE ?_
   exact Ql (i.next hlt h18) (by show ls.length - (i.i+1)<ls.length - i.i;omega) wR wK wj
 ·
  have hge:ls.length<=i.i:=by have:=wN hc2;omega
  refine Qz ?_
  repeat (first | refine QW ?_ | refine QP wc ?_)
  refine QX<|QC<|wI<|wH I<|QY ?_
  exact wL I I (congrArg (aT .i64) (i.stop hge)) wh
theorem LA{q:Option Addr}{f:Nat}{ls:List (List UInt8×List UInt8)}{fE:List UInt8×List UInt8->Int}(hF:Fits F w)(hg:∀F F',Gs.le F F'->G0 F->G0 F')(h0:G0 F)(hR:Qy F q n 2 (ls.flatMap OO))(hn:ls.length=n)(hb:n<=1000000)(hc:∀e∈ls,∀w F,Fits F w->G0 F->Qe Tryz.prog f (c1++[.agg #[tx e.1,tx e.2]]++c2) w F (.int .i64 (fE e))):
  Qe Tryz.prog 202 [.slice q n c,.func (.func f) c1.toArray c2.toArray] w F (.int .i64 (Qn (ls.map fE))):=by
 refine QS.intro (G:=λF=>G0 F/\Qy F q n 2 (ls.flatMap OO)) Tryz.func202 rfl wc rfl rfl hF (λF' hF'=>⟨hg F F' hF' h0,hR.le hF'⟩)<|wI<|wH rfl<|QG<|wJ rfl<|QA (Qh rfl Xq)<|wE rfl<|wG<|QU<|ZK (ι:=Zv ls fE) [(1,_),(8,_),(9,_)] (λi=>[(10,.int .i64 ((i.i:Nat):Int))]) (λi=>ls.length - i.i) (Zv.start _ _) wQ wO (λi=>?_)
 simp only[aa,ae]
 have hi:=i.le
 refine wI<|QA (QZ I I I)<|wG<|QG ?_
 refine QR I (λhc2=>?_) (λhc2=>?_)
 ·
  have hlt:i.i<ls.length:=by have:=wM hc2;omega
  have hem:=Q4 hlt
  refine QQ<|QC<|QG<|QU<|wI<|QA (Q9 (n:=n) i.i wk rfl rfl Xq XD O)<|QA (Ja (n:=n) (vs:=[tx (el ls i.i).1,tx (el ls i.i).2]) ((i.i)*2) wk O rfl XD I (λj v hv=>Jm (f:=OO) (l:=ls) By O hv))<|Qb Xm (λb6=>QO (vs:=[_,_]) I I I XD I .here .h2 wP<|wG<|wJ I<|QA (QJ (vs:=[_,_]) I XD .here .h2 rfl)<|Gu (c1:=c1) (c2:=c2) rfl rfl (λw F hF h9=>hc _ hem w F hF h9.1) (λ_=>wH I<|wJ I<|QA (QZ I I I)<|QE ?_))
  refine QC ?_
  refine QR I (λhc2=>?_) (λhc2=>?_)
  ·
   have h18:=bne_iff_ne.1 hc2
   refine wJ I<|wH I<|QY ?_
   repeat (first | refine JA ?_ | refine Q5 ?_)
   exact wL I I (congrArg (aT .i64) (i.hit hlt h18)) wh
  ·
   have h18:=bne_eq_false_iff_eq.1 hc2
   refine QQ<|Qk<|QC<|QB<|QA (Qu I I O)<|wE I<|QE ?_
   exact Ql (i.next hlt h18) (by show ls.length - (i.i+1)<ls.length - i.i;omega) wR (wu) wj
 ·
  have hge:ls.length<=i.i:=by have:=wN hc2;omega
  refine Qz ?_
  repeat (first | refine QW ?_ | refine QP wc ?_)
  refine QX<|QC<|wI<|wH I<|QY ?_
  exact wL I I (congrArg (aT .i64) (i.stop hge)) wh
structure NoI(l:List (List UInt8))(v:List UInt8) where
 i:Nat
 le:i<=l.length
 h:∀j,j<i->¬el l j=v
theorem NoI.stop{l:List (List UInt8)}{v:List UInt8}(s:NoI l v)(h:l.length<=s.i):¬v∈l:=λhm=>by
 obtain⟨j,hj,e⟩:=List.getElem_of_mem hm
 exact s.h j O (by rw[JK hj];exact e)
theorem k8{q:Option Addr}{l:List (List UInt8)}{v:List UInt8}(hF:Fits F w)(hR:Qy F q n 1 (l.map tx))(hn:l.length=n)(hb:n<=1000000000):QS Tryz.prog 273 [.slice q n c,tx v] w F (λ(k:Int)=>.int .i64 k) (λk _=>decide (k>=0)=decide (v∈l)):=by
 refine QS.intro (G:=λF=>Qy F q n 1 (l.map tx)) Tryz.func273 rfl wc rfl rfl hF (λF' hF'=>hR.le hF')<|wI<|wH rfl<|QG<|wJ rfl<|QA (Qh rfl Wf)<|wE rfl<|wG<|QU<|ZK (ι:=NoI l v) [(0,_),(1,_),(7,_)] (λi=>[(8,.int .i64 ((i.i:Nat):Int))]) (λi=>l.length - i.i) (⟨0,aD _,λj h=>absurd h (Nat.not_lt_zero _)⟩) wQ wO (λi=>?_)
 simp only[aa,ae]
 have hi:=i.le
 refine wI<|QA (QZ I I I)<|wG<|QG ?_
 refine QR I (λhc=>?_) (λhc=>?_)
 ·
  have hlt:i.i<l.length:=by have:=wM hc;omega
  refine QQ<|QC<|QG<|QU<|wJ I<|wH I<|wJ I<|wE I<|wE I<|QA (Q9 (n:=n) i.i wi rfl rfl Wf RP O)<|QA (Jd (n:=n) ((i.i)*1) wi O rfl RP (X8 (f:=tx) (l:=l) O))<|QA (Vr I I)<|QE<|QC ?_
  refine QR I (λhc=>?_) (λhc=>?_)
  ·
   have h16:v=el l i.i:=by simpa using hc
   have hm:v∈l:=by rw[h16];exact Q4 hlt
   refine wJ I<|wH I<|QY ?_
   repeat (first | refine JA ?_ | refine Q5 ?_)
   exact QV (((i.i:Nat):Int)) I (wB I) (rfl) (λF hR=>by simp[hm])
  ·
   have h16:¬v=el l i.i:=by simpa using hc
   refine QQ<|Qk<|QC<|QB<|QA (Qu I I O)<|wE I<|QE ?_
   exact Ql (⟨i.i+1,hlt,λj hj=>by rcases Nat.lt_succ_iff_lt_or_eq.1 hj with h | rfl;exact i.h j h;exact λe=>h16 e.symm⟩) (by show l.length - (i.i+1)<l.length - i.i;omega) wR wK wi
 ·
  have hge:l.length<=i.i:=by have:=wN hc;omega
  refine Qz ?_
  repeat (first | refine QW ?_ | refine QP wc ?_)
  refine QX<|QC<|wI<|wH I<|QY ?_
  exact QV ((-1:Int)) I (wB I) (rfl) (λF hR=>by simp[i.stop hge])
theorem LS{q:Option Addr}{l:List (List UInt8)}{v:List UInt8}(hF:Fits F w)(hR:Qy F q n 1 (l.map tx))(hn:l.length=n)(hb:n<=1000000000):Qe Tryz.prog 199 [.slice q n c,tx v] w F (.bool (decide (v∈l))):=by
 refine QS.intro (G:=λF=>Qy F q n 1 (l.map tx)) Tryz.func199 rfl wc rfl rfl hF (λF' hF'=>hR.le hF')<|wI<|wH rfl<|wJ rfl<|wE rfl<|QI rfl (λw F hF hR=>k8 hF hR hn hb) (λc7=>JQ _ (λw F hF h=>h.2) (λh7=>QA (QZ rfl rfl rfl)<|wH rfl<|QY ?_))
 exact wL I I (congrArg ah h7.symm) wh
theorem AZ{v:Int}{e:S1}(hF:Fits F w)(hGl:JC F)(hB:F b=some (#[.int .i64 v],3))(hR:Qy F e.1.q e.1.n 2 (e.2.flatMap Nn))(hA:WQ F e.2)(ht:FC e)(hv:0<=v/\v<=24):Qe Tryz.prog 201 [e.1.v,.pointer (some ⟨b,0,none⟩)] w F (.int .i64 (Yi (Y8 e.2) v)):=by
 obtain⟨⟨q,n,c⟩,ps⟩:=e
 dsimp only[Sr.v]at *
 refine QS.intro (G:=λF=>JC F/\F b=some (#[.int .i64 v],3)/\Qy F q n 2 (ps.flatMap Nn)/\WQ F ps) Tryz.func201 rfl wc rfl rfl hF (λF' hF'=>⟨hGl.le hF',hF' _ _ hB,hR.le hF',hA.le hF'⟩)<|wI<|wH rfl<|wJ rfl<|QA (Jd (n:=1) ((0)*1) (λF h9=>(Qy.of (n:=1) (sz:=1) h9.2.1 rfl)) O rfl JR rfl)<|QI rfl (λw F hF h9=>He hF h9.1 h9.2.2.1 h9.2.2.2 ht.1 ht.2.1 ht.2.2) (λ_=>wH rfl<|QY ?_)
 exact wL I I (congrArg (aT .i64) (by unfold Ht;rw[if_pos ((Gq v).2 hv)])) wh
end Go.Proofs.YtjcphjpkimmmjaaGreatDoor
