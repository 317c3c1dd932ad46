/- Steps of the proof of the theorem in the last file. -/
import Derived.Test.YtknegjaeoffnbaaGreatDoorR2
import Derived.Sort.AssemblyPlain
import Derived.Shelf.SlSortCmp.NoneTotal
import Derived.RangeFuncLeaves
import Derived.RangeFuncSeq
import Derived.OwnWalkIn
import Derived.OrdersIn
import Derived.ChangeKeysEq
set_option linter.all false
set_option maxHeartbeats 4000000
open Nat renaming le_trans → aa,zero_le → ai,le_refl → ax,mul_le_mul_right → aE,zero_add → aN,add_mul → aT,mul_le_mul → bc,lt_or_ge → bg,lt_of_lt_of_le → bB,zero_mul → ez,sub_zero → eB,eq_zero_or_pos → eH,not_lt_zero → eR,le_of_eq → eZ,one_mul → fb,mul_one → fc
open List renaming nil_append → ab,cons_append → ae,mem_map_of_mem → af,length_map → ah,perm_append_comm → aj,map_append → ak,length_append → ao,take_length → aq,length_cons → ar,mem_cons_of_mem → av,mem_cons_self → aw,getElem?_toArray → az,not_mem_nil → aA,length_take → aB,map_cons → aC,getElem?_eq_getElem → aD,take_append_drop → aG,flatMap_append → aJ,range → aL,sum_cons → aO,mem_cons → aP,nil_sublist → aQ,replicate → aR,take_of_length_le → aU,length_set → aW,length_singleton → aX,getElem?_eq_none → aY,flatMap_cons → aZ,length → ba,getElem?_map → bf,length_nil → bn,append_nil → bt,map_nil → bw,map → bA,pairwise_map → bC,length_range → bD,foldl_append → bE,map_map → bH,drop_of_length_le → bI,take_zero → bK,take_succ_cons → bM,length_zipWith → bN,drop_succ_cons → bO,filter_append → bQ,perm_middle → bW,ext_getElem → bX,any_eq_true → bY,foldl_cons → eb,drop_zero → ef,getElem?_append_left → ej,drop_eq_getElem_cons → ek,mem_of_mem_take → eE,getElem?_append → eF,getElem_of_mem → eG,append_assoc → eI,getElem_mem → eJ,getElem_map → eK,all_eq_true → eL,sum_append → eO,nodup_nil → eS,map_take → eV,all_cons → eW,range' → e8
open Go renaming World → ag,Value → aF,TypeId → aK,Program → aS,Operand → bF
open Go.Fence renaming wide → au
open Go.Value renaming int → ay,bool → bj
open And renaming intro → aH
open Go.Result renaming andThen_ok → aI
open List.Perm renaming refl → aM,swap → bR
open Go.Sem renaming run_bind → aV,run_pure → eD
open Array renaming getElem?_append → bh,getElem?_eq_none → bG,ext_getElem? → bP,replicate → cb,getElem?_modify → ey,ext' → e9
open Int renaming le_refl → bm,toNat_of_nonneg → bz,toNat_natCast → bS,eq_ofNat_of_zero_le → ew,lt_or_le → eC
open Go.Instr renaming sameBits → bJ,findAsking → bU,checkKey → ee,findNow → ep,sureAddr → eP,findKey → eU
open Go.Region renaming wanted → bL,seqB → bT,ready → eT
open Option renaming map_some → bV
open Bool renaming and_eq_true → bZ,eq_iff_iff → eQ
open List.Pairwise renaming nil → ei
open Option.some renaming injEq → er
open Go.ByteArray renaming toList_eq → eu
open Go.Op renaming equalIn → eM,eqItems → eN,equal → eX
open Rat renaming zero_add → eY
namespace Go.Proofs.YtknegjaeoffnbaaGreatDoor
section
open Go.RowKit Ig Go.Sort
def cW:XU:=⟨⟨⟨0,none,0,0⟩,⟨1,none,0,0⟩⟩,⟨none,0,0⟩,(0,[])⟩
theorem dQ (F:Gs):Sx F cW:=⟨⟨Jv.small F (by decide) (by decide),Jv.small F (by decide) (by decide)⟩,⟨by simp [Q6,cW],rfl,ax _⟩⟩
theorem PW.nil:PW []:=⟨fun _ h=>(by cases h),by simp⟩
abbrev xC (F:Gs):={t:XU // Sx F t∧PW t.t.2}
instance (F:Gs):Inhabited (xC F):=⟨⟨cW,dQ F,PW.nil⟩⟩
def Hh (F:Gs):xC F→List aF:=fun t=>Ym t.1
def gE (F:Gs):xC F→xC F→Int:=fun x y=>VH x.1.t.2 y.1.t.2
theorem uS {F:Gs} (x y:xC F):ltOf (gE F) x y=before x.1.t.2 y.1.t.2:=(K9 _ _).symm
theorem PU {a b c:List Int} (h:before a b=false) (k:before b c=false):before a c=false:=by
 cases hb:before a c with
 |false=>rfl
 |true =>
  rcases KN b c with e | e | e
  ·subst e;rw [h] at hb;cases hb
  ·rw [k] at e;cases e
  ·rw [before_trans hb e] at h;cases h
theorem gi (F:Gs):SWO (ltOf (gE F)) where
 irrefl:=fun x=>by rw [uS];exact before_irrefl _
 trans:=fun x y z h k=>by rw [uS] at h k ⊢;exact before_trans h k
 ntrans:=fun x y z h k=>by rw [uS] at h k ⊢;exact PU h k
def Ie (w:ag) (F:Gs) (W:ag):Gs:=fun b=>if b<w.heap.size then F b else match W.heap[b]? with | some (.cells c T _)=>if T=248 then some (c,248) else none | _=>none
theorem WG {w W:ag} {F:Gs} {b:Nat} (h:b<w.heap.size):Ie w F W b=F b:=if_pos h
theorem Fe {w W:ag} {F:Gs} (hF:Fits F w):Gs.le F (Ie w F W):=fun b x hb=>by rw [WG (hF.lt hb)];exact hb
theorem P3 {w W:ag} {F:Gs} {DF:Nat} {c':Array aF} {T:aK} {fr':Nat×Nat} (hF:Fits F w) (hn:F DF=none) (hT:T≠248) (h1:∀ b,b<w.heap.size→b≠DF→W.heap[b]?=w.heap[b]?) (h2:W.heap[DF]?=some (.cells c' T fr')):Fits (Ie w F W) W:=by
 refine⟨fun b c T hb=>?_,fun b c fr hb=>?_⟩
 ·by_cases hlt:b<w.heap.size
  ·rw [WG hlt] at hb
   obtain ⟨fr,e⟩:=hF.row b c T hb
   have hne:b≠DF:=by rintro rfl;rw [hn] at hb;cases hb
   exact⟨fr,by rw [h1 b hlt hne];exact e⟩
  ·unfold Ie at hb
   rw [if_neg hlt] at hb
   split at hb
   ·rename_i c' T' fr heq
    split at hb
    ·rename_i hT;cases hb;exact⟨fr,by rw [heq,hT]⟩
    ·cases hb
   ·cases hb
 ·by_cases hlt:b<w.heap.size
  ·rw [WG hlt]
   by_cases hne:b=DF
   ·subst hne;rw [h2] at hb;cases hb;exact absurd rfl hT
   ·rw [h1 b hlt hne] at hb;exact hF.all b c fr hb
  ·unfold Ie
   rw [if_neg hlt,hb];simp
theorem ji {w w':ag} (h1:Below w.heap.size w w') (h2:w.drawn≤w'.drawn):w'=grow (w.drewN (w'.drawn - w.drawn)) (w'.heap.extract w.heap.size w'.heap.size):=by
 have hh:w'.heap=w.heap++w'.heap.extract w.heap.size w'.heap.size:=by
  apply bP
  intro i
  rw [bh]
  split
  ·rename_i h;exact h1.block i h
  ·rename_i h
   rw [Array.getElem?_extract]
   have:=h1.size
   by_cases g:i<w'.heap.size
   ·rw [if_pos (by omega)];congr 1;omega
   ·rw [if_neg (by omega),bG (by omega)]
 obtain ⟨e1,e2,e3,_,_⟩:=h1
 cases w' with
 |mk heap tape drawn os output =>
  simp only at hh e1 e2 e3 h2
  unfold grow World.drewN
  simp only [World.mk.injEq]
  exact⟨hh,e2,by omega,e1,e3⟩
section
variable {α:Type} [Inhabited α] {enc:α→List aF} {k:Nat} {w:ag} {DF m:Nat} {dk:Array α} {os:Array Obj} {c:Array aF} {T:aK} {fr:Nat×Nat}
theorem BY (b:Nat) (hb:b<w.heap.size) (hne:b≠DF):(sortWorldK enc k w DF 0 m dk os).heap[b]?=w.heap[b]?:=by
 show((w.heap.modify DF _)++os)[b]?=_
 rw [bh,if_pos (by simpa using hb),ey,if_neg (Ne.symm hne)]
theorem L6 (h:w.heap[DF]?=some (.cells c T fr)):(sortWorldK enc k w DF 0 m dk os).heap[DF]?=some (.cells (putCells id 0 (flatK enc k dk) c) T fr):=by
 have hb:DF<w.heap.size:=by
  rcases bg DF w.heap.size with g | g
  ·exact g
  ·rw [bG g] at h;cases h
 show((w.heap.modify DF _)++os)[DF]?=_
 rw [bh,if_pos (by simpa using hb),ey,if_pos rfl,h]
 rfl
theorem Ai (hk:∀ x,(enc x).length=k) (d:Array α):flatK enc k d=(d.toList.flatMap enc).toArray:=by
 have hl:(d.toList.flatMap enc).length=d.size*k:=by
  generalize hd:d.toList=l
  have:d.size=l.length:=by rw [← hd];simp
  rw [this]
  clear this hd
  induction l with
  |nil=>simp
  |cons x l ih=>rw [aZ,ao,ih,hk,ar,aT];omega
 apply bP
 intro t
 by_cases ht:t<d.size*k
 ·have hk0:0<k:=Nat.pos_of_ne_zero fun e=>by rw [e] at ht;simp at ht
  have h1:t / k<d.size:=(Nat.div_lt_iff_lt_mul hk0).2 ht
  have h2:t%k<k:=Nat.mod_lt _ hk0
  have h3:t%k<(enc d[t / k]!).length:=by rw [hk];exact h2
  have e1:(flatK enc k d)[t]?=some ((enc d[t / k]!)[t%k]!):=by
   rw [Array.getElem?_eq_getElem (by rw [size_flatK];exact ht)]
   have:=get_flatK enc k d t ht
   rw [getElem!_pos _ t (by rw [size_flatK];exact ht)] at this
   rw [this]
  rw [e1,az]
  have h4:el d.toList (t / k)=d[t / k]!:=by simp [el,h1]
  have:=Jy (f:=enc) hk (l:=d.toList) (i:=t / k) (j:=t%k) (u:=(enc d[t / k]!)[t%k]!) (by simpa using h1) (by rw [h4,aD h3,getElem!_pos (enc d[t / k]!) (t%k) h3])
  rw [Nat.mul_comm,Nat.div_add_mod] at this
  exact this.symm
 ·rw [bG (by rw [size_flatK];omega),az,aY (by omega)]
theorem Ry {a b rest:List aF} (h:b.length=a.length):putCells id 0 b.toArray (a++rest).toArray=(b++rest).toArray:=by
 apply bP
 intro i
 unfold putCells
 rw [Array.getElem?_mapIdx,az,az,eF,eF]
 by_cases hi:i<a.length
 ·have hi':i<b.length:=by omega
  rw [if_pos hi,if_pos hi',aD hi,aD hi']
  simp [hi']
 ·have hi':¬ i<b.length:=by omega
  rw [if_neg hi,if_neg hi',h]
  have e:¬ (0≤i∧i<0+b.toArray.size):=by simp;omega
  cases rest[i - a.length]? with
  |none=>rfl
  |some x=>simp only [bV];rw [if_neg e]
end
def FE (g:FuncId):Prop:=Enters Tryz.prog g∧∀ (w:ag) (F:Gs) (a b:XU),Fits F w→Sx F a→Sx F b→PW a.t.2→PW b.t.2→@QT ⟨True⟩ Tryz.prog g [AV a,AV b] w F Unit (fun _=>.int .i64 (VH a.t.2 b.t.2)) (fun _ _=>True)
theorem FE.lays {g:FuncId} (hg:FE g) {w:ag} {F:Gs} {DF size:Nat} {c:Array aF} {T:aK} {fr:Nat×Nat} (hF:Fits F w) (hn:F DF=none) (hT:T≠248) (hb:w.heap[DF]?=some (.cells c T fr)):CmpLays Tryz.prog g #[] (Hh F) 5 (gE F) DF 0 size w:=fun m os dk _ x y=>by
 have hf:=P3 (W:=sortWorldK (Hh F) 5 w DF 0 m dk os) hF hn hT (fun b h1 h2=>BY b h1 h2) (L6 hb)
 have hle:=Fe (W:=sortWorldK (Hh F) 5 w DF 0 m dk os) hF
 have:=(hg.2 _ _ x.1 y.1 hf (x.2.1.le hle) (y.2.1.le hle) x.2.2 y.2.2).2
 refine this.mono ?_
 rintro e w' ⟨_,F',rfl,hx,_⟩
 exact⟨rfl,_,_,ji (@PZ.toBelow ⟨True⟩ _ _ hx) (@PZ.dr ⟨True⟩ _ _ hx trivial)⟩
theorem cU {F:Gs} (x:xC F):∀ v∈Hh F x,v.oneCell'=true:=by
 intro v hv
 unfold Hh Ym at hv
 simp only [aP,aA,or_false] at hv
 rcases hv with rfl | rfl | rfl | rfl | rfl<;>rfl
variable [Dr] {w0:ag} {F0:Gs} {bs:List (Nat×Obj)} {G:Gs→Prop}
theorem dK {g:FuncId} (hg:FE g) {b n cap lim:Nat} {ts:List XU} {rest:List aF} (hG:∀ F,G F→Vh F ts) (hp:∀ t∈ts,PW t.t.2) (hl:ts.length=n) (hn:n<4611686018427387904) (hlim:lim<4611686018427387904) :
  XD Tryz.prog 213 [.slice (some ⟨b,0,none⟩) n cap,.int .i64 0,.int .i64 (n:Nat),.int .i64 (lim:Nat),.func (.func g) #[] #[]] ⟨w0,F0,(b,.cells (ts.flatMap Ym++rest).toArray 165 (0,0))::bs,G⟩ (fun(_:List XU)=>.tuple #[])
   (fun ts'=>⟨w0,F0,(b,.cells (ts'.flatMap Ym++rest).toArray 165 (0,0))::bs,fun F=>G F∧ts'.Perm ts∧ts'.Pairwise (fun x y=>before y.t.2 x.t.2=false)⟩):=by
 refine⟨enters_of Tryz.func213 (by rfl) rfl,fun w hw=>?_⟩
 obtain ⟨F,h⟩:=hw
 obtain ⟨hb1,hb2,hb3⟩:=h.bx (b,_) aw
 have hts:=hG F h.hG
 have hblt:b<w.heap.size:=(Array.getElem?_eq_some_iff.1 hb1).1
 have hT:(165:aK)≠248:=by decide
 obtain ⟨d,hd⟩:∃ d:Array (xC F),d.toList.map (·.1)=ts:=by
  refine⟨(ts.attach.map fun t=>(⟨t.1,hts t.1 t.2,hp t.1 t.2⟩:xC F)).toArray,?_⟩
  simp [bH,Function.comp_def]
 have hds:d.size=n:=by rw [← hl,← hd];simp
 have hfl:∀ d:Array (xC F),flatK (Hh F) 5 d=((d.toList.map (·.1)).flatMap Ym).toArray:=fun d=>by
  rw [Ai (enc:=Hh F) (k:=5) (fun _=>rfl),List.flatMap_map];rfl
 have hH:HoldsK (Hh F) 5 w b 0 d:=by
  intro j hj
  rw [hfl,hd] at hj ⊢
  have hj':j<(ts.flatMap Ym).length:=by simpa using hj
  rw [aN]
  refine⟨?_,by simp [World.frozen?,hb1]⟩
  simp only [World.cell?,hb1,Option.isSome_none,Bool.false_eq_true,if_false,az]
  rw [ej hj',aD hj']
  show some _=some ((ts.flatMap Ym).toArray[j]!)
  rw [getElem!_pos (ts.flatMap Ym).toArray j (by simpa using hj')]
  simp
 have hR:RowK (Hh F) 5 w b 0 d:=⟨fun _=>rfl,fun x=>cU x,hH,hblt⟩
 have eg:=hg.1
 have hcmp:=hg.lays (size:=d.size) h.fits hb3 hT hb1
 have hs:=AnyQ.pdqsortCmpFunc_all Tryz.xp 5 (Re Je) (Z2 Je) (Hh F) (gE F) g #[] (gi F) b 0 cap d w eg hcmp hR (d.size+1) 0 d.size lim d w (by omega) rfl (SWK.start hH) (ai _) (ax _) (by omega) hlim (Or.inl rfl)
 have hpl:=pdq_sorts (ltOf (gE F)) (gi F) d 0 d.size lim true true (ai _) (ax _) (Or.inl rfl)
 generalize pdq (ltOf (gE F)) d 0 d.size lim true true=d' at hs hpl
 obtain ⟨⟨hp1,_,hp2⟩,hso⟩:=hpl
 rw [hds] at hs
 refine hs.mono ?_
 rintro e w' ⟨rfl,m,os,rfl⟩
 have hbk:=L6 (enc:=Hh F) (k:=5) (m:=m) (dk:=d') (os:=os) hb1
 have hfit:=P3 (W:=sortWorldK (Hh F) 5 w b 0 m d' os) h.fits hb3 hT (fun b h1 h2=>BY b h1 h2) hbk
 have hle:=Fe (W:=sortWorldK (Hh F) 5 w b 0 m d' os) h.fits
 have hperm:(d'.toList.map (·.1)).Perm ts:=by
  rw [← hd]
  refine List.Perm.map _ ?_
  have e1:(d'.extract 0 d.size).toList=d'.toList:=by rw [← hp1];simp
  have e2:(d.extract 0 d.size).toList=d.toList:=by simp
  rw [e1,e2] at hp2;exact hp2
 have hcells:putCells id 0 (flatK (Hh F) 5 d') (ts.flatMap Ym++rest).toArray=((d'.toList.map (·.1)).flatMap Ym++rest).toArray:=by
  rw [hfl]
  refine Ry ?_
  have:=(List.Perm.flatMap_right Ym hperm).length_eq
  exact this
 rw [hcells] at hbk
 have hsz:w.heap.size≤(sortWorldK (Hh F) 5 w b 0 m d' os).heap.size:=by
  show _≤((w.heap.modify b _)++os).size
  simp
 refine⟨d'.toList.map (·.1),rfl,Ie w F (sortWorldK (Hh F) 5 w b 0 m d' os),?_⟩
 refine⟨Gs.le_trans h.le hle,fun k hk=>?_,hfit,⟨⟨?_,?_,?_,?_,?_⟩,?_⟩,fun k hk=>?_,h.nd,fun F' hF'=>⟨h.g F' (Gs.le_trans hle hF'),hperm,?_⟩⟩
 ·have:k<w.heap.size:=bB hk h.ext.size
  rw [WG this];exact h.old k hk
 ·exact h.ext.os
 ·exact h.ext.tape
 ·exact h.ext.output
 ·exact aa h.ext.size hsz
 ·intro k hk
  have h1:k<w.heap.size:=bB hk h.ext.size
  have h2:k≠b:=by rintro rfl;exact absurd hk (Nat.not_lt.2 hb2)
  rw [BY k h1 h2];exact h.ext.block k hk
 ·intro hd
  exact aa (h.ext.dr hd) (Nat.le_add_right _ _)
 ·rcases List.mem_cons.1 hk with rfl | hk
  ·exact⟨hbk,hb2,by rw [WG hblt];exact hb3⟩
  ·obtain ⟨g1,g2,g3⟩:=h.bx k (av _ hk)
   have h1:k.1<w.heap.size:=(Array.getElem?_eq_some_iff.1 g1).1
   have h2:k.1≠b:=by
    have:=h.nd
    simp only [aC] at this
    have:=(List.nodup_cons.1 this).1
    rintro e
    exact this (e ▸ af (f:=(·.1)) hk)
   exact⟨by rw [BY k.1 h1 h2];exact g1,g2,by rw [WG h1];exact g3⟩
 ·rw [bC,List.pairwise_iff_getElem]
  intro i j hi hj hij
  have hi':i<d'.size:=by simpa using hi
  have hj':j<d'.size:=by simpa using hj
  have:=hso i j (ai _) hij (by omega)
  rw [uS,getElem!_pos _ i hi',getElem!_pos _ j hj'] at this
  simpa using this
end
open Go.RowKit Ig
section
variable [Dr] {w0:ag} {F0:Gs} {bs:List (Nat×Obj)} {G:Gs→Prop}
theorem LG {w:ag} {F:Gs} (hF:Fits F w) {n:Nat} (h:n<4611686018427387904):QZ Tryz.prog 214 [.int .u64 (n:Nat)] w F (.int .i64 (Lib.bitLen n:Nat)) :=
 QT.same (enters_of Tryz.func214 (by rfl) rfl) hF (by
  have:=Tryz.bits_Len (n:Nat) w (by omega) (by omega)
  rwa [bS] at this)
theorem CS:∀ {ts:List XU},ts.flatMap Ym=[]→ts=[]
 |[],_=>rfl
 |t::l,h=>by rw [aZ] at h;simp [Ym] at h
theorem yX {g:FuncId} (hg:FE g) {n lim:Nat} {v:aF} {ts:List XU} {ob:List (Nat×Obj)} (hr:Qx 165 5 v n (ts.flatMap Ym) ob) (hG:∀ F,G F→Vh F ts) (hp:∀ t∈ts,PW t.t.2) (hl:ts.length=n) (hn:n<4611686018427387904) (hlim:lim<4611686018427387904) :
  XD Tryz.prog 213 [v,.int .i64 0,.int .i64 (n:Nat),.int .i64 (lim:Nat),.func (.func g) #[] #[]] ⟨w0,F0,ob++bs,G⟩ (fun(_:List XU×List (Nat×Obj))=>.tuple #[])
   (fun c=>⟨w0,F0,c.2++bs,fun F=>G F∧Qx 165 5 v n (c.1.flatMap Ym) c.2∧c.1.Perm ts∧c.1.Pairwise (fun x y=>before y.t.2 x.t.2=false)⟩):=by
 generalize hcs:ts.flatMap Ym=cs at hr
 cases hr with
 |nil =>
  have:=CS hcs
  subst this
  refine⟨enters_of Tryz.func213 (by rfl) rfl,fun w hw=>?_⟩
  refine(AnyF.pdqsortCmpFunc_none Tryz.xp none 0 (lim:Nat) (.func (.func g) #[] #[]) w).mono ?_
  rintro e w' ⟨rfl,rfl⟩
  exact⟨([],[]),rfl,hw.Bu fun F h=>⟨h,.nil,aM _,ei⟩⟩
 |some h1 h2 h3 h4 =>
  rename_i b cap rest
  subst hcs
  have h:=dK (w0:=w0) (F0:=F0) (bs:=bs) (G:=G) hg (b:=b) (n:=n) (cap:=cap) (lim:=lim) (ts:=ts) (rest:=rest) hG hp hl hn hlim
  refine⟨h.1,fun w hw=>(h.2 w hw).mono ?_⟩
  rintro e w' ⟨ts',rfl,hw'⟩
  refine⟨(ts',[(b,.cells (ts'.flatMap Ym++rest).toArray 165 (0,0))]),rfl,hw'.Bu fun F ⟨hG',hpm,hpw⟩=>⟨hG',?_,hpm,hpw⟩⟩
  have hlen:(ts'.flatMap Ym).length=(ts.flatMap Ym).length:=(List.Perm.flatMap_right Ym hpm).length_eq
  exact .some (by rw [hlen];exact h1) (by rw [hlen];exact h2) h3 h4
theorem OB {g:FuncId} (hg:FE g) {n:Nat} {v:aF} {ts:List XU} {ob:List (Nat×Obj)} (hr:Qx 165 5 v n (ts.flatMap Ym) ob) (hG:∀ F,G F→Vh F ts) (hp:∀ t∈ts,PW t.t.2) (hl:ts.length=n) (hn:n<4611686018427387904) :
  XD Tryz.prog 134 [v,.func (.func g) #[] #[]] ⟨w0,F0,ob++bs,G⟩ (fun(_:List XU×List (Nat×Obj))=>.tuple #[])
   (fun c=>⟨w0,F0,c.2++bs,fun F=>G F∧Qx 165 5 v n (c.1.flatMap Ym) c.2∧c.1.Perm ts∧c.1.Pairwise (fun x y=>before y.t.2 x.t.2=false)⟩):=by
 refine XD.intro Tryz.func134 rfl (by rfl) rfl rfl<|wF rfl<|QA (TR rfl hr J6)<|wD rfl<|QB<|wA rfl<|wA rfl<|wA rfl<|QA (FY rfl gW zJ (by omega))<|QH rfl (fun w F hF _=>LG hF hn) (fun _=>wA rfl<|XO rfl (aM _) (yX hg hr (fun F h=>hG F h.1) hp hl hn (Nat.lt_of_le_of_lt (Lib.bitLen_le n 62 (by omega) (by omega)) (by omega))) (fun c=>QE<|Dy ?_))
 exact Y5 (c) rfl .nil (rfl) (fun w h=>h.Bu fun F h=>⟨h.1.1,h.2⟩)
end
theorem G4:∀ (n:Nat) (l:List Nat),l.Nodup→(∀ j∈l,j<n)→l.length≤n
 |0,l,_,h=>by
  cases l with
  |nil=>exact ax _
  |cons x l=>exact absurd (h x aw) (eR _)
 |n+1,l,hn,h=>by
  have h1:=G4 n (l.erase n) (hn.erase n) fun j hj=>by
   have h2:=(hn.mem_erase_iff).1 hj
   have h3:=h j h2.2
   have h4:=h2.1
   omega
  rw [List.length_erase] at h1
  split at h1<;>omega
theorem Pn {n j:Nat} {l:List Nat} (hn:l.Nodup) (h:∀ j∈l,j<n) (hj:j<n) (hjn:j∉l):(l++[j]).Nodup∧(∀ i∈l++[j],i<n)∧l.length<n:=by
 have h1:(l++[j]).Nodup:=by
  rw [List.nodup_append]
  exact⟨hn,by simp,fun a ha b hb=>by rw [List.mem_singleton.1 hb];rintro rfl;exact hjn ha⟩
 have h2:∀ i∈l++[j],i<n:=fun i hi=>by
  rcases List.mem_append.1 hi with hi | hi
  ·exact h i hi
  ·rw [List.mem_singleton.1 hi];exact hj
 have h3:=G4 n _ h1 h2
 rw [ao] at h3
 exact⟨h1,h2,by simp at h3;omega⟩
theorem TI {n:Nat} {l:List Nat} (hn:l.Nodup) (h:∀ j∈l,j<n) (ha:∀ j,j<n→j∈l):l.Perm (aL n) :=
 (List.perm_ext_iff_of_nodup hn List.nodup_range).2 fun a=>by rw [List.mem_range];exact⟨h a,ha a⟩
theorem Bo {α:Type} [Inhabited α] (l:List α):(aL l.length).map (el l)=l:=by
 apply List.ext_getElem?
 intro i
 by_cases h:i<l.length
 ·rw [bf,List.getElem?_range h,aD h];simp [X5 h]
 ·rw [aY (by simp;omega),aY (by omega)]
def Jr (F:Gs) (s:Sr) (ts:List XU) (p:List Tm):Prop:=Q6 F s.q s.n 5 (ts.flatMap Ym)∧Vh F ts∧JG ts=p∧s.n≤s.cap∧ts.length=s.n
theorem Jr.le {F F':Gs} {s:Sr} {ts:List XU} {p:List Tm} (h:Jr F s ts p) (k:Gs.le F F'):Jr F' s ts p:=⟨h.1.le k,h.2.1.le k,h.2.2⟩
def Fb (ts:List XU):List XU:=ts.filter fun t=>decide (t.t.1≠0)
theorem Tc (ts:List XU) (t:XU):Fb (ts++[t])=Fb ts++(if t.t.1≠0 then [t] else []):=by
 unfold Fb;rw [bQ];congr 1
 by_cases h:t.t.1=0
 ·simp [h]
 ·simp [h]
structure pM (ts:List XU) where
 seen:List Nat
 v:aF
 n:Nat
 ob:List (Nat×Obj)
 hr:Qx 165 5 v n ((Fb (seen.map (el ts))).flatMap Ym) ob
 nd:seen.Nodup
 lt:∀ j∈seen,j<ts.length
 hn:(Fb (seen.map (el ts))).length=n
theorem Fj (ts:List XU):(Wo ts).length=ts.length:=by simp [Wo]
theorem Cc:FE 253:=⟨enters_of Tryz.func253 (by rfl) rfl,fun w F a b hF hA hB pa pb=>@jB ⟨True⟩ w F a b hF hA hB pa pb⟩
theorem Bf {r:Rat}:E7 r.num=0↔r=0:=by
 unfold E7
 constructor
 ·intro h
  apply Rat.num_eq_zero.1
  split at h
  ·omega
  ·split at h<;>omega
 ·rintro rfl;rfl
theorem L7 {ts os:List XU} {l:List Tm} {seen:List Nat} (hI:VE ts l) (hn:seen.Nodup) (hlt:∀ j∈seen,j<ts.length) (hall:∀ j,j<ts.length→j∈seen) (hp:os.Perm (Fb (seen.map (el ts)))) (hs:os.Pairwise fun x y=>before y.t.2 x.t.2=false):JG os=Jp l:=by
 have h1:os.Perm (Fb ts):=by
  refine hp.trans ?_
  unfold Fb
  refine List.Perm.filter _ ?_
  have:=(TI hn hlt hall).map (el ts)
  rwa [Bo] at this
 have h2:(JG os).Perm ((JG ts).filter fun t=>decide (t.1≠0)):=by
  have:=h1.map XU.t
  unfold Fb at this
  have e:(ts.filter fun t=>decide (t.t.1≠0)).map XU.t=(ts.map XU.t).filter fun t=>decide (t.1≠0):=by
   rw [List.filter_map];rfl
  rw [e] at this;exact this
 refine hI.Um.norm h2 ?_
 have hnd:((JG os).map (·.2)).Nodup:=by
  have h3:((JG os).map (·.2)).Perm (((JG ts).filter fun t=>decide (t.1≠0)).map (·.2)):=h2.map _
  rw [h3.nodup_iff]
  exact(List.filter_sublist.map _).nodup hI.Um.nd
 unfold JG at hnd ⊢
 rw [bC]
 rw [bH] at hnd
 have hnd2:=List.pairwise_map.1 hnd
 refine(hs.and hnd2).imp ?_
 rintro x y ⟨h1,h2⟩
 rcases KN x.t.2 y.t.2 with e | e | e
 ·exact absurd e h2
 ·exact e
 ·rw [h1] at e;cases e
theorem Aa {ts:List XU} {seen:List Nat} (hlt:∀ j∈seen,j<ts.length) {t:XU} (h:t∈Fb (seen.map (el ts))):t∈ts:=by
 have:=(List.mem_filter.1 h).1
 obtain ⟨j,hj,e⟩:=List.mem_map.1 this
 rw [← e];exact JK (hlt j hj)
theorem O2 {ts:List XU} {seen:List Nat} {j:Nat} {t:XU} (e:el ts j=t) (h:t.t.1≠0):Fb ((seen++[j]).map (el ts))=Fb (seen.map (el ts))++[t]:=by
 rw [ak,aC,bw,e,Tc,if_pos h]
theorem xx {ts:List XU} {seen:List Nat} {j:Nat} {t:XU} (e:el ts j=t) (h:t.t.1=0):Fb ((seen++[j]).map (el ts))=Fb (seen.map (el ts)):=by
 rw [ak,aC,bw,e,Tc,if_neg (not_not_intro h),bt]
theorem R9 (t:XU):∀ v∈Ym t,v.oneCell'=true:=by
 intro v hv
 unfold Ym at hv
 simp only [aP,aA,or_false] at hv
 rcases hv with rfl | rfl | rfl | rfl | rfl<;>rfl
section
variable {w0:ag} {F0:Gs} {bs:List (Nat×Obj)} {G:Gs→Prop}
theorem Gt {m:Nat} {ts:List XU} {l:List Tm} (hI:VE ts l) (hlen:ts.length≤1000000000) (hG:∀ F,G F→Vh F ts) :
  XD Tryz.prog 211 [.map (some m)] ⟨w0,F0,(m,ZD tx (Wo ts))::bs,G⟩ (fun(c:Sr×List XU)=>c.1.v) (fun c=>⟨w0,F0,(m,ZD tx (Wo ts))::bs,fun F=>G F∧Jr F c.1 c.2 (Jp l)⟩):=by
 refine XD.intro Tryz.func211 rfl (by rfl) rfl rfl<|Ss hG<|wE<|wD rfl<|wE<|wD rfl<|QG<|wF rfl<|Eh rfl NP .here (fun b7=>wC<|QX<|Jz (ι:=pM ts) [(7,_)] (fun i=>[(3,i.v)]) (fun i=>(b7,Fl m (Wo ts).length i.seen)::(m,ZD tx (Wo ts))::(i.ob++bs)) (fun i F=>True) (fun i=>ts.length - i.seen.length) (⟨[],_,0,[],.nil,eS,(fun _ h=>by cases h),rfl⟩) wK wK wG (fun _ _=>trivial) (fun i=>?_))
 simp only [ae,ab]
 have hn0:i.n≤i.seen.length:=by rw [← i.hn];exact aa (List.length_filter_le _ _) (by simp)
 refine wE<|N3 (kv:=Wo ts) (K:=tx) (b:=m) rfl .here .u1 (fun x hx=>QA (QM rfl (xy x))<|wC<|QG ?_)
 refine QQ rfl (fun hc=>?_) (fun hc=>?_)
 ·
  obtain ⟨j,rfl⟩:∃ j,x=some j:=by
   cases x with
   |none=>cases hc
   |some j=>exact⟨j,rfl⟩
  obtain ⟨hj,hjn⟩:=hx
  rw [Fj] at hj
  obtain ⟨hs1,hs2,hs3⟩:=Pn i.nd i.lt hj hjn
  have htm:=JK hj
  have hkj:(Wo ts)[j]?=some (Yu (el ts j).t.2,AV (el ts j)):=by rw [Wo,bf,aD hj,X5 hj];rfl
  generalize hte:el ts j=t at htm hkj
  refine QO<|QC<|QX<|wE<|QA (FX (kv:=Wo ts) (K:=tx) (p:=(Yu t.t.2,AV t)) rfl .here .u1 hkj)<|QA (QM rfl rfl)<|Qg Zl (fun b5=>QR (vs:=[_,_,_,_,_]) rfl rfl rfl Je rfl .here .h5 wO<|wC<|wE<|QA (QI rfl Z0 Qe)<|QA (QJ (vs:=[_,_,_,_]) rfl Qe .here .h4 rfl)<|QH rfl (fun w F hF h9=>G6 hF ((h9.1.2 t htm).1)) (fun _=>QA (QU rfl rfl rfl)<|QE<|QC ?_))
  refine QQ rfl (fun hc=>?_) (fun hc=>?_)
  ·
   have hnz:t.t.1≠0:=fun e=>by rw [e] at hc;cases hc
   refine QB<|wA rfl<|QA (QJ (vs:=[_,_,_,_,_]) rfl Je .here .h5 rfl)<|QW rfl (Q8 J6) Je Zl rfl rfl (fun b18=>X0 (bs':=(_::_::_::bs)++i.ob) (.cons _ (.cons _ (.cons _ aj))) ?_)
   refine Kf (ob:=i.ob) (k:=1) (sz:=5) (news:=Ym t) rfl rfl J6 Je Zl rfl Aw i.hr (Src.row (off:=0) (fun F h9=>h9.2) (fun j v hv=>by rw [aN];show((Ym t).toArray)[j]?=some v;rw [az];exact hv) rfl) (by omega) (by omega) (R9 t) (fun v19 ob19 hr19=>?_)
   refine X0 (bs':=_::_::_::(ob19++bs)) (.cons _ (.cons _ (.cons _ aj)))<|wB rfl<|QE<|Qk ?_
   exact Qo (⟨i.seen++[j],v19,i.n+1,ob19,by rw [O2 hte hnz,aJ];simpa using hr19,hs1,hs2,by rw [O2 hte hnz,ao,i.hn];rfl⟩) (by show _ - (i.seen++[j]).length<_;rw [ao];simp only [aX];omega) wL (.cons _ wG) (fun F h=>⟨h.1.1.1,trivial⟩)
  ·
   have hz:t.t.1=0:=Bf.1 (by simpa using hc)
   refine QO<|Qk ?_
   exact Qo (⟨i.seen++[j],i.v,i.n,i.ob,by rw [xx hte hz];exact i.hr,hs1,hs2,by rw [xx hte hz];exact i.hn⟩) (by show _ - (i.seen++[j]).length<_;rw [ao];simp only [aX];omega) wL (.cons _ wG) (fun F h=>⟨h.1.1,trivial⟩)
 ·
  obtain rfl:x=none:=by
   cases x with
   |none=>rfl
   |some j=>cases hc
  rw [show cV (Wo ts).length i.seen none=∀ j,j<(Wo ts).length→j∈i.seen from rfl,Fj] at hx
  refine Qz ?_
  repeat (first | refine Qb ?_ | refine QV (by rfl) ?_)
  refine Qc<|QC<|wF rfl<|XO rfl (List.perm_middle.trans (.cons _ bW)).symm (OB Cc i.hr (fun F ⟨⟨hG0,hT⟩,_⟩ t ht=>hT t (Aa i.lt ht)) (fun t ht=>hI.pw t (Aa i.lt ht)) i.hn (by have:=G4 _ _ i.nd i.lt;omega)) (fun c=>JO _ (fun w F hF h=>h.2) (fun hso=>?_))
  obtain ⟨r,hv,hrn,hrc,hfix⟩:=Qx.fix (w0:=w0) (F0:=F0) (bs1:=(b7,Fl m (Wo ts).length (dP i.seen none))::(m,ZD tx (Wo ts))::bs) (G:=_) hso.1
  refine X0 aj<|DM hfix ?_
  rw [hv]
  refine wC<|wF rfl<|wD rfl<|QS ?_
  exact Y5 (⟨r,c.1⟩) rfl (.tmp rfl .nil) (rfl) (fun w h=>St.imp h (.cons _ wG) (fun F h9=>⟨h9.1.1.1.1,by rw [hrn];exact h9.2,fun t ht=>h9.1.1.1.2 t (Aa i.lt (hso.2.1.mem_iff.1 ht)),L7 hI i.nd i.lt hx hso.2.1 hso.2.2,by rw [hrn];exact hrc,hso.2.1.length_eq.trans (i.hn.trans hrn.symm)⟩))
end
section
variable [Dr] [df:Df] {P:aS} {N:Nat} {m:Sl} {w0:ag} {F0:Gs} {bs:List (Nat×Obj)} {G:Gs→Prop}
theorem qu {T yT ty e:aK} {x y:bF} {q:Option Addr} {n c:Nat} {Y:ag→Prop} (hx:ev m x=some (.slice q n c)) (hy:ev m y=some (.slice none 0 0)) (hT:BM P T=some e):Qt P N m Y (.binOp .eql T x y yT) ty (.bool q.isNone):=fun a w _ _ _ _ ha _=>by
 have:=Lib.run_eql_slice_nil (P:=P) w T e q n c 0 0 (Q8 hT)
 simp [execOp,ha.ev hx,ha.ev hy,eqGuard,this]
theorem Src.cL {sz k c:Nat} {a:Addr} {news:List aF} (hr:∀ F,G F→Q6 F (some a) k sz news) (hl:news.length=k*sz):Src ⟨w0,F0,bs,G⟩ sz (.slice (some a) k c) k news:=by
 refine⟨hl,.inr ⟨a,c,rfl,fun w hw j v hv=>?_⟩⟩
 have hk:0<k:=by
  rcases eH k with h | h
  ·rw [h,ez] at hl;rw [List.length_eq_zero_iff.1 hl] at hv;simp at hv
  ·exact h
 obtain ⟨F,h⟩:=id hw
 obtain ⟨b,off,_,_,e,_,_⟩:=(hr F h.hG).2 hk
 cases e
 rw [Kt];exact VA hw hr hk hv
theorem O0 {F:Gs} {n c:Nat} {l:List Int} (h:JR F ⟨none,n,c⟩ l):Qx 3 1 (.slice none 0 0) n (l.map Qy) []:=by
 obtain ⟨⟨_,h1⟩,h2,_⟩:=h
 have h0:n=0:=by
  rcases eH n with h | h
  ·exact h
  ·obtain ⟨_,_,_,_,e,_⟩:=h1 h;cases e
 subst h0
 rw [List.length_eq_zero_iff.1 h2];exact .nil
theorem jf (l:List Int):∀ v∈l.map Qy,v.oneCell'=true:=by
 intro v hv
 obtain ⟨x,_,rfl⟩:=List.mem_map.1 hv
 rfl
end
section
variable {w0:ag} {F0:Gs} {bs:List (Nat×Obj)} {G:Gs→Prop}
theorem Sh {r:Sr} {l:List Int} (hG:∀ F,G F→JR F r l) (hn:l.length=r.n) (hl:l.length≤1000000000) :
  XD Tryz.prog 133 [r.v] ⟨w0,F0,bs,G⟩ (fun(c:aF×List (Nat×Obj))=>c.1) (fun c=>⟨w0,F0,bs++c.2,fun F=>G F∧Qx 3 1 c.1 r.n (l.map Qy) c.2⟩):=by
 obtain ⟨q,n,c⟩:=r
 dsimp only [Sr.v] at hn ⊢
 refine XD.intro Tryz.func133 rfl (by rfl) rfl rfl<|Ss hG<|wE<|wD rfl<|QG<|wF rfl<|QA (qu rfl rfl Qf)<|QE<|QC ?_
 refine QQ rfl (fun hc=>?_) (fun hc=>?_)
 ·
  obtain rfl:q=none:=by
   cases q with
   |none=>rfl
   |some a=>cases hc
  refine wE<|wD rfl<|QS ?_
  exact Y5 (⟨.slice none 0 0,[]⟩) rfl (.tmp rfl .nil) (rfl) (fun w h=>St.imp h (by simp) (fun F h9=>⟨h9.1,O0 h9.2⟩))
 ·
  obtain ⟨a,rfl⟩:∃ a,q=some a:=by
   cases q with
   |none=>cases hc
   |some a=>exact⟨a,rfl⟩
  refine QO<|QC<|wE<|Gn (Q8 Qf) Qp (fun b5=>wA rfl<|X0 (bs':=bs++[(b5,.cells ([]++[]:List aF).toArray 3 (0,0))]) (aj (l₁:=[_]))<|Kf (ob:=[(b5,.cells ([]++[]:List aF).toArray 3 (0,0))]) (n:=0) (k:=n) (sz:=1) (news:=l.map Qy) rfl rfl Qf Qp Vv rfl Dp (.some rfl rfl (ax _) (by decide)) (Src.cL (fun F hG=>hG.2.1) (by simp [hn])) (by omega) (by omega) (jf l) (fun v7 ob7 hr7=>?_))
  rw [aN,ab] at hr7
  refine wD rfl<|QS ?_
  exact Y5 (⟨v7,ob7⟩) rfl (.tmp rfl .nil) (rfl) (fun w h=>St.imp h wG (fun F h9=>⟨h9.1,hr7⟩))
end
structure V5 where
 f:List UInt8
 r:Sr
 k:List Int
instance :Inhabited V5:=⟨⟨[],⟨none,0,0⟩,[]⟩⟩
def Kl (t:V5):List aF:=[tx t.f,.slice t.r.q t.r.n t.r.cap]
theorem Yb (t:V5):(Kl t).length=2:=rfl
def Zx (F:Gs) (ts:List V5):Prop:=∀ t∈ts,JR F t.r t.k
theorem Zx.le {F F':Gs} {ts:List V5} (h:Zx F ts) (k:Gs.le F F'):Zx F' ts:=fun t ht=>(h t ht).le k
def C0 (t:V5):Tm:=(Jj t.f,t.k)
structure pL (ps:List V5) where
 i:Nat
 ts:List XU
 le:i≤ps.length
 hI:VE ts ((ps.take i).map C0)
theorem L4 (l:List Tm) (i:Nat):Zh (l.take i)≤Zh l:=by
 have:=Xc (l.take i) (l.drop i)
 rw [aG] at this;omega
theorem BW {l:List Tm} {t:Tm} (h:t∈l):JL t.1≤Zh l:=by
 induction l with
 |nil=>cases h
 |cons x l ih =>
  have e:Zh (x::l)=JL x.1+1+Zh l:=by unfold Zh;rw [aC,aO]
  rcases List.mem_cons.1 h with rfl | h
  ·omega
  ·have:=ih h;omega
section
variable {P:aS} {w:ag} {F:Gs} {f:FuncId} {args:List aF} {γ:Type} {val:γ→aF} {fact:γ→Gs→Prop}
theorem XD.toG [Dr] {G0:Gs→Prop} {E':γ→Env} (h:XD P f args ⟨w,F,[],G0⟩ val E') (hF:Fits F w) (hg:∀ F',Gs.le F F'→G0 F') (he:∀ c w',St (E' c) w'→St ⟨w,F,[],fun F=>fact c F⟩ w'):QT P f args w F val fact:=by
 refine⟨h.1,(h.2 w (St.start hF hg)).mono ?_⟩
 rintro e w' ⟨c,rfl,hw⟩
 obtain ⟨F',h'⟩:=he c w' hw
 exact⟨c,F',rfl,h'.ext,h'.le,h'.old,h'.fits,h'.g⟩
theorem Sg {r:Sr} {l:List Int} (hF:Fits F w) (hR:JR F r l) (hl:l.length≤1000000000):QT Tryz.prog 133 [r.v] w F (fun(c:Sr)=>c.v) (fun c F=>JR F c l):=by
 have h:=Sh (w0:=w) (F0:=F) (bs:=[]) (G:=fun F'=>Gs.le F F') (r:=r) (l:=l) (fun F' h=>hR.le h) hR.2.1 hl
 refine⟨h.1,(h.2 w (St.start hF fun _ h=>h)).mono ?_⟩
 rintro e w' ⟨⟨v,ob⟩,rfl,hw⟩
 obtain ⟨F1,h1⟩:=id hw
 have ho:=(h1.hG).2
 dsimp only at ho hw
 obtain ⟨s,hv,hsn,hsc,hfix⟩:=Qx.fix (w0:=w) (F0:=F) (bs1:=[]) ho
 obtain ⟨F',h'⟩:=hfix w' hw
 exact⟨s,F',by rw [hv],h'.ext,h'.le,h'.old,h'.fits,fun F'' hle=>⟨by rw [hsn];exact(h'.g F'' hle).2,by rw [hsn];exact hR.2.1,by rw [hsn];exact hsc⟩⟩
end
section
theorem q8 {w:ag} {F:Gs} {r:Sr} {ps:List V5} (hF:Fits F w) (hGl:JB F) (hR:Q6 F r.q r.n 2 (ps.flatMap Kl)) (hP:Zx F ps) (hn:ps.length=r.n) (hl:ps.length≤100000) (hv:∀ t∈ps,Jg t.f=0∧t.f.length≤1000000∧PW t.k) (hz:Zh (ps.map C0)≤40000000) :
  QT Tryz.prog 130 [r.v] w F (fun(c:Sr×List XU)=>c.1.v) (fun c F=>Jr F c.1 c.2 (Jp (ps.map C0))):=by
 obtain ⟨q,n,cap⟩:=r
 dsimp only [Sr.v] at hn hR ⊢
 refine QT.intro (G:=fun F=>JB F∧Q6 F q n 2 (ps.flatMap Kl)∧Zx F ps) Tryz.func130 rfl (by rfl) rfl rfl hF (fun F' hF'=>⟨hGl.le hF',hR.le hF',hP.le hF'⟩)<|wE<|wD rfl<|wE<|Va tx (fun m=>wD rfl<|QG<|wF rfl<|QA (Qj rfl Xq)<|wA rfl<|wC<|QX<|Jz (ι:=pL ps) [(3,_),(7,_),(8,_)] (fun i=>[(9,.int .i64 ((i.i:Nat):Int))]) (fun i=>[(m,ZD tx (Wo i.ts))]) (fun i F=>Vh F i.ts) (fun i=>ps.length - i.i) (⟨0,[],ai _,VE.nil⟩) wM wK wG (fun _ _ _ h=>by cases h) (fun i=>?_))
 simp only [ae,ab]
 have hi:=i.le
 refine wE<|QA (QU rfl rfl rfl)<|wC<|QG ?_
 refine QQ rfl (fun hc=>?_) (fun hc=>?_)
 ·
  have hlt:i.i<ps.length:=by have:=wI hc;omega
  have hv1:=hv _ (JK hlt)
  have hz1:=L4 (ps.map C0) i.i
  rw [← eV] at hz1
  have hz2:JL (C0 (el ps i.i)).1≤Zh (ps.map C0):=BW (af (JK hlt))
  dsimp only [C0] at hz2
  have hl1:=hv1.2.2.2
  refine QO<|QC<|QG<|QX<|wE<|QA (JH (n:=n) (i.i) (fun F h9=>h9.1.2.1) rfl rfl Xq XT (by omega))<|QA (Xd (n:=n) (vs:=[tx (el ps (i.i)).f,.slice (el ps (i.i)).r.q (el ps (i.i)).r.n (el ps (i.i)).r.cap]) ((i.i)*2) (fun F h9=>h9.1.2.1) (by omega) rfl XT rfl (fun j v hv=>Jy (f:=Kl) (l:=ps) Yb (by omega) hv))<|Qg Xm (fun b5=>QR (vs:=[_,_]) rfl rfl rfl XT rfl .here .h2 wL<|wC<|JV (.cons_cons _ (.cons _ .slnil)) mixed (by kernel_rfl)<|QK (QD rfl)<|QK (QI rfl Wi Jo)<|QK (Qm rfl Jo .here .h1)<|Qd rfl (fun w F hF h9=>Hg hF h9.1.1 ((X6 (hv _ (JK hlt)).1).1) (by have:=(hv _ (JK hlt)).2.1;omega)) (fun x16=>QK (QI rfl Yz Qv)<|QK (Qm rfl Qv .here (.skip .h1))<|Qd rfl (fun w F hF h9=>Sg hF (r:=(el ps i.i).r) (h9.1.1.2.2 _ (JK hlt)) (by omega)) (fun c19=>Uc rfl (bR _ _ _) (BZ (r:=c19) (x:=x16) i.hI hv1.2.2 (by omega) (by omega) (fun F h9=>⟨h9.1.1.1.1,h9.1.1.2,h9.1.2,h9.2⟩)) (fun n w h=>St.imp h (.cons _ wG) (fun F h=>h.1.1.1)) (fun n20=>Mh _ (fun w F hF h=>h.2.2) (fun h20=>?_)))))
  have hI2:VE (addN i.ts n20) ((ps.take (i.i+1)).map C0):=by
   have:=i.hI.add hv1.2.2 h20
   rw [X7 hlt,ak];exact this
  refine Q3<|Qk<|QC<|QB<|QA (Qs rfl rfl (by omega))<|wA rfl<|QE ?_
  exact Qo (⟨i.i+1,addN i.ts n20,hlt,hI2⟩) (by show ps.length - (i.i+1)<ps.length - i.i;omega) wN (.cons_cons _ (.cons _ .slnil)) (fun F h=>⟨h.1.1.1.1,h.2.1⟩)
 ·
  have hge:i.i=ps.length:=by have:=wJ hc;omega
  refine Qz ?_
  repeat (first | refine Qb ?_ | refine QV (by rfl) ?_)
  refine Qc<|QC<|wE<|wA rfl ?_
  have hI:=i.hI
  rw [hge,aq] at hI
  refine XO rfl (aM _) (Gt hI (by have:=hI.ln;rw [ah] at this;omega) (fun F h=>h.2)) (fun c23=>wD rfl<|QS ?_)
  exact QP (c23) rfl (.tmp rfl .nil) (rfl) (fun F h=>h.2)
end
abbrev W9:=Sr×List XU
instance :Inhabited W9:=⟨(⟨none,0,0⟩,[])⟩
def UW (F:Gs) (ls:List W9):Prop:=∀ e∈ls,Jr F e.1 e.2 (JG e.2)
theorem UW.le {F F':Gs} {ls:List W9} (h:UW F ls) (k:Gs.le F F'):UW F' ls:=fun e he=>(h e he).le k
def DH (ls:List W9):List Tm:=ls.flatMap fun e=>JG e.2
structure QAW (ls:List W9) where
 i:Nat
 ts:List XU
 le:i≤ls.length
 hI:VE ts (DH (ls.take i))
structure DQ (l0:List Tm) (te:List XU) where
 j:Nat
 ts:List XU
 le:j≤te.length
 hI:VE ts (l0++JG (te.take j))
theorem Xj {te:List XU} {j:Nat} (h:j<te.length):JG (te.take (j+1))=JG (te.take j)++[(el te j).t]:=by unfold JG;rw [X7 h,ak];rfl
theorem qZ {a b c:List Tm} (e:a++b=c):Zh a≤Zh c:=by rw [← e,Xc];omega
theorem LL {ls:List W9} {i:Nat} (h:i<ls.length):DH (ls.take (i+1))=DH (ls.take i)++JG (el ls i).2:=by unfold DH;rw [X7 h,aJ];simp
theorem j8 {ls:List W9} {i j:Nat} (h:i<ls.length):Zh (DH (ls.take i)++JG ((el ls i).2.take j))≤Zh (DH ls):=by
 have e1:DH ls=DH (ls.take i)++(JG (el ls i).2++DH (ls.drop (i+1))):=by
  have:ls=ls.take i++el ls i::ls.drop (i+1):=by rw [← MI h,aG]
  unfold DH
  conv=>lhs;rw [this]
  rw [aJ,aZ]
 have e2:JG (el ls i).2=JG ((el ls i).2.take j)++JG ((el ls i).2.drop j):=by unfold JG;rw [← ak,aG]
 have h1:=congrArg Zh e1
 have h2:=congrArg Zh e2
 rw [Xc,Xc] at h1
 rw [Xc] at h2
 rw [Xc];omega
theorem ya {w:ag} {F:Gs} {p q:W9} (hF:Fits F w) (hGl:JB F) (hP:Jr F p.1 p.2 (JG p.2)) (hQ:Jr F q.1 q.2 (JG q.2)) (hp:(∀ t∈p.2,PW t.t.2)∧∀ t∈q.2,PW t.t.2) (hl:p.2.length≤400000000∧q.2.length≤400000000) (hz:Zh (JG p.2++JG q.2)≤40000000) :
  QT Tryz.prog 139 [p.1.v,q.1.v] w F (fun(c:W9)=>c.1.v) (fun c F=>Jr F c.1 c.2 (Jp (JG p.2++JG q.2))):=by
 have hpw:∀ e∈[p,q],(∀ t∈e.2,PW t.t.2)∧e.2.length≤400000000∧e.2.length=e.1.n:=by
  intro e he
  simp only [aP,aA,or_false] at he
  rcases he with rfl | rfl
  ·exact⟨hp.1,hl.1,hP.2.2.2.2⟩
  ·exact⟨hp.2,hl.2,hQ.2.2.2.2⟩
 have hall:DH [p,q]=JG p.2++JG q.2:=by simp [DH]
 rw [← hall] at hz ⊢
 dsimp only [Sr.v]
 refine QT.intro (G:=fun F=>JB F∧UW F [p,q]) Tryz.func139 rfl (by rfl) rfl rfl hF (fun F' hF'=>⟨hGl.le hF',UW.le (by intro e he;simp only [aP,aA,or_false] at he;rcases he with rfl | rfl;exact hP;exact hQ) hF'⟩)<|wE<|wD rfl<|wE<|Va tx (fun m=>wD rfl<|QG<|wF rfl<|wA rfl<|QW rfl (Q8 DW) WS Lq rfl rfl (fun b13=>QA (Qj rfl DW)<|wA rfl<|wC<|QX<|Jz (ι:=QAW [p,q]) [(5,_),(13,_),(14,_)] (fun i=>[(15,.int .i64 ((i.i:Nat):Int))]) (fun i=>[(m,ZD tx (Wo i.ts))]) (fun i F=>Vh F i.ts) (fun i=>2 - i.i) (⟨0,[],ai _,VE.nil⟩) wM wK wG (fun _ _ _ h=>by cases h) (fun i=>?_)))
 simp only [ae,ab]
 have hi:=i.le
 simp only [ar,bn] at hi
 refine wE<|QA (QU rfl rfl rfl)<|wC<|QG ?_
 refine QQ rfl (fun hc=>?_) (fun hc=>?_)
 ·
  have hlt:i.i<[p,q].length:=by have:=wI hc;simp only [ar,bn];omega
  have hem:=JK hlt
  have hpe:=hpw _ hem
  have hln:=hpe.2.2
  have hln2:=hpe.2.1
  refine QO<|QC<|QG<|QX<|wE<|QA (JH (n:=2) (i.i) (fun F h9=>Q6.of (n:=2) (sz:=1) (cs:=[p,q].map fun e=>e.1.v) h9.1.2 rfl) rfl rfl DW WS (by simpa using hlt))<|QA (JQ (n:=2) (i.i*1) (fun F h9=>Q6.of (n:=2) (sz:=1) (cs:=[p,q].map fun e=>e.1.v) h9.1.2 rfl) (by decide) rfl WS (Bp (f:=fun e:W9=>e.1.v) (l:=[p,q]) hlt))<|wD rfl<|wF rfl<|QA (Qj rfl J6)<|wA rfl<|wC<|QX<|Jz (ι:=DQ (DH ([p,q].take i.i)) (el [p,q] i.i).2) [(5,_),(13,_),(14,_),(15,_),(19,_),(20,_)] (fun i2=>[(21,.int .i64 ((i2.j:Nat):Int))]) (fun i2=>[(m,ZD tx (Wo i2.ts))]) (fun i2 F=>Vh F i2.ts) (fun i2=>(el [p,q] i.i).2.length - i2.j) (⟨0,i.ts,ai _,by simpa [JG] using i.hI⟩) wP wK wG (fun _ h=>h.2) (fun i2=>?_)
  simp only [ae,ab]
  have hj:=i2.le
  refine wE<|QA (QU rfl rfl rfl)<|wC<|QG ?_
  refine QQ rfl (fun hc=>?_) (fun hc=>?_)
  ·
   have hlt2:i2.j<(el [p,q] i.i).2.length:=by have:=wI hc;omega
   have htm:=JK hlt2
   have hz1:=j8 (j:=i2.j) hlt
   have hz2:JL (el (el [p,q] i.i).2 i2.j).t.1≤Zh (DH [p,q]):=BW (List.mem_flatMap.2 ⟨_,hem,af htm⟩)
   refine QO<|QC<|QG<|QX<|wE<|QA (JH (n:=(el [p,q] i.i).1.n) (i2.j) (fun F h9=>(h9.1.1.1.2 _ hem).1) rfl rfl J6 Je (by omega))<|QA (Xd (n:=(el [p,q] i.i).1.n) (vs:=[.int .i64 (el (el [p,q] i.i).2 (i2.j)).x.n.s,.slice (el (el [p,q] i.i).2 (i2.j)).x.n.q (el (el [p,q] i.i).2 (i2.j)).x.n.n (el (el [p,q] i.i).2 (i2.j)).x.n.cap,.int .i64 (el (el [p,q] i.i).2 (i2.j)).x.d.s,.slice (el (el [p,q] i.i).2 (i2.j)).x.d.q (el (el [p,q] i.i).2 (i2.j)).x.d.n (el (el [p,q] i.i).2 (i2.j)).x.d.cap,.slice (el (el [p,q] i.i).2 (i2.j)).r.q (el (el [p,q] i.i).2 (i2.j)).r.n (el (el [p,q] i.i).2 (i2.j)).r.cap]) ((i2.j)*5) (fun F h9=>(h9.1.1.1.2 _ hem).1) (by omega) rfl Je rfl (fun j v hv=>Jy (f:=Ym) (l:=(el [p,q] i.i).2) YP (by omega) hv))<|Qg Zl (fun b9=>QR (vs:=[_,_,_,_,_]) rfl rfl rfl Je rfl .here .h5 wO<|wC<|QB<|wA rfl<|QA (QI rfl Z0 Qe)<|QA (QJ (vs:=[_,_,_,_]) rfl Qe .here .h4 rfl)<|QA (QI rfl X8 Qv)<|QA (Qm rfl Qv .here (.skip (.skip (.skip (.skip .h1)))))<|XO rfl (bR _ _ _) (BZ (r:=(el (el [p,q] i.i).2 i2.j).r) (x:=(el (el [p,q] i.i).2 i2.j).x) i2.hI (hpe.1 _ htm) (by omega) (by omega) (fun F h9=>⟨h9.1.1.1.1,h9.2,((h9.1.1.1.2 _ hem).2.1 _ htm).1,((h9.1.1.1.2 _ hem).2.1 _ htm).2⟩)) (fun n30=>JO _ (fun w F hF h=>h.2.2) (fun h30=>QE<|Qk<|QC<|QB<|QA (Qs rfl rfl (by omega)) ?_)))
   refine wA rfl<|QE ?_
   exact Qo (⟨i2.j+1,addN i2.ts n30,hlt2,by rw [Xj hlt2,← eI];exact i2.hI.add (hpe.1 _ htm) h30⟩) (by show _ - (i2.j+1)<_ - i2.j;omega) wQ (.cons_cons _ (.cons _ .slnil)) (fun F h=>⟨h.1.1,h.2.1⟩)
  ·
   have hge2:i2.j=(el [p,q] i.i).2.length:=by have:=wJ hc;omega
   refine Qz ?_
   repeat (first | refine Qb ?_ | refine QV (by rfl) ?_)
   refine Qc<|Qk<|QC<|QB<|QA (Qs rfl rfl (by omega))<|wA rfl<|QE ?_
   exact Qo (⟨i.i+1,i2.ts,hlt,by rw [LL hlt];have:=i2.hI;rw [hge2,aq] at this;exact this⟩) (by show 2 - (i.i+1)<2 - i.i;simp only [ar,bn] at hlt;omega) wN wG (fun F h=>⟨h.1.1,h.2⟩)
 ·
  have hge:i.i=[p,q].length:=by have:=wJ hc;simp only [ar,bn];omega
  refine Qz ?_
  repeat (first | refine Qb ?_ | refine QV (by rfl) ?_)
  refine Qc<|QC<|wE<|wA rfl ?_
  have hI:=i.hI
  rw [hge,aq] at hI
  refine XO rfl (aM _) (Gt hI (by have:=hI.ln;rw [hall,ao] at this;simp only [JG,ah] at this;omega) (fun F h=>h.2)) (fun c34=>wD rfl<|QS ?_)
  exact QP (c34) rfl (.tmp rfl .nil) (rfl) (fun F h=>h.2)
section
variable {P:aS} {Q:Exit→Act→ag→Prop} {N:Nat} {m:Sl} {E0:Env} {ops:Array Oper} {l:List Oper} {w0:ag} {F0:Gs} {bs:List (Nat×Obj)} {G:Gs→Prop}
theorem Mi [Dr] {bs':List (Nat×Obj)} (hp:bs.Perm bs') (k:JD P ops Q E0 l N m ⟨w0,F0,bs',G⟩):JD P ops Q E0 l N m ⟨w0,F0,bs,G⟩:=fun hE a w ha hw=>k (fun w h=>hE w (h.perm hp.symm)) a w ha (hw.perm hp)
end
def KI (a:Rat) (l:List Tm):List Tm:=if a=0 then [] else l.map fun t=>(t.1*a,t.2)
structure QAH (a:Rat) (ts:List XU) where
 i:Nat
 v:aF
 ob:List (Nat×Obj)
 out:List XU
 le:i≤ts.length
 hr:Qx 165 5 v i (out.flatMap Ym) ob
 ho:JG out=(JG (ts.take i)).map fun t=>(t.1*a,t.2)
theorem jD {a:Rat} {ts out:List XU} {i:Nat} (hi:i≤ts.length) (h:JG out=(JG (ts.take i)).map fun t=>(t.1*a,t.2)):out.length=i:=by
 have:=congrArg ba h
 simp only [JG,ah,aB] at this
 omega
theorem Of {w:ag} {F:Gs} {p:W9} {x:Fr} {a:Rat} (hF:Fits F w) (hP:Jr F p.1 p.2 (JG p.2)) (hA:JY F x a) (hl:p.2.length≤1000000) (ha:JL a≤40000000) (hz:Zh (JG p.2)≤40000000) :
  QT Tryz.prog 183 [p.1.v,x.v] w F (fun(c:W9)=>c.1.v) (fun c F=>Jr F c.1 c.2 (KI a (JG p.2))):=by
 obtain ⟨⟨q,n,cap⟩,ts⟩:=p
 have hln:ts.length=n:=hP.2.2.2.2
 dsimp only [Sr.v,Fr.v] at hP hl hz ⊢
 refine QT.intro (G:=fun F=>Jr F ⟨q,n,cap⟩ ts (JG ts)∧JY F x a) Tryz.func183 rfl (by rfl) rfl rfl hF (fun F' hF'=>⟨hP.le hF',hA.le hF'⟩)<|wE<|Q2 rfl (vs:=[_,_,_,_]) rfl (fun b3=>wD rfl<|QG<|wE<|QA (QJ (vs:=[_,_,_,_]) rfl Qe .here .h4 rfl)<|QH rfl (fun w F hF ⟨hP,⟨hxn,hxd⟩⟩=>G6 hF ⟨by assumption,by assumption⟩) (fun _=>QA (QU rfl rfl rfl)<|QE<|QC ?_))
 refine QQ rfl (fun hc=>?_) (fun hc=>?_)
 ·
  have ha0:a=0:=Bf.1 (by simpa using hc)
  refine wE<|wD rfl<|QS ?_
  exact QP ((⟨none,0,0⟩,[])) rfl (.tmp rfl .nil) (rfl) (fun F h9=>⟨Q6.nil F none 5,(fun _ h=>by cases h),by unfold KI;rw [if_pos ha0];rfl,ax _,rfl⟩)
 ·
  have ha0:a≠0:=fun e=>by rw [e] at hc;cases hc
  refine QO<|QC<|wE<|wD rfl<|QG<|wF rfl<|QA (Qj rfl J6)<|wA rfl<|wC<|QX<|Jz (ι:=QAH a ts) [(3,_),(11,_),(12,_)] (fun i=>[(5,i.v),(13,.int .i64 ((i.i:Nat):Int))]) (fun i=>(b3,.cells [.int .i64 x.n.s,.slice x.n.q x.n.n x.n.cap,.int .i64 x.d.s,.slice x.d.q x.d.n x.d.cap].toArray 130 (0,0))::i.ob) (fun i F=>Vh F i.out) (fun i=>ts.length - i.i) (⟨0,_,[],[],ai _,.nil,by simp [JG]⟩) wM wL wG (fun _ _ _ h=>by cases h) (fun i=>?_)
  simp only [ae,ab]
  have hi:=i.le
  refine wE<|QA (QU rfl rfl rfl)<|wC<|QG ?_
  refine QQ rfl (fun hc=>?_) (fun hc=>?_)
  ·
   have hlt:i.i<ts.length:=by have:=wI hc;omega
   have htm:=JK hlt
   have hz2:JL (el ts i.i).t.1≤Zh (JG ts):=BW (af htm)
   refine QO<|QC<|QG<|QX<|wE<|QA (JH (n:=n) (i.i) (fun F h9=>(h9.1.1.1).1) rfl rfl J6 Je (by omega))<|QA (Xd (n:=n) (vs:=[.int .i64 (el ts (i.i)).x.n.s,.slice (el ts (i.i)).x.n.q (el ts (i.i)).x.n.n (el ts (i.i)).x.n.cap,.int .i64 (el ts (i.i)).x.d.s,.slice (el ts (i.i)).x.d.q (el ts (i.i)).x.d.n (el ts (i.i)).x.d.cap,.slice (el ts (i.i)).r.q (el ts (i.i)).r.n (el ts (i.i)).r.cap]) ((i.i)*5) (fun F h9=>(h9.1.1.1).1) (by omega) rfl Je rfl (fun j v hv=>Jy (f:=Ym) (l:=ts) YP (by omega) hv))<|Qg Zl (fun b7=>QR (vs:=[_,_,_,_,_]) rfl rfl rfl Je rfl .here .h5 wO<|wC<|JV (.cons_cons _ (.cons_cons _ (aQ _))) mixed (by kernel_rfl)<|QK (QD rfl)<|QK (QI rfl Z0 Qe)<|QK (QJ (vs:=[_,_,_,_]) rfl Qe .here .h4 rfl)<|QK (QJ (vs:=[_,_,_,_]) rfl Qe .u1 .h4 rfl)<|Qd rfl (fun w F hF ⟨⟨⟨hP,⟨hxn,hxd⟩⟩,_⟩,hT⟩=>KX hF (hP.2.1 _ htm |>.1) ⟨by assumption,by assumption⟩ (by omega) (by omega)) (fun x21=>QK (QI rfl X8 Qv)<|QK (Qm rfl Qv .here (.skip (.skip (.skip (.skip .h1)))))<|QK (Q7 rfl NH Zl (.cons (vs:=[_,_,_,_]) rfl rfl rfl .h4 (.cons (vs:=[_]) rfl rfl rfl (.skip (.skip (.skip (.skip .h1)))) .nil))) ?_))
   refine Ju rfl (Q8 J6) Je Zl rfl rfl (fun b25=>?_) (fun w h=>h.imp (.cons_cons _ (.cons_cons _ (aQ _))) (fun F h=>h.1))
   refine Mi (aj (l₁:=[_,_])) ?_
   refine Dx (n:=i.i) (k:=1) (sz:=5) (news:=Ym ⟨x21,(el ts i.i).r,((el ts i.i).t.1*a,(el ts i.i).t.2)⟩) rfl rfl J6 Je Zl rfl Aw i.hr (Src.row (off:=0) (fun F h9=>h9.2) (fun j v hv=>by rw [aN];show((Ym ⟨x21,(el ts i.i).r,((el ts i.i).t.1*a,(el ts i.i).t.2)⟩).toArray)[j]?=some v;rw [az];exact hv) rfl) (by omega) (by omega) (R9 _) wG (fun _ h=>h.1.1) (fun v26 ob26 hr26=>?_)
   refine Mi (aj (l₂:=[_,_]))<|QK (QF rfl)<|Q3<|Qk<|QC<|QB<|QA (Qs rfl rfl (by omega))<|wA rfl<|QE ?_
   exact Qo (⟨i.i+1,v26,ob26,i.out++[⟨x21,(el ts i.i).r,((el ts i.i).t.1*a,(el ts i.i).t.2)⟩],hlt,by rw [aJ];simpa using hr26,by rw [Xj hlt,ak,← i.ho];simp [JG]⟩) (by show ts.length - (i.i+1)<ts.length - i.i;omega) wO (.cons _ wG) (fun F ⟨⟨⟨hB,hT⟩,⟨h21,h21_⟩⟩,_⟩=>⟨hB,fun t ht=>by
   rcases List.mem_append.1 ht with ht | ht
   ·exact hT t ht
   ·rw [List.mem_singleton.1 ht];exact⟨⟨h21,h21_⟩,(hB.1.1.2.1 _ htm).2⟩⟩)
  ·
   have hge:i.i=ts.length:=by have:=wJ hc;omega
   refine Qz ?_
   repeat (first | refine Qb ?_ | refine QV (by rfl) ?_)
   refine Qc<|QC<|QG<|QB ?_
   obtain ⟨r,hv,hrn,hrc,hfix⟩:=Qx.fix (w0:=w) (F0:=F) (bs1:=[_]) (G:=_) i.hr
   refine DM hfix ?_
   rw [hv]
   refine wA rfl<|wD rfl<|QS ?_
   exact QP ((r,i.out)) rfl (.tmp rfl .nil) (rfl) (fun F h9=>⟨by rw [hrn];exact h9.2,h9.1.2,by unfold KI;rw [if_neg ha0,i.ho,hge,aq],by rw [hrn];exact hrc,by rw [hrn];exact jD hi i.ho⟩)
abbrev Pt:=List (List UInt8×List Int)
def J2 (ts:List V5):Pt:=ts.map fun t=>(t.f,t.k)
def ZQ (l:List Tm):Pt:=l.map fun t=>(JN t.1,t.2)
def YR (F:Gs) (s:Sr) (ts:List V5) (p:Pt):Prop:=Q6 F s.q s.n 2 (ts.flatMap Kl)∧Zx F ts∧J2 ts=p∧s.n≤s.cap∧ts.length=s.n
theorem YR.le {F F':Gs} {s:Sr} {ts:List V5} {p:Pt} (h:YR F s ts p) (k:Gs.le F F'):YR F' s ts p:=⟨h.1.le k,h.2.1.le k,h.2.2⟩
abbrev KG:=Sr×List V5
theorem j4 (t:V5):∀ v∈Kl t,v.oneCell'=true:=by
 intro v hv
 unfold Kl at hv
 simp only [aP,aA,or_false] at hv
 rcases hv with rfl | rfl<;>rfl
structure QAF (ts:List XU) where
 i:Nat
 v:aF
 ob:List (Nat×Obj)
 out:List V5
 le:i≤ts.length
 hr:Qx 122 2 v i (out.flatMap Kl) ob
 ho:J2 out=ZQ (JG (ts.take i))
theorem kS {ts:List XU} {out:List V5} {i:Nat} (hi:i≤ts.length) (h:J2 out=ZQ (JG (ts.take i))):out.length=i:=by
 have:=congrArg ba h
 simp only [J2,ZQ,JG,ah,aB] at this
 omega
theorem qz {w:ag} {F:Gs} {p:W9} (hF:Fits F w) (hGl:JB F) (hP:Jr F p.1 p.2 (JG p.2)) (hp:∀ t∈p.2,PW t.t.2) (hl:p.2.length≤1000000) (hz:∀ t∈p.2,JL t.t.1≤100000000) :
  QT Tryz.prog 221 [p.1.v] w F (fun(c:KG)=>c.1.v) (fun c F=>YR F c.1 c.2 (ZQ (JG p.2))):=by
 obtain ⟨⟨q,n,cap⟩,ts⟩:=p
 have hln:ts.length=n:=hP.2.2.2.2
 dsimp only [Sr.v] at hP hl hz ⊢
 refine QT.intro (G:=fun F=>JB F∧Jr F ⟨q,n,cap⟩ ts (JG ts)) Tryz.func221 rfl (by rfl) rfl rfl hF (fun F' hF'=>⟨hGl.le hF',hP.le hF'⟩)<|wE<|wD rfl<|wE<|wD rfl<|QG<|wF rfl<|QA (Qj rfl J6)<|wA rfl<|wC<|QX<|Jz (ι:=QAF ts) [(6,_),(7,_)] (fun i=>[(3,i.v),(8,.int .i64 ((i.i:Nat):Int))]) (fun i=>i.ob) (fun i F=>Zx F i.out) (fun i=>ts.length - i.i) (⟨0,_,[],[],ai _,.nil,by simp [JG,J2,ZQ]⟩) wL wL wG (fun _ _ _ h=>by cases h) (fun i=>?_)
 simp only [ae,ab]
 have hi:=i.le
 refine wE<|QA (QU rfl rfl rfl)<|wC<|QG ?_
 refine QQ rfl (fun hc=>?_) (fun hc=>?_)
 ·
  have hlt:i.i<ts.length:=by have:=wI hc;omega
  have htm:=JK hlt
  refine QO<|QC<|QG<|QX<|wE<|QA (JH (n:=n) (i.i) (fun F h9=>(h9.1.2).1) rfl rfl J6 Je (by omega))<|QA (Xd (n:=n) (vs:=[.int .i64 (el ts (i.i)).x.n.s,.slice (el ts (i.i)).x.n.q (el ts (i.i)).x.n.n (el ts (i.i)).x.n.cap,.int .i64 (el ts (i.i)).x.d.s,.slice (el ts (i.i)).x.d.q (el ts (i.i)).x.d.n (el ts (i.i)).x.d.cap,.slice (el ts (i.i)).r.q (el ts (i.i)).r.n (el ts (i.i)).r.cap]) ((i.i)*5) (fun F h9=>(h9.1.2).1) (by omega) rfl Je rfl (fun j v hv=>Jy (f:=Ym) (l:=ts) YP (by omega) hv))<|Qg Zl (fun b5=>QR (vs:=[_,_,_,_,_]) rfl rfl rfl Je rfl .here .h5 wO<|wC<|JV (.cons_cons _ (aQ _)) mixed (by kernel_rfl)<|QK (QD rfl)<|QK (QI rfl Z0 Qe)<|QK (QJ (vs:=[_,_,_,_]) rfl Qe .here .h4 rfl)<|Qd rfl (fun w F hF h9=>MG hF h9.1.1 (h9.1.2.2.1 _ htm |>.1) (hz _ htm)) (fun _=>QK (QI rfl X8 Qv)<|QK (Qm rfl Qv .here (.skip (.skip (.skip (.skip .h1)))))<|Qd rfl (fun w F hF h9=>Sg hF (r:=(el ts i.i).r) (h9.1.1.2.2.1 _ htm).2 (by have:=(hp _ htm).2;omega)) (fun c18=>QK (Q7 rfl ZW Xm (.cons (vs:=[_]) rfl rfl rfl .h1 (.cons (vs:=[_]) rfl rfl rfl (.skip .h1) .nil))) ?_)))
  refine Ju rfl (Q8 Xq) XT Xm rfl rfl (fun b20=>?_) (fun w h=>h.imp (.cons_cons _ (aQ _)) (fun F h=>h.1.1))
  refine Mi (aj (l₁:=[_])) ?_
  refine Dx (n:=i.i) (k:=1) (sz:=2) (news:=Kl ⟨JN (el ts i.i).t.1,c18,(el ts i.i).t.2⟩) rfl rfl Xq XT Xm rfl kO i.hr (Src.row (off:=0) (fun F h9=>h9.2) (fun j v hv=>by rw [aN];show((Kl ⟨JN (el ts i.i).t.1,c18,(el ts i.i).t.2⟩).toArray)[j]?=some v;rw [az];exact hv) rfl) (by omega) (by omega) (j4 _) wG (fun _ h=>h.1.1.1) (fun v21 ob21 hr21=>?_)
  refine Mi (aj (l₂:=[_]))<|QK (QF rfl)<|Q3<|Qk<|QC<|QB<|QA (Qs rfl rfl (by omega))<|wA rfl<|QE ?_
  exact Qo (⟨i.i+1,v21,ob21,i.out++[⟨JN (el ts i.i).t.1,c18,(el ts i.i).t.2⟩],hlt,by rw [aJ];simpa using hr21,by unfold J2 ZQ;rw [Xj hlt,ak,ak];have:=i.ho;unfold J2 ZQ at this;rw [this];rfl⟩) (by show ts.length - (i.i+1)<ts.length - i.i;omega) wN (.cons _ wG) (fun F ⟨⟨⟨⟨hB,hT⟩,_⟩,h18⟩,_⟩=>⟨hB,fun t ht=>by
   rcases List.mem_append.1 ht with ht | ht
   ·exact hT t ht
   ·rw [List.mem_singleton.1 ht];exact h18⟩)
 ·
  have hge:i.i=ts.length:=by have:=wJ hc;omega
  refine Qz ?_
  repeat (first | refine Qb ?_ | refine QV (by rfl) ?_)
  refine Qc<|QC<|QG<|QB ?_
  obtain ⟨r,hv,hrn,hrc,hfix⟩:=Qx.fix (w0:=w) (F0:=F) (bs1:=[]) (G:=_) i.hr
  refine DM hfix ?_
  rw [hv]
  refine wA rfl<|wD rfl<|QS ?_
  exact QP ((r,i.out)) rfl (.tmp rfl .nil) (rfl) (fun F h9=>⟨by rw [hrn];exact h9.2,h9.1.2,by rw [i.ho,hge,aq],by rw [hrn];exact hrc,by rw [hrn];exact kS hi i.ho⟩)
theorem Qx.pos {T:aK} {sz n:Nat} {v:aF} {cs:List aF} {ob:List (Nat×Obj)} (h:Qx T sz v n cs ob) (hn:0<n):∃ b cap rest,v = .slice (Option.some ⟨b,0,Option.none⟩) n cap∧ob=[(b,.cells (cs++rest).toArray T (0,0))]∧cs.length=n*sz∧cs.length+rest.length=cap*sz∧n≤cap∧cap≤maxLen:=by
 cases h with
 |nil=>omega
 |some h1 h2 h3 h4=>exact⟨_,_,_,rfl,rfl,h1,h2,h3,h4⟩
structure PmO (p q:List XU) where
 i:Nat
 ts:List XU
 le:i≤p.length
 hI:VE ts (JM (JG (p.take i)) (JG q))
structure PmJ (l0:List Tm) (s:Tm) (q:List XU) where
 j:Nat
 ts:List XU
 le:j≤q.length
 hI:VE ts (l0++Jw s (JG (q.take j)))
structure PmK (n:Nat) (a b:List Int) where
 k:Nat
 L:List Int
 v:aF
 ob:List (Nat×Obj)
 le:k≤b.length
 hr:Qx 3 1 v n (L.map Qy) ob
 hL:L=J4 (a.take k) (b.take k)++a.drop k
theorem LO {a b:List Int} {k:Nat} (h1:k<a.length) (h2:k<b.length):(J4 (a.take k) (b.take k)++a.drop k).set k (Qa a k+Qa b k)=J4 (a.take (k+1)) (b.take (k+1))++a.drop (k+1):=by
 have hl:(J4 (a.take k) (b.take k)).length=k:=by unfold J4;rw [bN,aB,aB];omega
 have hs:J4 (a.take (k+1)) (b.take (k+1))=J4 (a.take k) (b.take k)++[Qa a k+Qa b k]:=by
  rw [X7 h1,X7 h2,Xy h1,Xy h2]
  unfold J4
  rw [List.zipWith_append (by rw [aB,aB];omega)];rfl
 rw [hs,MI h1,List.set_append_right _ _ (by omega),hl,Nat.sub_self]
 simp
theorem US {a b:List Int} {k:Nat} (h1:k<a.length) (h2:k<b.length):Qa (J4 (a.take k) (b.take k)++a.drop k) k=Qa a k:=by
 have hl:(J4 (a.take k) (b.take k)).length=k:=by unfold J4;rw [bN,aB,aB];omega
 have h3:k<(J4 (a.take k) (b.take k)++a.drop k).length:=by rw [ao,hl,List.length_drop];omega
 rw [Xy h3,Xy h1,X5 h3,X5 h1,List.getElem_append_right (by omega)]
 simp [hl]
theorem NF {p q:List XU} {i:Nat} (h:i<p.length):JM (JG (p.take (i+1))) (JG q)=JM (JG (p.take i)) (JG q)++Jw (el p i).t (JG q):=by
 rw [Xj h,Wa];congr 1;simp [JM]
theorem Oh {p q:List XU} {i j:Nat} (h:i<p.length):Zh (JM (JG (p.take i)) (JG q)++Jw (el p i).t (JG (q.take j)))≤Zh (JM (JG p) (JG q)):=by
 have e1:JG p=JG (p.take (i+1))++JG (p.drop (i+1)):=by unfold JG;rw [← ak,aG]
 have e2:JG q=JG (q.take j)++JG (q.drop j):=by unfold JG;rw [← ak,aG]
 have h1:Zh (JM (JG p) (JG q))=Zh (JM (JG (p.take (i+1))++JG (p.drop (i+1))) (JG q)):=by rw [← e1]
 rw [Wa,NF h,Xc,Xc] at h1
 have h2:Zh (Jw (el p i).t (JG q))=Zh (Jw (el p i).t (JG (q.take j)++JG (q.drop j))):=by rw [← e2]
 rw [Wv,Xc] at h2
 rw [Xc];omega
theorem Pz (p q:List Tm):(JM p q).length=p.length*q.length:=by
 induction p with
 |nil=>simp [JM]
 |cons s p ih=>rw [X2,ao,ih,ar,aT];simp [Jw];omega
theorem yj {a b:Nat} (h:a≤10000) (k:b≤10000):a*b≤100000000:=bc h k
theorem yV {w:ag} {F:Gs} {p q:W9} {N:Nat} (hF:Fits F w) (hGl:JB F) (hP:Jr F p.1 p.2 (JG p.2)) (hQ:Jr F q.1 q.2 (JG q.2)) (hw:(∀ t∈p.2,t.t.2.length=N)∧∀ t∈q.2,t.t.2.length=N) (hN:N≤1000) (hl:p.2.length≤10000∧q.2.length≤10000)
  (hpw:(∀ t∈p.2,PW t.t.2)∧(∀ t∈q.2,PW t.t.2)∧∀ s∈p.2,∀ t∈q.2,PW (J4 s.t.2 t.t.2)) (hz1:Zh (JG p.2)≤20000000∧Zh (JG q.2)≤20000000) (hz:Zh (JM (JG p.2) (JG q.2))≤40000000) :
  QT Tryz.prog 223 [p.1.v,q.1.v] w F (fun(c:W9)=>c.1.v) (fun c F=>Jr F c.1 c.2 (Jp (JM (JG p.2) (JG q.2)))):=by
 have hpn:=hP.2.2.2.2
 have hqn:=hQ.2.2.2.2
 dsimp only [Sr.v]
 refine QT.intro (G:=fun F=>JB F∧Jr F p.1 p.2 (JG p.2)∧Jr F q.1 q.2 (JG q.2)) Tryz.func223 rfl (by rfl) rfl rfl hF (fun F' hF'=>⟨hGl.le hF',hP.le hF',hQ.le hF'⟩)<|wE<|wD rfl<|wE<|Va tx (fun m=>wD rfl<|QG<|wF rfl<|QA (Qj rfl J6)<|wA rfl<|wC<|QX<|Jz (ι:=PmO p.2 q.2) [(1,_),(5,_),(14,_),(15,_)] (fun i=>[(16,.int .i64 ((i.i:Nat):Int))]) (fun i=>[(m,ZD tx (Wo i.ts))]) (fun i F=>Vh F i.ts) (fun i=>p.2.length - i.i) (⟨0,[],ai _,VE.nil⟩) wN wK wG (fun _ _ _ h=>by cases h) (fun i=>?_))
 simp only [ae,ab]
 have hi:=i.le
 refine wE<|QA (QU rfl rfl rfl)<|wC<|QG ?_
 refine QQ rfl (fun hc=>?_) (fun hc=>?_)
 ·
  have hlt:i.i<p.2.length:=by have:=wI hc;omega
  have hta:=JK hlt
  have hna:=hw.1 _ hta
  have hra:=(hP.2.1 _ hta).2.2.1
  refine QO<|QC<|QG<|QX<|wE<|QA (JH (n:=p.1.n) (i.i) (fun F h9=>(h9.1.2.1).1) rfl rfl J6 Je (by omega))<|QA (Xd (n:=p.1.n) (vs:=[.int .i64 (el p.2 (i.i)).x.n.s,.slice (el p.2 (i.i)).x.n.q (el p.2 (i.i)).x.n.n (el p.2 (i.i)).x.n.cap,.int .i64 (el p.2 (i.i)).x.d.s,.slice (el p.2 (i.i)).x.d.q (el p.2 (i.i)).x.d.n (el p.2 (i.i)).x.d.cap,.slice (el p.2 (i.i)).r.q (el p.2 (i.i)).r.n (el p.2 (i.i)).r.cap]) ((i.i)*5) (fun F h9=>(h9.1.2.1).1) (by omega) rfl Je rfl (fun j v hv=>Jy (f:=Ym) (l:=p.2) YP (by omega) hv))<|Qg Zl (fun b7=>QR (vs:=[_,_,_,_,_]) rfl rfl rfl Je rfl .here .h5 wO<|wC<|wF rfl<|QA (Qj rfl J6)<|wA rfl<|wC<|QX<|Jz (ι:=PmJ (JM (JG (p.2.take i.i)) (JG q.2)) (el p.2 i.i).t q.2) [(1,_),(5,_),(7,_),(14,_),(15,_),(16,_),(20,_),(21,_)] (fun i2=>[(22,.int .i64 ((i2.j:Nat):Int))]) (fun i2=>[(b7,.cells (Ym (el p.2 i.i)).toArray 165 (0,0)),(m,ZD tx (Wo i2.ts))]) (fun i2 F=>Vh F i2.ts) (fun i2=>q.2.length - i2.j) (⟨0,i.ts,ai _,by simpa [JG,Jw] using i.hI⟩) wR wK wG (fun _ h=>h.2) (fun i2=>?_))
  simp only [ae,ab]
  have hj:=i2.le
  refine wE<|QA (QU rfl rfl rfl)<|wC<|QG ?_
  refine QQ rfl (fun hc=>?_) (fun hc=>?_)
  ·
   have hlt2:i2.j<q.2.length:=by have:=wI hc;omega
   have htb:=JK hlt2
   have hnb:=hw.2 _ htb
   have hrb:=(hQ.2.1 _ htb).2.2.1
   have hzz:=Oh (q:=q.2) (j:=i2.j) hlt
   have hza:JL (el p.2 i.i).t.1≤Zh (JG p.2):=BW (af hta)
   have hzb:JL (el q.2 i2.j).t.1≤Zh (JG q.2):=BW (af htb)
   refine QO<|QC<|QG<|QX<|wE<|QA (JH (n:=q.1.n) (i2.j) (fun F h9=>(h9.1.1.2.2).1) rfl rfl J6 Je (by omega))<|QA (Xd (n:=q.1.n) (vs:=[.int .i64 (el q.2 (i2.j)).x.n.s,.slice (el q.2 (i2.j)).x.n.q (el q.2 (i2.j)).x.n.n (el q.2 (i2.j)).x.n.cap,.int .i64 (el q.2 (i2.j)).x.d.s,.slice (el q.2 (i2.j)).x.d.q (el q.2 (i2.j)).x.d.n (el q.2 (i2.j)).x.d.cap,.slice (el q.2 (i2.j)).r.q (el q.2 (i2.j)).r.n (el q.2 (i2.j)).r.cap]) ((i2.j)*5) (fun F h9=>(h9.1.1.2.2).1) (by omega) rfl Je rfl (fun j v hv=>Jy (f:=Ym) (l:=q.2) YP (by omega) hv))<|Qg Zl (fun b9=>QR (vs:=[_,_,_,_,_]) rfl rfl rfl Je rfl .here .h5 wO<|wC<|wE<|QA (QI rfl X8 Qv)<|QA (Qm rfl Qv .u1 (.skip (.skip (.skip (.skip .h1)))))<|XO rfl (aM _) (Sh (r:=(el p.2 i.i).r) (l:=(el p.2 i.i).t.2) (fun F h9=>(h9.1.1.2.1.2.1 _ hta).2) hra (by omega)) (fun c28=>JO _ (fun w F hF h=>h.2) (fun h28=>wD rfl<|QG<|wE<|QA (QI rfl X8 Qv) ?_)))
   refine QA (Qm rfl Qv .here (.skip (.skip (.skip (.skip .h1)))))<|QA (Qj rfl Qf)<|wA rfl<|wC<|QX<|Jz (ι:=PmK (el p.2 i.i).r.n (el p.2 i.i).t.2 (el q.2 i2.j).t.2) [(1,_),(5,_),(7,_),(9,_),(14,_),(15,_),(16,_),(20,_),(21,_),(22,_),(30,_),(31,_)] (fun i3=>[(10,i3.v),(32,.int .i64 ((i3.k:Nat):Int))]) (fun i3=>[(b9,.cells (Ym (el q.2 i2.j)).toArray 165 (0,0)),(b7,.cells (Ym (el p.2 i.i)).toArray 165 (0,0)),(m,ZD tx (Wo i2.ts))]++i3.ob) (fun i3 F=>True) (fun i3=>(el q.2 i2.j).t.2.length - i3.k) (⟨0,(el p.2 i.i).t.2,c28.1,c28.2,ai _,h28,by simp [J4]⟩) wV wL wG (fun _ _=>trivial) (fun i3=>?_)
   simp only [ae,ab]
   have hk:=i3.le
   refine wE<|QA (QU rfl rfl rfl)<|wC<|QG ?_
   refine QQ rfl (fun hc=>?_) (fun hc=>?_)
   ·
    obtain ⟨k,L,v,ob,hk0,hr,hL⟩:=i3
    dsimp only at hk hc ⊢
    have hlt3:k<(el q.2 i2.j).t.2.length:=by have:=wI hc;omega
    have hka:k<(el p.2 i.i).t.2.length:=by omega
    have hLn:L.length=(el p.2 i.i).t.2.length:=by rw [hL];unfold J4;simp;omega
    have hb1:=(hpw.1 _ hta).el hka
    have hb2:=(hpw.2.1 _ htb).el hlt3
    obtain ⟨b,cap,rest,rfl,rfl,e1,e2,e3,e4⟩:=Qx.pos hr (by omega)
    have hdL:Qa L k=Qa (el p.2 i.i).t.2 k:=by rw [hL];exact US hka hlt3
    refine QO<|QC<|QG<|QX<|wF rfl<|QA (JH (n:=(el q.2 i2.j).r.n) k (fun F h9=>(h9.1.1.1.1.2.2.2.1 _ htb).2.1) rfl rfl Qf Qp (by omega))<|QA (JQ (n:=(el q.2 i2.j).r.n) (k*1) (fun F h9=>(h9.1.1.1.1.2.2.2.1 _ htb).2.1) (by omega) rfl Qp (JJ (o:=(el q.2 i2.j).t.2) (by omega)))<|wB rfl<|wD rfl<|QB<|wA rfl<|wA rfl<|QA (Qw (i:=k) rfl rfl Qf Qp (by omega))<|QA (YZ (c:=(L).map Qy++rest) (T':=3) rfl Qp .u3 (Zu (by first | omega | (simp only [aW];omega))))<|wA rfl<|QA (Qs rfl rfl (by omega))<|QA (Qw (i:=k) rfl rfl Qf Qp (by omega))<|QR (vs:=[_]) rfl rfl rfl Qp rfl .u3 (VR (by first | omega | (simp only [aW];omega)) ((Qa (L) (k)+Qa (el q.2 i2.j).t.2 k))) wK<|QE<|Qk<|QC ?_
    refine QB<|QA (Qs rfl rfl (by omega))<|wA rfl<|QE ?_
    exact Qo (⟨k+1,_,_,_,hlt3,Qx.some (by simpa using e1) (by simpa using e2) e3 e4,by rw [hL,US hka hlt3];exact LO hka hlt3⟩) (by show(el q.2 i2.j).t.2.length - (k+1)<(el q.2 i2.j).t.2.length - k;omega) ⟨rfl,rfl,rfl,rfl,rfl,rfl,rfl,rfl,rfl,rfl,rfl,rfl,rfl,rfl,trivial⟩ wG (fun F h=>⟨h.1,trivial⟩)
   ·
    have hge3:i3.k=(el q.2 i2.j).t.2.length:=by have:=wJ hc;omega
    have hLe:i3.L=J4 (el p.2 i.i).t.2 (el q.2 i2.j).t.2:=by
     have h1:=i3.hL
     rw [hge3,aq] at h1
     rw [h1,aU (by omega),bI (by omega),bt]
    have hLn:(J4 (el p.2 i.i).t.2 (el q.2 i2.j).t.2).length=(el p.2 i.i).r.n:=by rw [KA (by omega)];exact hra
    refine Qz ?_
    repeat (first | refine Qb ?_ | refine QV (by rfl) ?_)
    refine Qc<|QC<|QB<|wA rfl<|QA (QI rfl Z0 Qe)<|QA (QJ (vs:=[_,_,_,_]) rfl Qe .u1 .h4 rfl)<|QA (QI rfl Z0 Qe)<|QA (QJ (vs:=[_,_,_,_]) rfl Qe .here .h4 rfl)<|QH rfl (fun w F hF h9=>KX hF ((h9.1.1.1.1.2.1.2.1 _ hta).1) ((h9.1.1.1.1.2.2.2.1 _ htb).1) (by omega) (by omega)) (fun x50=>wA rfl ?_)
    obtain ⟨r,hv,hrn,hrc,hfix⟩:=Qx.fix (w0:=w) (F0:=F) (bs1:=[(b9,.cells (Ym (el q.2 i2.j)).toArray 165 (0,0)),(b7,.cells (Ym (el p.2 i.i)).toArray 165 (0,0)),(m,ZD tx (Wo i2.ts))]) (G:=_) i3.hr
    refine DM hfix ?_
    rw [hv]
    refine X0 (bW (l₁:=[_,_]) (l₂:=[]))<|XO rfl (aM _) (BZ (r:=r) (x:=x50) i2.hI (hpw.2.2 _ hta _ htb) (by have:=J9 (el p.2 i.i).t.1 (el q.2 i2.j).t.1;omega) (by omega) (fun F h9=>⟨h9.1.1.1.1.1.1.1,h9.1.1.1.1.2,⟨h9.1.2.1,h9.1.2.2⟩,by rw [hrn,← hLe];exact h9.2,by rw [hrn];exact hLn,by rw [hrn];exact hrc⟩)) (fun n52=>JO _ (fun w F hF h=>h.2.2) (fun h52=>X0 (bs':=[_,_,_]) (bW (l₁:=[_,_]) (l₂:=[])).symm<|QE<|Qk<|QC<|QB<|QA (Qs rfl rfl (by omega))<|wA rfl<|QE ?_))
    exact Qo (⟨i2.j+1,addN i2.ts n52,hlt2,by rw [Xj hlt2,Wv,← eI];exact i2.hI.add (hpw.2.2 _ hta _ htb) h52⟩) (by show q.2.length - (i2.j+1)<q.2.length - i2.j;omega) wS (.cons _ wG) (fun F h=>⟨h.1.1.1.1.1.1,h.2.1⟩)
  ·
   have hge2:i2.j=q.2.length:=by have:=wJ hc;omega
   refine Qz ?_
   repeat (first | refine Qb ?_ | refine QV (by rfl) ?_)
   refine Qc<|Qk<|QC<|QB<|QA (Qs rfl rfl (by omega))<|wA rfl<|QE ?_
   exact Qo (⟨i.i+1,i2.ts,hlt,by rw [NF hlt];have:=i2.hI;rw [hge2,aq] at this;exact this⟩) (by show p.2.length - (i.i+1)<p.2.length - i.i;omega) wO (.cons _ wG) (fun F h=>⟨h.1.1,h.2⟩)
 ·
  have hge:i.i=p.2.length:=by have:=wJ hc;omega
  refine Qz ?_
  repeat (first | refine Qb ?_ | refine QV (by rfl) ?_)
  refine Qc<|QC<|wE<|wA rfl ?_
  have hI:=i.hI
  rw [hge,aq] at hI
  refine XO rfl (aM _) (Gt hI (by have h1:=hI.ln;rw [Pz] at h1;simp only [JG,ah] at h1;have h2:=yj hl.1 hl.2;omega) (fun F h=>h.2)) (fun c56=>wD rfl<|QS ?_)
  exact QP (c56) rfl (.tmp rfl .nil) (rfl) (fun F h=>h.2)
def Fs:List Tm→Int
 |[]=>0
 |t::_=>t.2.sum
def WH (l:List Tm):Bool:=l.any fun t=>XN t.1
def Na:List Bool→Int→Int
 |[],_=>-1
 |b::l,i=>if b then i else Na l (i+1)
theorem T6:∀ (l:List Bool) (i:Int),0≤i→(decide (0≤Na l i)=l.any id)
 |[],i,_=>rfl
 |true::l,i,h=>by simp [Na,h]
 |false::l,i,h=>by simpa [Na] using T6 l (i+1) (by omega)
structure FB (bl:List Bool) where
 i:Nat
 le:i≤bl.length
 h:Na bl 0=Na (bl.drop i) i
theorem FB.hit {bl:List Bool} (s:FB bl) (h:s.i<bl.length) (e:bl[s.i]=true):Na bl 0=s.i:=by
 rw [s.h,ek h,e];rfl
theorem FB.cY {bl:List Bool} (s:FB bl) (h:s.i<bl.length) (e:bl[s.i]=false):Na bl 0=Na (bl.drop (s.i+1)) ((s.i+1:Nat):Int):=by
 rw [s.h,ek h,e];rfl
theorem FB.stop {bl:List Bool} (s:FB bl) (h:bl.length≤s.i):Na bl 0 = -1:=by
 rw [s.h,bI h];rfl
theorem KD (ts:List XU):(JG ts).length=ts.length:=by simp [JG]
theorem FI {ts:List XU} {i:Nat} (h:i<ts.length) (hb:i<((JG ts).map fun t=>XN t.1).length):((JG ts).map fun t=>XN t.1)[i]=XN (el ts i).t.1:=by
 simp [JG,X5 h]
theorem yY {w:ag} {F:Gs} {q:Option Addr} {n cap:Nat} {ts:List XU} (hF:Fits F w) (hP:Jr F ⟨q,n,cap⟩ ts (JG ts)) (hp:∀ t∈ts,PW t.t.2) (hl:ts.length≤1000000):QZ Tryz.prog 219 [.slice q n cap] w F (.int .i64 (Fs (JG ts))):=by
 have hln:ts.length=n:=hP.2.2.2.2
 refine QT.intro (G:=fun F=>Jr F ⟨q,n,cap⟩ ts (JG ts)) Tryz.func219 rfl (by rfl) rfl rfl hF (fun F' hF'=>hP.le hF')<|wE<|wD rfl<|QG<|wF rfl<|QA (Qj rfl J6)<|QA (QU rfl rfl rfl)<|QE<|QC ?_
 refine QQ rfl (fun hc=>?_) (fun hc=>?_)
 ·
  have h0:ts=[]:=by have:=wI hc;exact List.length_eq_zero_iff.1 (by omega)
  refine wE<|wD rfl<|QS ?_
  exact wH rfl rfl (by rw [h0];rfl) (fun F hP=>trivial)
 ·
  have h0:0<ts.length:=by have:=wJ hc;omega
  have htm:=JK h0
  refine QO<|QC<|wF rfl<|QA (JH (n:=n) (0) (fun F hP=>(hP).1) rfl (congrArg (fun z:Int=>some (ay .i64 z)) (by omega)) J6 Je (by omega))<|QA (QI rfl X8 Qv)<|QA (JQ (n:=n) ((0)*5+4) (fun F hP=>(hP).1) (by omega) rfl Qv (Jy (f:=Ym) (l:=ts) YP (by omega) rfl))<|QH rfl (fun w F hF hP=>Da hF (r:=(el ts 0).r) (hP.2.1 _ htm).2 (hp _ htm)) (fun _=>wD rfl<|QS ?_)
  exact wH rfl rfl (congrArg (ay .i64) (by cases ts with | nil=>cases h0 | cons t l=>rfl)) (fun F h9=>trivial)
theorem IY {w:ag} {F:Gs} {t:XU} (hF:Fits F w) (hGl:JB F) (hT:Sx F t) (hz:JL t.t.1≤100000000):QZ Tryz.prog 269 [AV t] w F (.bool (XN t.t.1)):=by
 refine QT.intro (G:=fun F=>JB F∧Sx F t) Tryz.func269 rfl (by rfl) rfl rfl hF (fun F' hF'=>⟨hGl.le hF',hT.le hF'⟩)<|wE<|Q2 rfl (vs:=[_,_,_,_,_]) rfl (fun b1=>wD rfl<|wE<|QA (QI rfl Z0 Qe)<|QA (QJ (vs:=[_,_,_,_]) rfl Qe .here .h4 rfl)<|QH rfl (fun w F hF h9=>Bz hF h9.1 (h9.2.1) (hz)) (fun _=>wD rfl<|QS ?_))
 exact wH rfl rfl (rfl) (fun F h9=>trivial)
theorem Oq {w:ag} {F:Gs} {q:Option Addr} {n cap:Nat} {ts:List XU} (hF:Fits F w) (hP:Jr F ⟨q,n,cap⟩ ts (JG ts)) (hGl:JB F) (hz:∀ t∈ts,JL t.t.1≤100000000) (hl:ts.length≤1000000):QZ Tryz.prog 295 [.slice q n cap,.func (.func 269) #[] #[]] w F (.int .i64 (Na ((JG ts).map fun t=>XN t.1) 0)):=by
 have hln:ts.length=n:=hP.2.2.2.2
 have hbl:((JG ts).map fun t=>XN t.1).length=ts.length:=by simp [JG]
 refine QT.intro (G:=fun F=>JB F∧Jr F ⟨q,n,cap⟩ ts (JG ts)) Tryz.func295 rfl (by rfl) rfl rfl hF (fun F' hF'=>⟨hGl.le hF',hP.le hF'⟩)<|wE<|wD rfl<|QG<|wF rfl<|QA (Qj rfl J6)<|wA rfl<|wC<|QX<|Zc (ι:=FB ((JG ts).map fun t=>XN t.1)) [(0,_),(1,_),(7,_)] (fun i=>[(8,.int .i64 ((i.i:Nat):Int))]) (fun i=>ts.length - i.i) (⟨0,ai _,rfl⟩) wM wK (fun i=>?_)
 simp only [ae,ab]
 have hi:=i.le
 refine wE<|QA (QU rfl rfl rfl)<|wC<|QG ?_
 refine QQ rfl (fun hc=>?_) (fun hc=>?_)
 ·
  have hlt:i.i<ts.length:=by have:=wI hc;omega
  have htm:=JK hlt
  refine QO<|QC<|QG<|QX<|wF rfl<|wD rfl<|wF rfl<|wA rfl<|wA rfl<|QA (JH (n:=n) (i.i) (fun F h9=>(h9.2).1) rfl rfl J6 Je (by omega))<|QA (Xd (n:=n) (vs:=[.int .i64 (el ts (i.i)).x.n.s,.slice (el ts (i.i)).x.n.q (el ts (i.i)).x.n.n (el ts (i.i)).x.n.cap,.int .i64 (el ts (i.i)).x.d.s,.slice (el ts (i.i)).x.d.q (el ts (i.i)).x.d.n (el ts (i.i)).x.d.cap,.slice (el ts (i.i)).r.q (el ts (i.i)).r.n (el ts (i.i)).r.cap]) ((i.i)*5) (fun F h9=>(h9.2).1) (by omega) rfl Je rfl (fun j v hv=>Jy (f:=Ym) (l:=ts) YP (by omega) hv))<|Gm (c1:=[]) (c2:=[]) rfl rfl (fun w F hF h9=>IY hF h9.1 (t:=el ts i.i) (h9.2.2.1 _ htm) (hz _ htm)) (fun _=>QE<|QC ?_)
  refine QQ rfl (fun hc=>?_) (fun hc=>?_)
  ·
   refine wF rfl<|wD rfl<|QS ?_
   repeat (first | refine JC ?_ | refine Q5 ?_)
   exact wH rfl rfl (congrArg (ay .i64) (i.hit (by omega) (by rw [FI hlt];exact hc))) (fun F h9=>trivial)
  ·
   refine QO<|Qk<|QC<|QB<|QA (Qs rfl rfl (by omega))<|wA rfl<|QE ?_
   exact Qo (⟨i.i+1,by omega,i.cY (by omega) (by rw [FI hlt];exact hc)⟩) (by show ts.length - (i.i+1)<ts.length - i.i;omega) wN wG (fun F h=>h.1)
 ·
  have hge:ts.length≤i.i:=by have:=wJ hc;omega
  refine Qz ?_
  repeat (first | refine Qb ?_ | refine QV (by rfl) ?_)
  refine Qc<|QC<|wE<|wD rfl<|QS ?_
  exact wH rfl rfl (congrArg (ay .i64) (i.stop (by omega))) (fun F h9=>trivial)
theorem TX {w:ag} {F:Gs} {q:Option Addr} {n cap:Nat} {ts:List XU} (hF:Fits F w) (hP:Jr F ⟨q,n,cap⟩ ts (JG ts)) (hGl:JB F) (hz:∀ t∈ts,JL t.t.1≤100000000) (hl:ts.length≤1000000):QZ Tryz.prog 268 [.slice q n cap,.func (.func 269) #[] #[]] w F (.bool (WH (JG ts))):=by
 refine QT.intro (G:=fun F=>JB F∧Jr F ⟨q,n,cap⟩ ts (JG ts)) Tryz.func268 rfl (by rfl) rfl rfl hF (fun F' hF'=>⟨hGl.le hF',hP.le hF'⟩)<|wE<|wD rfl<|wF rfl<|wA rfl<|QH rfl (fun w F hF h9=>Oq hF (h9.2) (h9.1) (hz) (hl)) (fun _=>QA (QU rfl rfl rfl)<|wD rfl<|QS ?_)
 exact wH rfl rfl (congrArg bj (by rw [show WH (JG ts)=((JG ts).map fun t=>XN t.1).any id by simp [WH,List.any_map],← T6 _ 0 (bm _)])) (fun F h9=>trivial)
theorem Om {w:ag} {F:Gs} {q:Option Addr} {n cap:Nat} {ts:List XU} (hF:Fits F w) (hP:Jr F ⟨q,n,cap⟩ ts (JG ts)) (hGl:JB F) (hz:∀ t∈ts,JL t.t.1≤100000000) (hl:ts.length≤1000000):QZ Tryz.prog 220 [.slice q n cap] w F (.bool (WH (JG ts))):=by
 refine QT.intro (G:=fun F=>JB F∧Jr F ⟨q,n,cap⟩ ts (JG ts)) Tryz.func220 rfl (by rfl) rfl rfl hF (fun F' hF'=>⟨hGl.le hF',hP.le hF'⟩)<|wE<|wD rfl<|wF rfl<|QH rfl (fun w F hF h9=>TX hF (h9.2) (h9.1) (hz) (hl)) (fun _=>wD rfl<|QS ?_)
 exact wH rfl rfl (rfl) (fun F h9=>trivial)
def GL (l:List Tm):Int:=Ql [if decide (Fs l>12)=true then 4 else 0,if decide ((l.length:Int)>64)=true then 5 else 0,if WH l=true then 4 else 0]
def H8 (l:List Tm):Pt:=if GL l=0 then ZQ l else []
theorem YR.nil (F:Gs):YR F ⟨none,0,0⟩ [] []:=⟨Q6.nil F none 2,(fun _ h=>by cases h),rfl,ax _,rfl⟩
theorem GV {w:ag} {F:Gs} {q:Option Addr} {n cap:Nat} {ts:List XU} (hF:Fits F w) (hP:Jr F ⟨q,n,cap⟩ ts (JG ts)) (hGl:JB F) (hp:∀ t∈ts,PW t.t.2) (hz:∀ t∈ts,JL t.t.1≤100000000) (hl:ts.length≤1000000) :
  QT Tryz.prog 137 [.slice q n cap] w F (fun(c:KG)=>.tuple #[c.1.v,.int .i64 (GL (JG ts))]) (fun c F=>YR F c.1 c.2 (H8 (JG ts))):=by
 have hln:ts.length=n:=hP.2.2.2.2
 have hlen:(JG ts).length=n:=by rw [KD];exact hln
 have hre:GL (JG ts)=Ql [if decide (Fs (JG ts)>12)=true then 4 else 0,if decide ((n:Int)>64)=true then 5 else 0,if WH (JG ts)=true then 4 else 0]:=by unfold GL;rw [hlen]
 refine QT.intro (G:=fun F=>JB F∧Jr F ⟨q,n,cap⟩ ts (JG ts)) Tryz.func137 rfl (by rfl) rfl rfl hF (fun F' hF'=>⟨hGl.le hF',hP.le hF'⟩)<|wE<|wB rfl<|wD rfl<|QG<|wF rfl<|QH rfl (fun w F hF h9=>yY hF (h9.2) (hp) (hl)) (fun _=>QA (QU rfl rfl rfl)<|QH rfl (fun w F hF h9=>Z1 hF ) (fun _=>wA rfl<|QA (Qj rfl J6)<|QA (QU rfl rfl rfl)<|QH rfl (fun w F hF h9=>Z1 hF ) (fun _=>wA rfl<|QH rfl (fun w F hF h9=>Om hF (h9.1.1.1.2) (h9.1.1.1.1) (hz) (hl)) (fun _=>QH rfl (fun w F hF h9=>Z1 hF ) (fun _=>QW rfl (Q8 Zn) Y7 BO rfl rfl (fun b16=>QH rfl (fun w F hF h9=>Zz hF (Q6.of (cs:=bA Qy [if decide (Fs (JG ts)>12)=true then 4 else 0,if decide ((n:Int)>64)=true then 5 else 0,if WH (JG ts)=true then 4 else 0]) h9.2 rfl) (by decide)) (fun _=>wB rfl<|QE ?_)))))))
 refine QC<|wF rfl<|QA (QU rfl rfl rfl)<|QE<|QC ?_
 refine QQ rfl (fun hc=>?_) (fun hc=>?_)
 ·
  have he:GL (JG ts)≠0:=by rw [hre];exact bne_iff_ne.1 hc
  refine wF rfl<|wB rfl<|wD rfl<|QS ?_
  exact Ja ((⟨none,0,0⟩,[])) rfl (.tmp rfl (.tmp rfl .nil)) (by rw [hre]) (fun F h9=>by unfold H8;rw [if_neg he];exact YR.nil F)
 ·
  have he:GL (JG ts)=0:=by rw [hre];exact bne_eq_false_iff_eq.1 hc
  refine QO<|QC<|wF rfl<|QH rfl (fun w F hF h9=>qz hF h9.1.1.1.1.1.1.1.1 (p:=(⟨q,n,cap⟩,ts)) h9.1.1.1.1.1.1.1.2 hp hl hz) (fun c22=>wB rfl<|wD rfl<|QS ?_)
  exact Ja (c22) rfl (.tmp rfl (.tmp rfl .nil)) (by rw [he]) (fun F h9=>by unfold H8;rw [if_pos he];exact h9.2)
def Zr (v:Int):Int:=if decide (v<0)=true∨decide (v>24)=true then 3 else 0
theorem Kj (v:Int):Zr v=0↔0≤v∧v≤24:=by unfold Zr;simp only [decide_eq_true_eq];split<;>omega
theorem I9 {v:Int} (h:¬ v<0):Zr v=if decide (v>24)=true then 3 else 0:=by unfold Zr;simp [h]
def Ks (l:List Int):Int:=(l.map fun k=>if 13<k then 13 else k).sum
def Z9 (f:List UInt8) (l:List Int) (v:Int):Int :=
 if(l.length:Int)≠v+1 then 2 else if l.any (fun k=>decide (k<0))=true then 3 else Ql [if decide (Ks l>12)=true then 4 else 0,Jg f]
theorem Ul {l:List Int} {i:Nat} (h:i<l.length):Ks (l.take (i+1))=Ks (l.take i)+(if 13<Qa l i then 13 else Qa l i):=by
 unfold Ks;rw [X7 h,ak,eO,Xy h];simp
theorem BJ (l:List Int) (h:∀ k∈l,0≤k):0≤Ks l∧Ks l≤13*l.length:=by
 induction l with
 |nil=>simp [Ks]
 |cons x l ih =>
  have h1:=ih fun k hk=>h k (by simp [hk])
  have h2:=h x (by simp)
  have e:Ks (x::l)=(if 13<x then 13 else x)+Ks l:=by unfold Ks;rw [aC,aO]
  rw [e,ar];split<;>omega
structure uj (l:List Int) where
 i:Nat
 le:i≤l.length
 nn:∀ k∈l.take i,0≤k
theorem Lj {l:List Int} {i:Nat} (h:i<l.length) (hn:Qa l i<0):l.any (fun k=>decide (k<0))=true:=by
 rw [bY];exact⟨el l i,JK h,by rw [← Xy h];exact decide_eq_true hn⟩
theorem j6 {l:List Int} (h:∀ k∈l,0≤k):¬ l.any (fun k=>decide (k<0))=true:=by
 rw [bY];rintro ⟨k,hk,e⟩;have:=wI e;have:=h k hk;omega
theorem G8 {w:ag} {F:Gs} {v:Int} (hF:Fits F w):QZ Tryz.prog 141 [.int .i64 v] w F (.int .i64 (Zr v)):=by
 refine QT.intro (G:=fun F=>True) Tryz.func141 rfl (by rfl) rfl rfl hF (fun F' hF'=>trivial)<|wE<|wD rfl<|wF rfl<|QA (QU rfl rfl rfl)<|wA rfl ?_
 refine Qn (t:=5) rfl (fun hb5=>?_) (fun hb5=>?_)
 ·
  refine QN rfl rfl rfl<|QN rfl rfl rfl<|QA (Qi rfl rfl rfl)<|QH rfl (fun w F hF _=>Z1 hF ) (fun _=>wD rfl<|QS ?_)
  exact wH rfl rfl (congrArg (ay .i64) (by unfold Zr;simp_all)) (fun F h9=>trivial)
 ·
  refine QL rfl rfl<|wA rfl<|QL rfl rfl<|QA (QU rfl rfl rfl)<|QA (Qh rfl rfl rfl)<|QH rfl (fun w F hF _=>Z1 hF ) (fun _=>wD rfl<|QS ?_)
  exact wH rfl rfl (congrArg (ay .i64) (I9 (wJ hb5))) (fun F h9=>trivial)
theorem jo {w:ag} {F:Gs} {f:List UInt8} {q:Option Addr} {n cap:Nat} {l:List Int} {v:Int} (hF:Fits F w) (hGl:JB F) (hR:JR F ⟨q,n,cap⟩ l) (hf:f.length≤1000000) (hl:l.length≤1000000) (hv : -1000000≤v∧v≤1000000):QZ Tryz.prog 155 [.agg #[tx f,.slice q n cap],.int .i64 v] w F (.int .i64 (Z9 f l v)):=by
 have hln:l.length=n:=hR.2.1
 refine QT.intro (G:=fun F=>JB F∧JR F ⟨q,n,cap⟩ l) Tryz.func155 rfl (by rfl) rfl rfl hF (fun F' hF'=>⟨hGl.le hF',hR.le hF'⟩)<|wE<|Q2 rfl (vs:=[_,_]) rfl (fun b2=>wD rfl<|QG<|wE<|QA (QI rfl Yz Qv)<|QA (Qm rfl Qv .here (.skip .h1))<|QA (Qj rfl Qf)<|wA rfl<|QA (Qs rfl rfl (by omega))<|QA (QU rfl rfl rfl)<|QE<|QC ?_)
 refine QQ rfl (fun hc=>?_) (fun hc=>?_)
 ·
  have hne:=bne_iff_ne.1 hc
  refine wE<|wD rfl<|QS ?_
  exact wH rfl rfl (congrArg (ay .i64) (by unfold Z9;rw [if_pos (by rw [hln];exact hne)])) (fun F h9=>trivial)
 ·
  have heq:=bne_eq_false_iff_eq.1 hc
  refine QO<|QC<|wE<|wD rfl<|QG<|wE<|QA (QI rfl Yz Qv)<|QA (Qm rfl Qv .here (.skip .h1))<|QA (Qj rfl Qf)<|wA rfl<|wC<|QX<|Zc (ι:=uj l) [(2,_),(15,_),(16,_)] (fun i=>[(5,.int .i64 (Ks (l.take i.i))),(17,.int .i64 ((i.i:Nat):Int))]) (fun i=>l.length - i.i) (⟨0,ai _,by simp⟩) wM wL (fun i=>?_)
  simp only [ae,ab]
  have hi:=i.le
  have hb:=BJ _ i.nn
  rw [aB] at hb
  refine wE<|QA (QU rfl rfl rfl)<|wC<|QG ?_
  refine QQ rfl (fun hc=>?_) (fun hc=>?_)
  ·
   have hlt:i.i<l.length:=by have:=wI hc;omega
   refine QO<|QC<|QG<|QX<|wE<|QA (JH (n:=n) (i.i) (fun F h9=>(h9.2).1) rfl rfl Qf Qp (by omega))<|QA (JQ (n:=n) ((i.i)*1) (fun F h9=>(h9.2).1) (by omega) rfl Qp (JJ (o:=l) (by omega)))<|wD rfl<|QG<|wF rfl<|QA (QU rfl rfl rfl)<|QE<|QC ?_
   refine QQ rfl (fun hc=>?_) (fun hc=>?_)
   ·
    have hng:=wI hc
    refine wE<|wD rfl<|QS ?_
    repeat (first | refine JC ?_ | refine Q5 ?_)
    exact wH rfl rfl (congrArg (ay .i64) (by unfold Z9;rw [if_neg (by rw [hln];exact fun h=>h heq),if_pos (Lj hlt hng)])) (fun F h9=>trivial)
   ·
    have hng:=wJ hc
    refine QO<|QC<|QB<|wA rfl<|wA rfl<|QA (qE rfl rfl)<|QA (Qs rfl rfl (by omega))<|wB rfl<|QE<|Qk<|QC<|QB<|QA (Qs rfl rfl (by omega))<|wA rfl<|QE ?_
    exact Qo (⟨i.i+1,hlt,by intro k hk;rw [X7 hlt] at hk;rcases List.mem_append.1 hk with hk | hk;exact i.nn k hk;rw [List.mem_singleton.1 hk,← Xy hlt];omega⟩) (by show l.length - (i.i+1)<l.length - i.i;omega) ⟨rfl,rfl,rfl,(congrArg (fun z:Int=>some (ay .i64 z)) (Ul hlt).symm),rfl,trivial⟩ wG (fun F h=>h)
  ·
   have hge:i.i=l.length:=by have:=wJ hc;omega
   refine Qz ?_
   repeat (first | refine Qb ?_ | refine QV (by rfl) ?_)
   refine Qc<|QC<|QG<|JV wG mixed (by kernel_rfl) ?_
   rw [hge,aq]
   have hnn:=i.nn
   rw [hge,aq] at hnn
   refine QK (QD rfl)<|QK (QU rfl rfl rfl)<|Qd rfl (fun w F hF h9=>Z1 hF ) (fun _=>QK (QI rfl Wi Jo)<|QK (Qm rfl Jo .here .h1)<|Qd rfl (fun w F hF h9=>MM hF h9.1.1 (hf)) (fun _=>?_))
   refine Ju rfl (Q8 Zn) Y7 BO rfl rfl (fun b34=>?_) (fun w h=>h.imp (.cons_cons _ .slnil) (fun F h=>h.1.1))
   refine Qd rfl (fun w F hF h9=>Zz hF (Q6.of (cs:=bA Qy [if decide (Ks l>12)=true then 4 else 0,Jg f]) h9.2 rfl) (by decide)) (fun _=>QK (QF rfl)<|Q3<|QC<|QS ?_)
   exact wH rfl rfl (congrArg (ay .i64) (by unfold Z9;rw [if_neg (by rw [hln];exact fun h=>h heq),if_neg (j6 hnn)])) (fun F h9=>trivial)
theorem VT {a b:Int} (h:Ql [a,b]=0):a=0∧b=0:=by
 unfold Ql at h
 by_cases g:a=0
 ·rw [if_pos g] at h
  unfold Ql at h
  by_cases k:b=0
  ·exact⟨g,k⟩
  ·rw [if_neg k] at h;exact⟨g,h⟩
 ·rw [if_neg g] at h;exact absurd h g
def Vg (p:Pt) (v:Int) (i:Nat):Int :=
 let e:=Ql [Z9 (el p i).1 (el p i).2 v,if((el p i).1==[48])=true then 6 else 0]
 if e=0∧0<i∧0≤VH (el p (i - 1)).2 (el p i).2 then 11 else e
def XZ (p:Pt) (v:Int):Int:=if decide ((p.length:Int)>64)=true then 5 else Ql ((aL p.length).map (Vg p v))
theorem UF {n i:Nat} (h:i<n):el (aL n) i=i:=by rw [X5 (by simpa using h)];simp
theorem Hi {ts:List V5} {i:Nat} (h:i<ts.length):el (J2 ts) i=((el ts i).f,(el ts i).k):=by rw [X5 (by simpa [J2] using h),X5 h];simp [J2]
theorem Av {l:List Int} (h:∀ k∈l,0≤k) (hc:Ks l≤12):∀ k∈l,k≤12:=by
 induction l with
 |nil=>intro k hk;cases hk
 |cons x l ih =>
  have hl:∀ k∈l,0≤k:=fun k hk=>h k (by simp [hk])
  have h1:=(BJ l hl).1
  have h2:=h x (by simp)
  have e:Ks (x::l)=(if 13<x then 13 else x)+Ks l:=by unfold Ks;rw [aC,aO]
  rw [e] at hc
  intro k hk
  rcases List.mem_cons.1 hk with rfl | hk
  ·split at hc<;>omega
  ·refine ih hl ?_ k hk
   split at hc<;>omega
theorem YI {f:List UInt8} {l:List Int} {v:Int} (h:Z9 f l v=0):(l.length:Int)=v+1∧(∀ k∈l,0≤k∧k≤12)∧Ks l≤12∧Jg f=0:=by
 unfold Z9 at h
 split at h
 ·omega
 ·rename_i h1
  split at h
  ·omega
  ·rename_i h2
   have hn:∀ k∈l,0≤k:=fun k hk=>by
    rcases eC k 0 with g | g
    ·exact absurd (List.any_eq_true.2 ⟨k,hk,decide_eq_true g⟩) h2
    ·exact g
   obtain ⟨g1,g2⟩:=VT h
   have hc:Ks l≤12:=by
    rcases eC 12 (Ks l) with g | g
    ·rw [if_pos (decide_eq_true g)] at g1;omega
    ·exact g
   exact⟨by omega,fun k hk=>⟨hn k hk,Av hn hc k hk⟩,hc,g2⟩
theorem Ko {f:List UInt8} {l:List Int} {v:Int} (h:Z9 f l v=0) (hv:v≤24):PW l:=by
 obtain ⟨h1,h2,_⟩:=YI h
 exact⟨fun k hk=>by have:=h2 k hk;omega,by omega⟩
theorem Mk {p:Pt} {v:Int} {i:Nat} (h:Vg p v i=0):Z9 (el p i).1 (el p i).2 v=0∧(el p i).1≠[48]∧(0<i→VH (el p (i - 1)).2 (el p i).2<0):=by
 unfold Vg at h
 dsimp only at h
 by_cases g:Ql [Z9 (el p i).1 (el p i).2 v,if((el p i).1==[48])=true then 6 else 0]=0∧0<i∧0≤VH (el p (i - 1)).2 (el p i).2
 ·rw [if_pos g] at h;omega
 ·rw [if_neg g] at h
  obtain ⟨h1,h2'⟩:=VT h
  have h2:(el p i).1≠[48]:=by
   intro q
   rw [if_pos (by rw [q];rfl)] at h2'
   omega
  refine⟨h1,h2,fun hi=>?_⟩
  rcases eC (VH (el p (i - 1)).2 (el p i).2) 0 with q | q
  ·exact q
  ·exact absurd ⟨h,hi,q⟩ g
structure Lb (p:Pt) (v:Int) (n:Nat) where
 i:Nat
 le:i≤n
 z:∀ j,j<i→Vg p v j=0
def Lb.scan {p:Pt} {v:Int} {n:Nat} (s:Lb p v n):KF (aL n) (Vg p v):=⟨s.i,by rw [bD];exact s.le,by
 have key:∀ i,i≤n→(∀ j,j<i→Vg p v j=0)→Ql ((aL n).map (Vg p v))=Ql (((aL n).map (Vg p v)).drop i):=by
  intro i
  induction i with
  |zero=>intro _ _;rfl
  |succ i ih =>
   intro hi hz
   rw [ih (by omega) (fun j hj=>hz j (by omega)),KY (by simp;omega) (by simp;exact hz i (by omega))]
 exact key s.i s.le s.z⟩
theorem Hw {p:Pt} {v x:Int} {n:Nat} (hn:p.length=n) (hp:¬ (n:Int)>64) (s:Lb p v n) (h:s.i<n) (hs:Vg p v s.i=x) (hx:x≠0):XZ p v=x:=by
 unfold XZ
 rw [hn,if_neg (by rw [decide_eq_true_eq];exact hp),s.scan.hit (by rw [bD];exact h) (by rw [show s.scan.i=s.i from rfl,UF h,hs];exact hx),show s.scan.i=s.i from rfl,UF h,hs]
theorem FL {p:Pt} {v:Int} {n:Nat} (hn:p.length=n) (hp:¬ (n:Int)>64) (s:Lb p v n) (h:n≤s.i):XZ p v=0:=by
 unfold XZ
 rw [hn,if_neg (by rw [decide_eq_true_eq];exact hp),s.scan.stop (by rw [bD];exact h)]
theorem step_eq {ps:List V5} {v E:Int} {i:Nat} (h:i<ps.length) (hE:Ql [Z9 (el ps i).f (el ps i).k v,if((el ps i).f==[48])=true then 6 else 0]=E):Vg (J2 ps) v i=if E=0∧0<i∧0≤VH (el ps (i - 1)).k (el ps i).k then 11 else E:=by
 unfold Vg
 rw [Hi h,Hi (show i - 1<ps.length by omega)]
 dsimp only
 rw [hE]
theorem B1 {w:ag} {F:Gs} {q:Option Addr} {n cap:Nat} {ps:List V5} {v:Int} (hF:Fits F w) (hGl:JB F) (hR:Q6 F q n 2 (ps.flatMap Kl)) (hP:Zx F ps) (hln:ps.length=n) (hf:∀ t∈ps,t.f.length≤1000000∧t.k.length≤1000000) (hl:ps.length≤1000000) (hv:0≤v∧v≤24):QZ Tryz.prog 143 [.slice q n cap,.int .i64 v] w F (.int .i64 (XZ (J2 ps) v)):=by
 have hal:(J2 ps).length=n:=by unfold J2;rw [ah];exact hln
 refine QT.intro (G:=fun F=>JB F∧Q6 F q n 2 (ps.flatMap Kl)∧Zx F ps) Tryz.func143 rfl (by rfl) rfl rfl hF (fun F' hF'=>⟨hGl.le hF',hR.le hF',hP.le hF'⟩)<|wE<|wD rfl<|QG<|wF rfl<|QA (Qj rfl Xq)<|QA (QU rfl rfl rfl)<|QE<|QC ?_
 refine QQ rfl (fun hc=>?_) (fun hc=>?_)
 ·
  have hbig:=hc
  refine wE<|wD rfl<|QS ?_
  exact wH rfl rfl (congrArg (ay .i64) (by unfold XZ;rw [hal,if_pos hbig])) (fun F h9=>trivial)
 ·
  have hbig:=wJ hc
  refine QO<|QC<|QG<|wF rfl<|QA (Qj rfl Xq)<|wA rfl<|wC<|QX<|Zc (ι:=Lb (J2 ps) v n) [(0,_),(1,_),(11,_),(12,_)] (fun i=>[(13,.int .i64 ((i.i:Nat):Int))]) (fun i=>n - i.i) (⟨0,ai _,fun j hj=>absurd hj (eR _)⟩) wN wK (fun i=>?_)
  simp only [ae,ab]
  have hi:=i.le
  refine wE<|QA (QU rfl rfl rfl)<|wC<|QG ?_
  refine QQ rfl (fun hc=>?_) (fun hc=>?_)
  ·
   have hlt:i.i<n:=by have:=wI hc;omega
   have htm:el ps i.i∈ps:=JK (by omega)
   refine QO<|QC<|QG<|QX<|wF rfl<|QA (JH (n:=n) (i.i) (fun F h9=>h9.2.1) rfl rfl Xq XT (by omega))<|QA (Xd (n:=n) (vs:=[tx (el ps (i.i)).f,.slice (el ps (i.i)).r.q (el ps (i.i)).r.n (el ps (i.i)).r.cap]) ((i.i)*2) (fun F h9=>h9.2.1) (by omega) rfl XT rfl (fun j v hv=>Jy (f:=Kl) (l:=ps) Yb (by omega) hv))<|Qg Xm (fun b6=>wB rfl<|QR (vs:=[_,_]) rfl rfl rfl XT rfl .here .h2 wL<|wC<|QG<|JV wG mixed (by kernel_rfl)<|QK (QJ (vs:=[_,_]) rfl XT .here .h2 rfl)<|QK (QD rfl)<|Qd rfl (fun w F hF h9=>jo hF (h9.1) (f:=(el ps i.i).f) (l:=(el ps i.i).k) (h9.2.2 _ htm) ((hf _ htm).1) ((hf _ htm).2) (by omega)) (fun _=>QK (QI rfl Wi Jo)<|QK (Qm rfl Jo .here .h1)<|QK (K3 rfl rfl)<|Qd rfl (fun w F hF h9=>Z1 hF ) (fun _=>?_)))
   refine Ju rfl (Q8 Zn) Y7 BO rfl rfl (fun b25=>?_) (fun w h=>h.imp (.cons_cons _ .slnil) (fun F h=>h.1.1))
   refine Qd rfl (fun w F hF h9=>Zz hF (Q6.of (cs:=bA Qy [Z9 (el ps i.i).f (el ps i.i).k v,if((el ps i.i).f==[48])=true then 6 else 0]) h9.2 rfl) (by decide)) (fun _=>QK (QF rfl)<|Q3<|QC<|QG<|QG<|JV wG mixed (by kernel_rfl) ?_)
   generalize hE:Ql [Z9 (el ps i.i).f (el ps i.i).k v,if((el ps i.i).f==[48])=true then 6 else 0]=E
   have hst:=step_eq (v:=v) (show i.i<ps.length by omega) hE
   refine QK (QD rfl)<|QK (QU rfl rfl rfl)<|QK (QD rfl) ?_
   refine Wu (t:=29) rfl (fun hb29=>?_) (fun hb29=>?_)
   ·
    refine Ji rfl rfl<|QK (QD rfl)<|Ji rfl rfl<|QK (QU rfl rfl rfl)<|QK (Qi rfl rfl rfl)<|QK (QD rfl) ?_
    refine Wu (t:=33) rfl (fun hb33=>?_) (fun hb33=>?_)
    ·
     refine Ji rfl rfl<|QK (QD rfl)<|Ji rfl rfl<|QK (QD rfl)<|Ji rfl rfl<|QK (XB rfl rfl (by omega))<|Ji rfl rfl ?_
     have hi0:0<i.i:=by have:=wI hb33;omega
     refine QK (JH (n:=n) ((i.i - 1)) (fun F h9=>h9.1.1.1.1.2.1) rfl (congrArg (fun z:Int=>some (ay .i64 z)) (by omega)) Xq XT (by omega))<|Ji rfl rfl<|QK (QI rfl Yz Qv)<|Ji rfl rfl<|QK (JQ (n:=n) (((i.i - 1))*2+1) (fun F h9=>h9.1.1.1.1.2.1) (by omega) rfl Qv (Jy (f:=Kl) (l:=ps) Yb (by omega) rfl))<|Ji rfl rfl<|QK (QI rfl Yz Qv)<|Ji rfl rfl<|QK (Qm rfl Qv .here (.skip .h1))<|Ji rfl rfl ?_
     have hz0:=(Mk (i.z (i.i - 1) (by omega))).1
     rw [Hi (show i.i - 1<ps.length by omega)] at hz0
     have hE0:E=0:=eq_of_beq hb29
     obtain ⟨hz1,_⟩:=VT (hE.trans hE0)
     have htm0:el ps (i.i - 1)∈ps:=JK (by omega)
     refine Qd rfl (fun w F hF h9=>BA hF (ra:=(el ps (i.i - 1)).r) (rb:=(el ps i.i).r) (h9.1.1.1.1.2.2 _ htm0) (h9.1.1.1.1.2.2 _ htm) (Ko hz0 hv.2) (Ko hz1 hv.2)) (fun _=>Ji rfl rfl<|QK (QU rfl rfl rfl)<|QK (Qi rfl rfl rfl)<|Q3<|QC ?_)
     refine QQ rfl (fun hc=>?_) (fun hc=>?_)
     ·
      have h44:=wI hc
      refine QB<|wD rfl<|wF rfl<|QA (QU rfl rfl rfl)<|QE<|QC ?_
      refine QQ rfl (fun hc=>?_) (fun hc=>?_)
      ·
       refine wF rfl<|wD rfl<|QS ?_
       repeat (first | refine JC ?_ | refine Q5 ?_)
       exact wH rfl rfl (congrArg (ay .i64) (Hw hal hbig i hlt (by first | (rw [hst];exact if_pos ⟨eq_of_beq hb29,by have:=wI hb33;omega,h44⟩) | (rw [hst];exact if_neg (fun h=>h44 h.2.2)) | (rw [hst];exact if_neg (fun h=>by have:=wJ hb33;omega)) | (rw [hst];exact if_neg (fun h=>by rw [h.1] at hb29;cases hb29))) (bne_iff_ne.1 hc))) (fun F h9=>trivial)
      ·
       refine QO<|Qk<|QC<|QB<|QA (Qs rfl rfl (by omega))<|wA rfl<|QE ?_
       exact Qo (⟨i.i+1,hlt,fun j hj=>by
        rcases bg j i.i with g | g
        ·exact i.z j g
        ·rw [show j=i.i from by omega];first | exact absurd hc (by decide) | (rw [hst,if_neg (fun h=>h44 h.2.2)];exact bne_eq_false_iff_eq.1 hc) | (rw [hst,if_neg (fun h=>by have:=wJ hb33;omega)];exact bne_eq_false_iff_eq.1 hc) | (rw [hst,if_neg (fun h=>by rw [h.1] at hb29;cases hb29)];exact bne_eq_false_iff_eq.1 hc)⟩) (by show n - (i.i+1)<n - i.i;omega) wO (.cons _ .slnil) (fun F h=>h.1.1.1.1.1)
     ·
      have h44:=wJ hc
      refine QO<|QC<|wF rfl<|QA (QU rfl rfl rfl)<|QE<|QC ?_
      refine QQ rfl (fun hc=>?_) (fun hc=>?_)
      ·
       refine wF rfl<|wD rfl<|QS ?_
       repeat (first | refine JC ?_ | refine Q5 ?_)
       exact wH rfl rfl (congrArg (ay .i64) (Hw hal hbig i hlt (by first | (rw [hst];exact if_pos ⟨eq_of_beq hb29,by have:=wI hb33;omega,h44⟩) | (rw [hst];exact if_neg (fun h=>h44 h.2.2)) | (rw [hst];exact if_neg (fun h=>by have:=wJ hb33;omega)) | (rw [hst];exact if_neg (fun h=>by rw [h.1] at hb29;cases hb29))) (bne_iff_ne.1 hc))) (fun F h9=>trivial)
      ·
       refine QO<|Qk<|QC<|QB<|QA (Qs rfl rfl (by omega))<|wA rfl<|QE ?_
       exact Qo (⟨i.i+1,hlt,fun j hj=>by
        rcases bg j i.i with g | g
        ·exact i.z j g
        ·rw [show j=i.i from by omega];first | exact absurd hc (by decide) | (rw [hst,if_neg (fun h=>h44 h.2.2)];exact bne_eq_false_iff_eq.1 hc) | (rw [hst,if_neg (fun h=>by have:=wJ hb33;omega)];exact bne_eq_false_iff_eq.1 hc) | (rw [hst,if_neg (fun h=>by rw [h.1] at hb29;cases hb29)];exact bne_eq_false_iff_eq.1 hc)⟩) (by show n - (i.i+1)<n - i.i;omega) wO (.cons _ .slnil) (fun F h=>h.1.1.1.1.1)
    ·
     refine JP rfl rfl rfl<|JP rfl rfl rfl<|JP rfl rfl rfl<|JP rfl rfl rfl<|JP rfl rfl rfl<|JP rfl rfl rfl<|JP rfl rfl rfl<|JP rfl rfl rfl<|JP rfl rfl rfl<|JP rfl rfl rfl<|QK (Qh rfl rfl rfl)<|Q3<|QC<|YQ rfl<|QO<|QC<|wF rfl<|QA (QU rfl rfl rfl)<|QE<|QC ?_
     refine QQ rfl (fun hc=>?_) (fun hc=>?_)
     ·
      refine wF rfl<|wD rfl<|QS ?_
      repeat (first | refine JC ?_ | refine Q5 ?_)
      exact wH rfl rfl (congrArg (ay .i64) (Hw hal hbig i hlt (by first | (rw [hst];exact if_pos ⟨eq_of_beq hb29,by have:=wI hb33;omega,h44⟩) | (rw [hst];exact if_neg (fun h=>h44 h.2.2)) | (rw [hst];exact if_neg (fun h=>by have:=wJ hb33;omega)) | (rw [hst];exact if_neg (fun h=>by rw [h.1] at hb29;cases hb29))) (bne_iff_ne.1 hc))) (fun F h9=>trivial)
     ·
      refine QO<|Qk<|QC<|QB<|QA (Qs rfl rfl (by omega))<|wA rfl<|QE ?_
      exact Qo (⟨i.i+1,hlt,fun j hj=>by
        rcases bg j i.i with g | g
        ·exact i.z j g
        ·rw [show j=i.i from by omega];first | exact absurd hc (by decide) | (rw [hst,if_neg (fun h=>h44 h.2.2)];exact bne_eq_false_iff_eq.1 hc) | (rw [hst,if_neg (fun h=>by have:=wJ hb33;omega)];exact bne_eq_false_iff_eq.1 hc) | (rw [hst,if_neg (fun h=>by rw [h.1] at hb29;cases hb29)];exact bne_eq_false_iff_eq.1 hc)⟩) (by show n - (i.i+1)<n - i.i;omega) wO (.cons _ .slnil) (fun F h=>h.1.1.1.1)
   ·
    refine JP rfl rfl rfl<|JP rfl rfl rfl<|QK (Qh rfl rfl rfl)<|QK (QD rfl)<|JP rfl rfl rfl<|JP rfl rfl rfl<|JP rfl rfl rfl<|JP rfl rfl rfl<|JP rfl rfl rfl<|JP rfl rfl rfl<|JP rfl rfl rfl<|JP rfl rfl rfl<|JP rfl rfl rfl<|JP rfl rfl rfl<|QK (Qh rfl rfl rfl)<|Q3<|QC<|YQ rfl<|QO<|QC<|wF rfl<|QA (QU rfl rfl rfl)<|QE ?_
    refine QC ?_
    refine QQ rfl (fun hc=>?_) (fun hc=>?_)
    ·
     refine wF rfl<|wD rfl<|QS ?_
     repeat (first | refine JC ?_ | refine Q5 ?_)
     exact wH rfl rfl (congrArg (ay .i64) (Hw hal hbig i hlt (by first | (rw [hst];exact if_pos ⟨eq_of_beq hb29,by have:=wI hb33;omega,h44⟩) | (rw [hst];exact if_neg (fun h=>h44 h.2.2)) | (rw [hst];exact if_neg (fun h=>by have:=wJ hb33;omega)) | (rw [hst];exact if_neg (fun h=>by rw [h.1] at hb29;cases hb29))) (bne_iff_ne.1 hc))) (fun F h9=>trivial)
    ·
     refine QO<|Qk<|QC<|QB<|QA (Qs rfl rfl (by omega))<|wA rfl<|QE ?_
     exact Qo (⟨i.i+1,hlt,fun j hj=>by
        rcases bg j i.i with g | g
        ·exact i.z j g
        ·rw [show j=i.i from by omega];first | exact absurd hc (by decide) | (rw [hst,if_neg (fun h=>h44 h.2.2)];exact bne_eq_false_iff_eq.1 hc) | (rw [hst,if_neg (fun h=>by have:=wJ hb33;omega)];exact bne_eq_false_iff_eq.1 hc) | (rw [hst,if_neg (fun h=>by rw [h.1] at hb29;cases hb29)];exact bne_eq_false_iff_eq.1 hc)⟩) (by show n - (i.i+1)<n - i.i;omega) wO (.cons _ .slnil) (fun F h=>h.1.1.1.1)
  ·
   have hge:n≤i.i:=by have:=wJ hc;omega
   refine Qz ?_
   repeat (first | refine Qb ?_ | refine QV (by rfl) ?_)
   refine Qc<|QC<|wE<|wD rfl<|QS ?_
   exact wH rfl rfl (congrArg (ay .i64) (FL hal hbig i hge)) (fun F h9=>trivial)
theorem SY {w:ag} {F:Gs} {q:Option Addr} {n cap b:Nat} {ps:List V5} {v:Int} (hF:Fits F w) (hGl:JB F) (hB:F b=some (#[.int .i64 v],3)) (hR:Q6 F q n 2 (ps.flatMap Kl)) (hP:Zx F ps) (hln:ps.length=n) (hf:∀ t∈ps,t.f.length≤1000000∧t.k.length≤1000000) (hl:ps.length≤1000000) (hv:0≤v∧v≤24):QZ Tryz.prog 208 [.slice q n cap,.pointer (some ⟨b,0,none⟩)] w F (.int .i64 (XZ (J2 ps) v)):=by
 refine QT.intro (G:=fun F=>JB F∧F b=some (#[.int .i64 v],3)∧Q6 F q n 2 (ps.flatMap Kl)∧Zx F ps) Tryz.func208 rfl (by rfl) rfl rfl hF (fun F' hF'=>⟨hGl.le hF',hF' _ _ hB,hR.le hF',hP.le hF'⟩)<|wE<|wD rfl<|wF rfl<|QA (ND (c:=#[.int .i64 v]) (T':=3) rfl Qp (fun F h9=>h9.2.1) rfl)<|QH rfl (fun w F hF h9=>B1 hF (h9.1) (h9.2.2.1) (h9.2.2.2) (hln) (hf) (hl) (hv)) (fun _=>wD rfl<|QS ?_)
 exact wH rfl rfl (rfl) (fun F h9=>trivial)
instance :Inhabited KG:=⟨(⟨none,0,0⟩,[])⟩
section
variable [Dr] [df:Df] {P:aS} {N:Nat} {m:Sl} {S:ag→Prop} {ty:aK}
theorem NC {g:FuncId} {cap:Array bF} {vs:List aF} (hv:Ep m cap.toList=some vs):Qt P N m S (.makeFunc (.func g) #[] cap) ty (.func (.func g) #[] vs.toArray):=fun a w _ _ _ _ ha _=>by
 have:=ha.Ep hv
 have e:cap.map a.eval=vs.toArray:=by rw [← this];apply e9;simp
 simp [execOp,Instr.makeFunc,e]
end
def YW (F:Gs) (ls:List KG):Prop:=∀ e∈ls,Q6 F e.1.q e.1.n 2 (e.2.flatMap Kl)∧Zx F e.2
theorem YW.le {F F':Gs} {ls:List KG} (h:YW F ls) (k:Gs.le F F'):YW F' ls:=fun e he=>⟨(h e he).1.le k,(h e he).2.le k⟩
def VX (e:KG):Prop:=e.2.length=e.1.n∧(∀ t∈e.2,t.f.length≤1000000∧t.k.length≤1000000)∧e.2.length≤1000000
def WM (ls:List KG) (v:Int):Int:=if Zr v=0 then Ql (ls.map fun e=>XZ (J2 e.2) v) else Zr v
theorem Am {w:ag} {F:Gs} {q:Option Addr} {n c f:Nat} {ls:List KG} {fE:KG→Int} {c1 c2:List aF} {G0:Gs→Prop} (hF:Fits F w) (hg:∀ F F',Gs.le F F'→G0 F→G0 F') (h0:G0 F) (hR:Q6 F q n 1 (ls.map fun e=>e.1.v)) (hn:ls.length=n) (hb:n≤1000000) (hc:∀ e∈ls,∀ w F,Fits F w→G0 F→QZ Tryz.prog f (c1++[e.1.v]++c2) w F (.int .i64 (fE e))) :
  QZ Tryz.prog 207 [.slice q n c,.func (.func f) c1.toArray c2.toArray] w F (.int .i64 (Ql (ls.map fE))):=by
 refine QT.intro (G:=fun F=>G0 F∧Q6 F q n 1 (ls.map fun e=>e.1.v)) Tryz.func207 rfl (by rfl) rfl rfl hF (fun F' hF'=>⟨hg F F' hF' h0,hR.le hF'⟩)<|wE<|wD rfl<|QG<|wF rfl<|QA (Qj rfl D9)<|wA rfl<|wC<|QX<|Zc (ι:=KF ls fE) [(1,_),(8,_),(9,_)] (fun i=>[(10,.int .i64 ((i.i:Nat):Int))]) (fun i=>ls.length - i.i) (KF.start _ _) wM wK (fun i=>?_)
 simp only [ae,ab]
 have hi:=i.le
 refine wE<|QA (QU rfl rfl rfl)<|wC<|QG ?_
 refine QQ rfl (fun hc2=>?_) (fun hc2=>?_)
 ·
  have hlt:i.i<ls.length:=by have:=wI hc2;omega
  have hem:=JK hlt
  refine QO<|QC<|QG<|QX<|wE<|QA (JH (n:=n) (i.i) (fun F h9=>h9.2) rfl rfl D9 Mt (by omega))<|QA (JQ (n:=n) ((i.i)*1) (fun F h9=>h9.2) (by omega) rfl Mt (Bp (f:=fun e:KG=>e.1.v) (l:=ls) (by omega)))<|wD rfl<|wF rfl<|wA rfl<|Gm (c1:=c1) (c2:=c2) rfl rfl (fun w F hF h9=>hc _ hem w F hF h9.1) (fun _=>wD rfl<|wF rfl<|QA (QU rfl rfl rfl)<|QE<|QC ?_)
  refine QQ rfl (fun hc2=>?_) (fun hc2=>?_)
  ·
   have h18:=bne_iff_ne.1 hc2
   refine wF rfl<|wD rfl<|QS ?_
   repeat (first | refine JC ?_ | refine Q5 ?_)
   exact wH rfl rfl (congrArg (ay .i64) (i.hit hlt h18)) (fun F h9=>trivial)
  ·
   have h18:=bne_eq_false_iff_eq.1 hc2
   refine QO<|Qk<|QC<|QB<|QA (Qs rfl rfl (by omega))<|wA rfl<|QE ?_
   exact Qo (i.next hlt h18) (by show ls.length - (i.i+1)<ls.length - i.i;omega) wN wG (fun F h=>h.1)
 ·
  have hge:ls.length≤i.i:=by have:=wJ hc2;omega
  refine Qz ?_
  repeat (first | refine Qb ?_ | refine QV (by rfl) ?_)
  refine Qc<|QC<|wE<|wD rfl<|QS ?_
  exact wH rfl rfl (congrArg (ay .i64) (i.stop hge)) (fun F h9=>trivial)
theorem BI {w:ag} {F:Gs} {q:Option Addr} {n c:Nat} {ls:List KG} {v:Int} (hF:Fits F w) (hGl:JB F) (hR:Q6 F q n 1 (ls.map fun e=>e.1.v)) (hA:YW F ls) (hn:ls.length=n) (hb:n≤1000000) (ht:∀ e∈ls,VX e) :
  QZ Tryz.prog 128 [.int .i64 v,.slice q n c] w F (.int .i64 (WM ls v)):=by
 refine QT.intro (G:=fun F=>JB F∧Q6 F q n 1 (ls.map fun e=>e.1.v)∧YW F ls) Tryz.func128 rfl (by rfl) rfl rfl hF (fun F' hF'=>⟨hGl.le hF',hR.le hF',hA.le hF'⟩)<|wE<|Q2 rfl (vs:=[_]) rfl (fun b2=>wD rfl<|QG<|wE<|QA (Qm rfl Qp .here .h1)<|QH rfl (fun w F hF h9=>G8 hF ) (fun _=>wD rfl<|wF rfl<|QA (QU rfl rfl rfl)<|QE<|QC ?_))
 refine QQ rfl (fun hc=>?_) (fun hc=>?_)
 ·
  have hc0:=bne_iff_ne.1 hc
  refine wF rfl<|wD rfl<|QS ?_
  exact wH rfl rfl (congrArg (ay .i64) (by unfold WM;rw [if_neg hc0])) (fun F h9=>trivial)
 ·
  have hc0:=bne_eq_false_iff_eq.1 hc
  have hv:=(Kj v).1 hc0
  refine QO<|QC<|wF rfl<|Wz (b:=b2) .here<|QA (NC rfl)<|QH rfl (fun w F hF ⟨⟨⟨hGl,hR,hA⟩,_⟩,hB⟩=>Am (f:=208) (fE:=fun e=>XZ (J2 e.2) v) (c1:=[]) (c2:=[.pointer (some ⟨b2,0,none⟩)]) (G0:=fun F=>JB F∧YW F ls∧F b2=some (#[.int .i64 v],3)) hF (fun F F' hle h=>⟨h.1.le hle,h.2.1.le hle,hle _ _ h.2.2⟩) ⟨hGl,hA,hB⟩ hR hn hb (fun e he w F hF h=>SY hF h.1 h.2.2 (h.2.1 e he).1 (h.2.1 e he).2 (ht e he).1 (ht e he).2.1 (ht e he).2.2 hv)) (fun _=>wD rfl<|QS ?_)
  exact wH rfl rfl (congrArg (ay .i64) (by unfold WM;rw [if_pos hc0])) (fun F h9=>trivial)
def Q9 (p:Pt):List Tm:=p.map fun x=>(Jj x.1,x.2)
theorem S6 (ts:List V5):ts.map C0=Q9 (J2 ts):=by simp [Q9,J2,C0]
theorem RB:∀ (p:List Tm) (t:Tm),(ZC p t).length≤p.length+1
 |[],t=>by
  unfold ZC;split<;>simp
 |x::p,t=>by
  have:=RB p t
  unfold ZC
  repeat' split
  all_goals simp only [ar]
  all_goals omega
theorem Tp:∀ (l p:List Tm),(l.foldl ZC p).length≤p.length+l.length
 |[],p=>by simp
 |t::l,p=>by
  have h1:=Tp l (ZC p t)
  have h2:=RB p t
  simp only [eb,ar];omega
theorem Vl (l:List Tm):(Jp l).length≤l.length:=by have:=Tp l [];simpa [Jp] using this
theorem Tj:∀ (l p:List Tm) (x:Tm),x∈l.foldl ZC p→(∃ y∈p,y.2=x.2)∨∃ y∈l,y.2=x.2
 |[],p,x,h=>.inl ⟨x,h,rfl⟩
 |t::l,p,x,h=>by
  rw [eb] at h
  rcases Tj l _ x h with ⟨y,hy,e⟩ | ⟨y,hy,e⟩
  ·rcases De hy with h2 | h2
   ·exact .inl ⟨y,h2,e⟩
   ·exact .inr ⟨t,by simp,by rw [← h2];exact e⟩
  ·exact .inr ⟨y,by simp [hy],e⟩
theorem Wx {l:List Tm} {x:Tm} (h:x∈Jp l):∃ y∈l,y.2=x.2:=by
 rcases Tj l [] x h with ⟨y,hy,_⟩ | h
 ·cases hy
 ·exact h
theorem V1 {p:List Tm} (h:Canon p) {t:Tm} (ht:t∈p):Ig.Jh p t.2=t.1:=by
 induction p with
 |nil=>cases ht
 |cons x p ih =>
  rcases List.mem_cons.1 ht with rfl | ht
  ·exact h.head
  ·have hb:=(List.pairwise_cons.1 h.C8).1 t ht
   have hne:x.2≠t.2:=LH hb
   simp only [Ig.Jh]
   rw [if_neg hne,eY];exact ih h.tail ht
theorem DV {l:List Tm} {t:Tm} (h:t∈Jp l):JL t.1≤Zh l+1:=by
 rw [← V1 (ZF l) h,KM];exact BX l t.2
theorem H4 {l:List Tm} {k:Nat} (h:∀ t∈l,JL t.1≤k):Zh l≤l.length*(k+1):=by
 induction l with
 |nil=>simp [Zh]
 |cons x l ih =>
  have e:Zh (x::l)=JL x.1+1+Zh l:=by unfold Zh;rw [aC,aO]
  have h1:=ih fun t ht=>h t (by simp [ht])
  have h2:=h x (by simp)
  rw [e,ar,aT];omega
theorem PT {a b:List Int} (h:VH a b<0):before a b=true:=by rw [K9];exact decide_eq_true h
theorem WD {α:Type} [Inhabited α] {R:α→α→Prop} (ht:∀ a b c,R a b→R b c→R a c):∀ (l:List α),(∀ i,0<i→i<l.length→R (el l (i - 1)) (el l i))→l.Pairwise R
 |[],_=>ei
 |x::l,h=>by
  have ih:=WD ht l fun i h0 hi=>by
   have:=h (i+1) (by omega) (by simp;omega)
   have e1:el (x::l) (i+1)=el l i:=rfl
   have e2:el (x::l) (i+1 - 1)=el l (i - 1):=by
    obtain ⟨j,rfl⟩:∃ j,i=j+1:=⟨i - 1,by omega⟩
    rfl
   rw [e1,e2] at this;exact this
  refine List.pairwise_cons.2 ⟨?_,ih⟩
  cases l with
  |nil=>intro y hy;cases hy
  |cons z l =>
   have hz:R x z:=h 1 (by omega) (by simp)
   intro y hy
   rcases List.mem_cons.1 hy with rfl | hy
   ·exact hz
   ·exact ht _ _ _ hz ((List.pairwise_cons.1 ih).1 y hy)
structure Yv (p:Pt) (v:Int):Prop where
 len:p.length≤64
 term:∀ x∈p,Z9 x.1 x.2 v=0
 can:Canon (Q9 p)
theorem KU {p:Pt} {v:Int} (h:XZ p v=0):Yv p v:=by
 unfold XZ at h
 split at h
 ·omega
 ·rename_i hl
  have hl':p.length≤64:=by rw [decide_eq_true_eq] at hl;omega
  have hz:∀ i,i<p.length→Vg p v i=0:=by
   have key:∀ (l:List Int),Ql l=0→∀ x∈l,x=0:=by
    intro l
    induction l with
    |nil=>intro _ x hx;cases hx
    |cons a l ih =>
     intro h x hx
     unfold Ql at h
     by_cases g:a=0
     ·rw [if_pos g] at h
      rcases List.mem_cons.1 hx with rfl | hx
      ·exact g
      ·exact ih h x hx
     ·rw [if_neg g] at h;exact absurd h g
   intro i hi
   exact key _ h _ (List.mem_map.2 ⟨i,by simpa using hi,rfl⟩)
  have hs:=fun i hi=>Mk (hz i hi)
  have hel:∀ x∈p,∃ i,i<p.length∧el p i=x:=fun x hx=>by
   obtain ⟨i,hi,e⟩:=eG hx
   exact⟨i,hi,by rw [X5 hi];exact e⟩
  refine⟨hl',fun x hx=>?_,⟨?_,fun t ht=>?_⟩⟩
  ·obtain ⟨i,hi,rfl⟩:=hel x hx;exact(hs i hi).1
  ·unfold Q9
   rw [bC]
   refine WD (R:=fun a b:List UInt8×List Int=>before a.2 b.2=true) (fun a b c h k=>before_trans h k) p fun i h0 hi=>?_
   exact PT ((hs i hi).2.2 h0)
  ·unfold Q9 at ht
   obtain ⟨x,hx,rfl⟩:=List.mem_map.1 ht
   obtain ⟨i,hi,rfl⟩:=hel x hx
   have h1:=(YI (hs i hi).1).2.2.2
   have h2:=(hs i hi).2.1
   intro e
   have h3:=(X6 h1).1
   have e':Jj (el p i).1=0:=e
   rw [e'] at h3
   exact h2 (h3.trans TP)
theorem Yv.sz {p:Pt} {v:Int} (h:Yv p v):∀ t∈Q9 p,JL t.1≤2400:=fun t ht=>by
 unfold Q9 at ht
 obtain ⟨x,hx,rfl⟩:=List.mem_map.1 ht
 exact XE (YI (h.term x hx)).2.2.2
theorem Yv.Zh {p:Pt} {v:Int} (h:Yv p v):YtknegjaeoffnbaaGreatDoor.Zh (Q9 p)≤160000:=by
 have h1:=H4 h.sz
 have h2:(Q9 p).length≤64:=by unfold Q9;rw [ah];exact h.len
 have:=aE 2401 h2
 omega
theorem Yv.pw {p:Pt} {v:Int} (h:Yv p v) (hv:v≤24):∀ t∈Q9 p,PW t.2:=fun t ht=>by
 unfold Q9 at ht
 obtain ⟨x,hx,rfl⟩:=List.mem_map.1 ht
 exact Ko (h.term x hx) hv
def uP (ls:List KG) (v:Int) (l:List Tm):Int:=if WM ls v=0 then GL l else WM ls v
def uO (ls:List KG) (v:Int) (l:List Tm):Pt:=if WM ls v=0 then H8 l else []
theorem MO {ls:List KG} {v:Int} (h:WM ls v=0):(0≤v∧v≤24)∧∀ e∈ls,Yv (J2 e.2) v:=by
 unfold WM at h
 split at h
 ·rename_i g
  refine⟨(Kj v).1 g,fun e he=>KU ?_⟩
  have key:∀ (l:List Int),Ql l=0→∀ x∈l,x=0:=by
   intro l
   induction l with
   |nil=>intro _ x hx;cases hx
   |cons a l ih =>
    intro h x hx
    unfold Ql at h
    by_cases g:a=0
    ·rw [if_pos g] at h
     rcases List.mem_cons.1 hx with rfl | hx
     ·exact g
     ·exact ih h x hx
    ·rw [if_neg g] at h;exact absurd h g
  exact key _ h _ (List.mem_map.2 ⟨e,he,rfl⟩)
 ·rename_i g;exact absurd h g
theorem Vd {w:ag} {F:Gs} {a:KG} {v:Int} (hF:Fits F w) (hGl:JB F) (hR:Q6 F a.1.q a.1.n 2 (a.2.flatMap Kl)) (hP:Zx F a.2) (ht:VX a) (ho:Yv (J2 a.2) v) (hv:0≤v∧v≤24) :
  QT Tryz.prog 130 [a.1.v] w F (fun(c:W9)=>c.1.v) (fun c F=>Jr F c.1 c.2 (Q9 (J2 a.2))):=by
 have hs:=ho.Zh
 have h:=q8 hF hGl (r:=a.1) (ps:=a.2) hR hP ht.1 (by have:=ho.len;simp [J2] at this;omega) (fun t htm=>?_) (by rw [S6];omega)
 ·rw [S6,WE ho.can] at h;exact h
 ·have h1:=ho.term (t.f,t.k) (List.mem_map.2 ⟨t,htm,rfl⟩)
  exact⟨(YI h1).2.2.2,(ht.2.1 t htm).1,Ko h1 hv.2⟩
theorem Jr.len {F:Gs} {s:Sr} {ts:List XU} {p:List Tm} (h:Jr F s ts p):ts.length=p.length:=by rw [← h.2.2.1];simp [JG]
theorem J8 {ts:List XU} {p:List Tm} {Q:Tm→Prop} (h:JG ts=p) (hq:∀ t∈p,Q t):∀ t∈ts,Q t.t:=fun t ht=>hq _ (h ▸ af ht)
theorem NM {l:List Tm} (hp:∀ t∈l,PW t.2):∀ t∈Jp l,PW t.2:=fun t ht=>by
 obtain ⟨y,hy,e⟩:=Wx ht
 rw [← e];exact hp y hy
def uE (c:List UInt8) (p:Pt) (v:Int) (l:List Tm):Int:=if Ql [Zr v,Jg c]=0 then(if XZ p v=0 then GL l else XZ p v) else Ql [Zr v,Jg c]
def uD (c:List UInt8) (p:Pt) (v:Int) (l:List Tm):Pt:=if Ql [Zr v,Jg c]=0 then(if XZ p v=0 then H8 l else []) else []
theorem Dd {a:Rat} {l:List Tm} {t:Tm} (h:t∈KI a l):∃ y∈l,t=(y.1*a,y.2):=by
 unfold KI at h
 split at h
 ·cases h
 ·obtain ⟨y,hy,e⟩:=List.mem_map.1 h;exact⟨y,hy,e.symm⟩
theorem SI (a:Rat) (l:List Tm):(KI a l).length≤l.length:=by
 unfold KI;split<;>simp
def BN (p:Pt) (n:Nat):Int:=if Ql [if decide ((n:Int)=0)=true then 2 else 0,if decide ((n:Int)>25)=true then 5 else 0]=0 then XZ p ((n:Int) - 1) else Ql [if decide ((n:Int)=0)=true then 2 else 0,if decide ((n:Int)>25)=true then 5 else 0]
theorem Ud {n:Nat} (h:Ql [if decide ((n:Int)=0)=true then 2 else 0,if decide ((n:Int)>25)=true then 5 else 0]=0):1≤n∧n≤25:=by
 obtain ⟨h1,h2⟩:=VT h
 simp only [decide_eq_true_eq] at h1 h2
 constructor
 ·split at h1<;>omega
 ·split at h2<;>omega
theorem xX {w:ag} {F:Gs} {a:KG} {c:List UInt8} {v:Int} (hF:Fits F w) (hGl:JB F) (hR:Q6 F a.1.q a.1.n 2 (a.2.flatMap Kl)) (hA:Zx F a.2) (ht:VX a) (hcl:c.length≤1000000) :
  QT Tryz.prog 76 [tx c,a.1.v,.int .i64 v] w F (fun(r:KG)=>.tuple #[r.1.v,.int .i64 (uE c (J2 a.2) v (KI (Jj c) (Q9 (J2 a.2))))]) (fun r F=>YR F r.1 r.2 (uD c (J2 a.2) v (KI (Jj c) (Q9 (J2 a.2))))):=by
 dsimp only [Sr.v]
 refine QT.intro (G:=fun F=>JB F∧Q6 F a.1.q a.1.n 2 (a.2.flatMap Kl)∧Zx F a.2) Tryz.func76 rfl (by rfl) rfl rfl hF (fun F' hF'=>⟨hGl.le hF',hR.le hF',hA.le hF'⟩)<|wE<|wB rfl<|wD rfl<|QG<|wF rfl<|QH rfl (fun w F hF h9=>G8 hF ) (fun _=>wA rfl<|QH rfl (fun w F hF h9=>MM hF h9.1.1 (hcl)) (fun _=>QW rfl (Q8 Zn) Y7 BO rfl rfl (fun b14=>QH rfl (fun w F hF h9=>Zz hF (Q6.of (cs:=bA Qy [Zr v,Jg c]) h9.2 rfl) (by decide)) (fun _=>wD rfl<|wF rfl<|QA (QU rfl rfl rfl)<|QE<|QC ?_))))
 refine QQ rfl (fun hc=>?_) (fun hc=>?_)
 ·
  have hc0:=bne_iff_ne.1 hc
  refine wF rfl<|wB rfl<|wD rfl<|QS ?_
  exact Ja ((⟨none,0,0⟩,[])) rfl (.tmp rfl (.tmp rfl .nil)) (by unfold uE;rw [if_neg hc0]) (fun F h9=>by unfold uD;rw [if_neg hc0];exact YR.nil F)
 ·
  have hc0:=bne_eq_false_iff_eq.1 hc
  obtain ⟨hc1,hc2⟩:=VT hc0
  have hv:=(Kj v).1 hc1
  refine QO<|QC<|QG<|wF rfl<|wA rfl<|QH rfl (fun w F hF h9=>B1 hF (h9.1.1.1.1.1) (h9.1.1.1.1.2.1) (h9.1.1.1.1.2.2) (ht.1) (ht.2.1) (ht.2.2) (hv)) (fun _=>wD rfl<|wF rfl<|QA (QU rfl rfl rfl)<|QE<|QC ?_)
  refine QQ rfl (fun hc=>?_) (fun hc=>?_)
  ·
   have ht0:=bne_iff_ne.1 hc
   refine wF rfl<|wB rfl<|wD rfl<|QS ?_
   exact Ja ((⟨none,0,0⟩,[])) rfl (.tmp rfl (.tmp rfl .nil)) (by unfold uE;rw [if_pos hc0,if_neg ht0]) (fun F h9=>by unfold uD;rw [if_pos hc0,if_neg ht0];exact YR.nil F)
  ·
   have ht0:=bne_eq_false_iff_eq.1 hc
   have oa:=KU ht0
   have sa:=oa.Zh
   have hpa:∀ t∈Q9 (J2 a.2),PW t.2:=oa.pw hv.2
   have la:(Q9 (J2 a.2)).length≤64:=by unfold Q9;rw [ah];exact oa.len
   have hzc:=XE hc2
   have hll:=SI (Jj c) (Q9 (J2 a.2))
   refine QO<|QC<|wF rfl<|QH rfl (fun w F hF ⟨⟨⟨⟨⟨⟨hGl,hR,hA⟩,_⟩,_⟩,hs14⟩,_⟩,_⟩=>Vd hF hGl (a:=a) hR hA ht oa hv) (fun c26=>JO _ (fun w F hF h=>aH h.2.2.2.1 h.2.len) (fun h26p=>?_))
   obtain ⟨e26,l26⟩:=h26p
   refine wA rfl<|QH rfl (fun w F hF h9=>Hg hF h9.1.1.1.1.1.1.1 (X6 hc2).1 (by omega)) (fun x28=>QH rfl (fun w F hF h9=>Of hF (p:=c26) (x:=x28) (by rw [e26];exact h9.1.2) ⟨h9.2.1,h9.2.2⟩ (by omega) (by omega) (by rw [e26];omega)) (fun c29=>JO _ (fun w F hF h=>aH h.2.2.2.1 h.2.len) (fun h29p=>?_)))
   obtain ⟨e29,l29⟩:=h29p
   rw [e26] at e29 l29
   refine QH rfl (fun w F hF ⟨⟨⟨⟨⟨⟨⟨⟨⟨hGl,hR,hA⟩,_⟩,_⟩,hs14⟩,_⟩,_⟩,h26⟩,⟨h28,h28_⟩⟩,h29⟩=>GV hF (q:=c29.1.q) (n:=c29.1.n) (cap:=c29.1.cap) (ts:=c29.2) (by rw [e29];rw [e26] at h29;exact h29) hGl (J8 (Q:=fun t=>PW t.2) e29 (fun t ht=>by obtain ⟨y,hy,e⟩:=Dd ht;rw [e];exact hpa y hy)) (J8 (Q:=fun t=>JL t.1≤100000000) e29 (fun t ht=>by obtain ⟨y,hy,e⟩:=Dd ht;rw [e];have h1:=J9 y.1 (Jj c);have h2:=oa.sz y hy;dsimp only;omega)) (by omega)) (fun c30=>?_)
   rw [e29]
   refine QA (QM rfl rfl)<|QA (QM rfl rfl)<|wB rfl<|wD rfl<|QS ?_
   exact Ja (c30) rfl (.tmp rfl (.tmp rfl .nil)) (by unfold uE;rw [if_pos hc0,if_pos ht0];rfl) (fun F h9=>by unfold uD;rw [if_pos hc0,if_pos ht0];exact h9.2)
theorem Fa {w:ag} {F:Gs} {a:KG} {n:Nat} (hF:Fits F w) (hGl:JB F) (hR:Q6 F a.1.q a.1.n 2 (a.2.flatMap Kl)) (hA:Zx F a.2) (ht:VX a) (hn:n≤1000000) :
  QZ Tryz.prog 185 [a.1.v,.int .i64 (n:Nat)] w F (.int .i64 (BN (J2 a.2) n)):=by
 dsimp only [Sr.v]
 refine QT.intro (G:=fun F=>JB F∧Q6 F a.1.q a.1.n 2 (a.2.flatMap Kl)∧Zx F a.2) Tryz.func185 rfl (by rfl) rfl rfl hF (fun F' hF'=>⟨hGl.le hF',hR.le hF',hA.le hF'⟩)<|wE<|wD rfl<|QG<|wF rfl<|QA (QU rfl rfl rfl)<|QH rfl (fun w F hF h9=>Z1 hF ) (fun _=>wA rfl<|QA (QU rfl rfl rfl)<|QH rfl (fun w F hF h9=>Z1 hF ) (fun _=>QW rfl (Q8 Zn) Y7 BO rfl rfl (fun b12=>QH rfl (fun w F hF h9=>Zz hF (Q6.of (cs:=bA Qy [if decide ((n:Int)=0)=true then 2 else 0,if decide ((n:Int)>25)=true then 5 else 0]) h9.2 rfl) (by decide)) (fun _=>wD rfl<|wF rfl<|QA (QU rfl rfl rfl)<|QE ?_))))
 refine QC ?_
 refine QQ rfl (fun hc=>?_) (fun hc=>?_)
 ·
  have hc0:=bne_iff_ne.1 hc
  refine wF rfl<|wD rfl<|QS ?_
  exact wH rfl rfl (congrArg (ay .i64) (by unfold BN;rw [if_neg hc0])) (fun F h9=>trivial)
 ·
  have hc0:=bne_eq_false_iff_eq.1 hc
  have hv:=Ud hc0
  refine QO<|QC<|wF rfl<|wA rfl<|QA (XB rfl rfl (by omega))<|QH rfl (fun w F hF h9=>B1 hF (h9.1.1.1.1.1) (h9.1.1.1.1.2.1) (h9.1.1.1.1.2.2) (ht.1) (ht.2.1) (ht.2.2) (by omega)) (fun _=>wD rfl<|QS ?_)
  exact wH rfl rfl (congrArg (ay .i64) (by unfold BN;rw [if_pos hc0])) (fun F h9=>trivial)
def EU (v:Nat) (t:Tm):List Tm:=if 0<Qa t.2 v then [(t.1*((Qa t.2 v:Int):Rat),t.2.set v (Qa t.2 v - 1))] else []
def ZT (v:Nat) (l:List Tm):List Tm:=l.flatMap (EU v)
structure QAR (v:Nat) (ps:List XU) where
 i:Nat
 ts:List XU
 le:i≤ps.length
 hI:VE ts (ZT v (JG (ps.take i)))
theorem RO {v:Nat} {ps:List XU} {i:Nat} (h:i<ps.length):ZT v (JG (ps.take (i+1)))=ZT v (JG (ps.take i))++EU v (el ps i).t:=by
 rw [Xj h];unfold ZT;rw [aJ];simp
theorem jw (v:Nat) (ps:List XU) (i:Nat):Zh (ZT v (JG (ps.take i)))≤Zh (ZT v (JG ps)):=by
 have e:JG ps=JG (ps.take i)++JG (ps.drop i):=by unfold JG;rw [← ak,aG]
 have h:Zh (ZT v (JG ps))=Zh (ZT v (JG (ps.take i)++JG (ps.drop i))):=by rw [← e]
 unfold ZT at h ⊢
 rw [aJ,Xc] at h;omega
theorem PW.set {l:List Int} (h:PW l) {v:Nat} (hk:0<Qa l v):PW (l.set v (Qa l v - 1)):=by
 refine⟨fun x hx=>?_,by rw [aW];exact h.2⟩
 rcases List.mem_or_eq_of_mem_set hx with hx | rfl
 ·exact h.1 x hx
 ·by_cases hv:v<l.length
  ·have:=h.el hv;omega
  ·have:Qa l v=0:=by simp [Qa,List.getD];intro h;exact absurd h hv
   omega
theorem Rj {x:Int} (h:0≤x∧x≤1000000):sz x≤64:=aa (Yx (b:=1000000) (by omega)) (by decide)
theorem B7 (v:Nat) (l:List Tm):(ZT v l).length≤l.length:=by
 unfold ZT
 induction l with
 |nil=>simp
 |cons t l ih =>
  rw [aZ,ao,ar]
  have:(EU v t).length≤1:=by unfold EU;split<;>simp
  omega
theorem Ot {w:ag} {F:Gs} {p:W9} {v:Nat} (hF:Fits F w) (hGl:JB F) (hP:Jr F p.1 p.2 (JG p.2)) (hp:∀ t∈p.2,PW t.t.2∧v<t.t.2.length) (hl:p.2.length≤100000) (hzt:∀ t∈p.2,JL t.t.1≤20000000) (hz:Zh (ZT v (JG p.2))≤40000000) :
  QT Tryz.prog 138 [p.1.v,.int .i64 (v:Nat)] w F (fun(c:W9)=>c.1.v) (fun c F=>Jr F c.1 c.2 (Jp (ZT v (JG p.2)))):=by
 have hpn:=hP.2.2.2.2
 dsimp only [Sr.v]
 refine QT.intro (G:=fun F=>JB F∧Jr F p.1 p.2 (JG p.2)) Tryz.func138 rfl (by rfl) rfl rfl hF (fun F' hF'=>⟨hGl.le hF',hP.le hF'⟩)<|wE<|wD rfl<|QG<|QB ?_
 refine Va tx (fun m=>?_)
 refine wD rfl<|QG<|wF rfl<|QA (Qj rfl J6)<|wA rfl<|wC<|QX ?_
 refine Jz (ι:=QAR v p.2) [(1,_),(5,_),(11,_),(12,_)] (fun i=>[(13,.int .i64 ((i.i:Nat):Int))]) (fun i=>[(m,ZD tx (Wo i.ts))]) (fun i F=>Vh F i.ts) (fun i=>p.2.length - i.i) (⟨0,[],ai _,VE.nil⟩) wN wK wG (fun _ _ _ h=>by cases h) (fun i=>?_)
 simp only [ae,ab]
 have hi:=i.le
 refine wE<|QA (QU rfl rfl rfl)<|wC<|QG ?_
 refine QQ rfl (fun hc=>?_) (fun hc=>?_)
 ·
  have hlt:i.i<p.2.length:=by have:=wI hc;omega
  have htm:=JK hlt
  have hp1:=hp _ htm
  have hra:=(hP.2.1 _ htm).2.2.1
  have hdl:=jw v p.2 i.i
  have hzz:=hzt _ htm
  have hb1:=hp1.1.el hp1.2
  have hl2:=hp1.1.2
  refine QO<|QC<|QG<|QX<|wE<|QA (JH (n:=p.1.n) (i.i) (fun F h9=>(h9.1.2).1) rfl rfl J6 Je (by omega))<|QA (Xd (n:=p.1.n) (vs:=[.int .i64 (el p.2 (i.i)).x.n.s,.slice (el p.2 (i.i)).x.n.q (el p.2 (i.i)).x.n.n (el p.2 (i.i)).x.n.cap,.int .i64 (el p.2 (i.i)).x.d.s,.slice (el p.2 (i.i)).x.d.q (el p.2 (i.i)).x.d.n (el p.2 (i.i)).x.d.cap,.slice (el p.2 (i.i)).r.q (el p.2 (i.i)).r.n (el p.2 (i.i)).r.cap]) ((i.i)*5) (fun F h9=>(h9.1.2).1) (by omega) rfl Je rfl (fun j v hv=>Jy (f:=Ym) (l:=p.2) YP (by omega) hv)) ?_
  refine Qg Zl (fun b7=>?_)
  refine QR (vs:=[_,_,_,_,_]) rfl rfl rfl Je rfl .here .h5 wO<|wC<|wE<|QA (QI rfl X8 Qv)<|QA (Qm rfl Qv .here (.skip (.skip (.skip (.skip .h1)))))<|wA rfl<|QA (JH (n:=(el p.2 i.i).r.n) (v) (fun F h9=>((h9.1.2.2.1 _ htm).2).1) rfl rfl Qf Qp (by omega))<|QA (JQ (n:=(el p.2 i.i).r.n) ((v)*1) (fun F h9=>((h9.1.2.2.1 _ htm).2).1) (by omega) rfl Qp (JJ (o:=(el p.2 i.i).t.2) (by omega)))<|wD rfl<|wF rfl<|QA (QU rfl rfl rfl)<|QE<|QC ?_
  refine QQ rfl (fun hc=>?_) (fun hc=>?_)
  ·
   have hkp:=wI hc
   refine wE<|QA (QI rfl X8 Qv)<|QA (Qm rfl Qv .here (.skip (.skip (.skip (.skip .h1))))) ?_
   refine XO rfl (aM _) (Sh (r:=(el p.2 i.i).r) (l:=(el p.2 i.i).t.2) (fun F h9=>(h9.1.2.2.1 _ htm).2) hra (by omega)) (fun c26=>?_)
   refine JO _ (fun w F hF h=>h.2) (fun h26=>?_)
   obtain ⟨v26,ob26⟩:=c26
   dsimp only at h26 ⊢
   obtain ⟨bb,cap,rest,rfl,rfl,e1,e2,e3,e4⟩:=Qx.pos h26 (by omega)
   refine wD rfl<|wF rfl<|wA rfl<|QA (Qw (i:=v) rfl rfl Qf Qp (by omega))<|QA (YZ (c:=((el p.2 i.i).t.2).map Qy++rest) (T':=3) rfl Qp .u2 (Zu (by first | omega | (simp only [aW];omega))))<|QA (XB rfl rfl (by omega))<|QA (Qw (i:=v) rfl rfl Qf Qp (by omega))<|QR (vs:=[_]) rfl rfl rfl Qp rfl .u2 (VR (by first | omega | (simp only [aW];omega)) ((Qa ((el p.2 i.i).t.2) (v) - 1))) wK<|QE<|QC ?_
   obtain ⟨r,hv,hrn,hrc,hfix⟩:=Qx.fix (w0:=w) (F0:=F) (bs1:=[(b7,.cells (Ym (el p.2 i.i)).toArray 165 (0,0)),(m,ZD tx (Wo i.ts))]) (G:=_) (Qx.some (T:=3) (sz:=1) (b:=bb) (n:=(el p.2 i.i).r.n) (cap:=cap) (l:=((el p.2 i.i).t.2.set v (Qa (el p.2 i.i).t.2 v - 1)).map Qy) (rest:=rest) (by simpa using e1) (by simpa using e2) e3 e4)
   refine Ra hfix ?_
   rw [hv]
   refine JV (.cons_cons _ (.cons _ .slnil)) mixed (by kernel_rfl)<|QK (QD rfl)<|QK (QI rfl Z0 Qe)<|QK (QJ (vs:=[_,_,_,_]) rfl Qe .here .h4 rfl)<|QK (QD rfl) ?_
   refine Qd rfl (fun w F hF h9=>po hF (by omega) (by omega)) (fun x37=>?_)
   refine Qd rfl (fun w F hF ⟨⟨⟨⟨⟨hGl,hP⟩,hT⟩,_⟩,hrow⟩,⟨h37,h37_⟩⟩=>KX hF ((hP.2.1 _ htm).1) ⟨by assumption,by assumption⟩ (by omega) (by have h2:=Gr (Qa (el p.2 i.i).t.2 v);have h3:sz (Qa (el p.2 i.i).t.2 v)≤64:=Rj hb1;omega)) (fun x38=>?_)
   refine QK (QD rfl) ?_
   refine Uc rfl (bR _ _ _) (BZ (r:=r) (x:=x38) i.hI (hp1.1.set hkp) (by have h1:=J9 (el p.2 i.i).t.1 ((Qa (el p.2 i.i).t.2 v:Int):Rat);have h2:=Gr (Qa (el p.2 i.i).t.2 v);have h3:sz (Qa (el p.2 i.i).t.2 v)≤64:=Rj hb1;omega) (by omega) (fun F h9=>⟨h9.1.1.1.1.1.1,h9.1.1.1.1.2,⟨h9.2.1,h9.2.2⟩,by rw [hrn];exact h9.1.1.2,by rw [hrn,aW];exact hra,by rw [hrn];exact hrc⟩)) (fun n w h=>St.imp h (.cons _ wG) (fun F h=>h.1.1.1)) (fun n40=>?_)
   refine Mh _ (fun w F hF h=>h.2.2) (fun h40=>?_)
   have hI2:VE (addN i.ts n40) (ZT v (JG (p.2.take (i.i+1)))):=by
    rw [RO hlt,show EU v (el p.2 i.i).t=[((el p.2 i.i).t.1*((Qa (el p.2 i.i).t.2 v:Int):Rat),(el p.2 i.i).t.2.set v (Qa (el p.2 i.i).t.2 v - 1))] from if_pos hkp]
    exact i.hI.add (hp1.1.set hkp) h40
   refine Q3<|Qk<|QC<|QB<|QA (Qs rfl rfl (by omega))<|wA rfl<|QE ?_
   exact Qo (⟨i.i+1,addN i.ts n40,hlt,hI2⟩) (by show p.2.length - (i.i+1)<p.2.length - i.i;omega) wO (.cons_cons _ (.cons _ .slnil)) (fun F h=>⟨h.1.1.1.1.1.1,h.2.1⟩)
  ·
   have hkp:=wJ hc
   refine QO<|Qk<|QC<|QB<|QA (Qs rfl rfl (by omega))<|wA rfl<|QE ?_
   exact Qo (⟨i.i+1,i.ts,hlt,by rw [RO hlt,show EU v (el p.2 i.i).t=[] from if_neg hkp,bt];exact i.hI⟩) (by show p.2.length - (i.i+1)<p.2.length - i.i;omega) wO (.cons _ wG) (fun F h=>⟨h.1,h.2⟩)
 ·
  have hge:i.i=p.2.length:=by have:=wJ hc;omega
  refine Qz ?_
  repeat (first | refine Qb ?_ | refine QV (by rfl) ?_)
  refine Qc<|QC<|wE<|wA rfl ?_
  have hI:=i.hI
  rw [hge,aq] at hI
  refine XO rfl (aM _) (Gt hI (by have h1:=hI.ln;have h2:=B7 v (JG p.2);rw [KD] at h2;omega) (fun F h=>h.2)) (fun c43=>?_)
  refine wD rfl<|QS ?_
  exact QP (c43) rfl (.tmp rfl .nil) (rfl) (fun F h=>h.2)
def vE (v n:Int):Int:=if decide (v<0)=true∨decide (v>n)=true then 10 else 0
theorem cB {v n:Int} (h:decide (v<0)=true):vE v n=if true=true then 10 else 0:=by unfold vE;rw [if_pos (Or.inl h)];rfl
theorem cC {v n:Int} (h:decide (v<0)=false):vE v n=if decide (v>n)=true then 10 else 0:=by unfold vE;rw [h];simp
theorem xM {v n:Int} (h:vE v n=0):0≤v∧v≤n:=by
 unfold vE at h
 simp only [decide_eq_true_eq] at h
 split at h<;>omega
def gB (a:KG) (n v:Int) (l:List Tm):Int:=if Ql [WM [a] n,vE v n]=0 then GL l else Ql [WM [a] n,vE v n]
def gA (a:KG) (n v:Int) (l:List Tm):Pt:=if Ql [WM [a] n,vE v n]=0 then H8 l else []
theorem Yv.wide {p:Pt} {v:Int} (h:Yv p v):∀ t∈Q9 p,(t.2.length:Int)=v+1:=fun t ht=>by
 unfold Q9 at ht
 obtain ⟨x,hx,rfl⟩:=List.mem_map.1 ht
 exact(YI (h.term x hx)).1
theorem EL {v:Nat} {l:List Tm} {x:Tm} (h:x∈ZT v l):∃ t∈l,0<Qa t.2 v∧x=(t.1*((Qa t.2 v:Int):Rat),t.2.set v (Qa t.2 v - 1)):=by
 unfold ZT at h
 obtain ⟨t,ht,h⟩:=List.mem_flatMap.1 h
 unfold EU at h
 split at h
 ·rename_i g;rw [List.mem_singleton] at h;exact⟨t,ht,g,h⟩
 ·cases h
theorem Ui {v:Nat} {l:List Tm} (h:∀ t∈l,JL t.1≤2400∧PW t.2∧v<t.2.length):∀ x∈ZT v l,JL x.1≤2500:=fun x hx=>by
 obtain ⟨t,ht,_,rfl⟩:=EL hx
 obtain ⟨h1,h2,h3⟩:=h t ht
 have h4:=J9 t.1 ((Qa t.2 v:Int):Rat)
 have h5:=Gr (Qa t.2 v)
 have h6:=Rj (h2.el h3)
 dsimp only;omega
theorem Sc {w:ag} {F:Gs} {a:KG} {n v:Int} (hF:Fits F w) (hGl:JB F) (hA:YW F [a]) (ht:∀ e∈[a],VX e) :
  QT Tryz.prog 41 [a.1.v,.int .i64 n,.int .i64 v] w F (fun(c:KG)=>.tuple #[c.1.v,.int .i64 (gB a n v (Jp (ZT v.toNat (Q9 (J2 a.2)))))]) (fun c F=>YR F c.1 c.2 (gA a n v (Jp (ZT v.toNat (Q9 (J2 a.2)))))):=by
 have ha:a∈[a]:=by simp
 dsimp only [Sr.v]
 refine QT.intro (G:=fun F=>JB F∧YW F [a]) Tryz.func41 rfl (by rfl) rfl rfl hF (fun F' hF'=>⟨hGl.le hF',hA.le hF'⟩)<|wE<|wB rfl<|wD rfl<|QG<|wF rfl<|wA rfl<|QW rfl (Q8 D9) Mt zz rfl rfl (fun b11=>QH rfl (fun w F hF h9=>BI hF h9.1.1 (Q6.of (n:=1) (sz:=1) (cs:=[a].map fun e=>e.1.v) h9.2 rfl) (h9.1.2) (rfl) (by decide) (ht)) (fun _=>wA rfl<|QA (QU rfl rfl rfl)<|wA rfl ?_))
 refine Qn (t:=15) rfl (fun hb15=>?_) (fun hb15=>?_)
 ·
  have hve:=cB (n:=n) hb15
  refine QN rfl rfl rfl<|QN rfl rfl rfl<|QN rfl rfl rfl<|QA (Qi rfl rfl rfl)<|QH rfl (fun w F hF h9=>Z1 hF ) (fun _=>QW rfl (Q8 Zn) Y7 BO rfl rfl (fun b21=>QH rfl (fun w F hF h9=>Zz hF (Q6.of (cs:=bA Qy [WM [a] n,vE v n]) (by rw [hve];exact h9.2) rfl) (by decide)) (fun _=>wD rfl<|wF rfl<|QA (QU rfl rfl rfl)<|QE<|QC ?_)))
  refine QQ rfl (fun hc=>?_) (fun hc=>?_)
  ·
   have hc0:=bne_iff_ne.1 hc
   refine wF rfl<|wB rfl<|wD rfl<|QS ?_
   exact Ja ((⟨none,0,0⟩,[])) rfl (.tmp rfl (.tmp rfl .nil)) (by unfold gB;rw [if_neg hc0]) (fun F h9=>by unfold gA;rw [if_neg hc0];exact YR.nil F)
  ·
   have hc0:=bne_eq_false_iff_eq.1 hc
   obtain ⟨hc1,hc2⟩:=VT hc0
   obtain ⟨hn,hok⟩:=MO hc1
   have hv:=xM hc2
   obtain ⟨k,rfl⟩:=ew hv.1
   rw [bS]
   have oa:=hok a ha
   have sa:=oa.Zh
   have hpa:∀ t∈Q9 (J2 a.2),PW t.2∧k<t.2.length:=fun t ht=>⟨oa.pw hn.2 t ht,by have:=oa.wide t ht;omega⟩
   have la:(Q9 (J2 a.2)).length≤64:=by unfold Q9;rw [ah];exact oa.len
   have hds:=Ui (v:=k) (l:=Q9 (J2 a.2)) fun t ht=>⟨oa.sz t ht,hpa t ht⟩
   have hdl:=B7 k (Q9 (J2 a.2))
   have hdz:=H4 hds
   have hdz2:=aE 2501 (aa hdl la)
   have hpn:=NM (l:=ZT k (Q9 (J2 a.2))) fun t ht=>by
    obtain ⟨y,hy,hk,e⟩:=EL ht
    rw [e];exact(hpa y hy).1.set hk
   have hln:=Vl (ZT k (Q9 (J2 a.2)))
   refine QO<|QC<|wF rfl<|QH rfl (fun w F hF h9=>Vd hF h9.1.1.1.1.1.1 (a:=a) (h9.1.1.1.1.1.2 a ha).1 (h9.1.1.1.1.1.2 a ha).2 (ht a ha) oa hn) (fun c27=>JO _ (fun w F hF h=>aH h.2.2.2.1 h.2.len) (fun h27p=>?_))
   obtain ⟨e27,l27⟩:=h27p
   refine wA rfl<|QH rfl (fun w F hF h9=>Ot hF h9.1.1.1.1.1.1.1 (p:=c27) (v:=k) (by rw [e27];exact h9.2) (J8 (Q:=fun t=>PW t.2∧k<t.2.length) e27 hpa) (by omega) (J8 (Q:=fun t=>JL t.1≤20000000) e27 (fun t ht=>by have:=oa.sz t ht;omega)) (by rw [e27];omega)) (fun c29=>JO _ (fun w F hF h=>aH h.2.2.2.1 h.2.len) (fun h29p=>?_))
   obtain ⟨e29,l29⟩:=h29p
   rw [e27] at e29 l29
   refine QH rfl (fun w F hF ⟨⟨⟨⟨⟨⟨⟨⟨hGl,hA⟩,hs11⟩,_⟩,_⟩,hs21⟩,_⟩,h27⟩,h29⟩=>GV hF (q:=c29.1.q) (n:=c29.1.n) (cap:=c29.1.cap) (ts:=c29.2) (by rw [e29];rw [e27] at h29;exact h29) hGl (J8 (Q:=fun t=>PW t.2) e29 hpn) (J8 (Q:=fun t=>JL t.1≤100000000) e29 (fun t ht=>aa (DV ht) (by omega))) (by omega)) (fun c30=>?_)
   rw [e29]
   refine QA (QM rfl rfl)<|QA (QM rfl rfl)<|wB rfl<|wD rfl<|QS ?_
   exact Ja (c30) rfl (.tmp rfl (.tmp rfl .nil)) (by unfold gB;rw [if_pos hc0];rfl) (fun F h9=>by unfold gA;rw [if_pos hc0];exact h9.2)
 ·
  have hve:=cC (n:=n) hb15
  refine QL rfl rfl<|wA rfl<|QL rfl rfl<|wA rfl<|QL rfl rfl<|QA (QU rfl rfl rfl)<|QA (Qh rfl rfl rfl)<|QH rfl (fun w F hF h9=>Z1 hF ) (fun _=>QW rfl (Q8 Zn) Y7 BO rfl rfl (fun b21=>QH rfl (fun w F hF h9=>Zz hF (Q6.of (cs:=bA Qy [WM [a] n,vE v n]) (by rw [hve];exact h9.2) rfl) (by decide)) (fun _=>wD rfl<|wF rfl<|QA (QU rfl rfl rfl)<|QE<|QC ?_)))
  refine QQ rfl (fun hc=>?_) (fun hc=>?_)
  ·
   have hc0:=bne_iff_ne.1 hc
   refine wF rfl<|wB rfl<|wD rfl<|QS ?_
   exact Ja ((⟨none,0,0⟩,[])) rfl (.tmp rfl (.tmp rfl .nil)) (by unfold gB;rw [if_neg hc0]) (fun F h9=>by unfold gA;rw [if_neg hc0];exact YR.nil F)
  ·
   have hc0:=bne_eq_false_iff_eq.1 hc
   obtain ⟨hc1,hc2⟩:=VT hc0
   obtain ⟨hn,hok⟩:=MO hc1
   have hv:=xM hc2
   obtain ⟨k,rfl⟩:=ew hv.1
   rw [bS]
   have oa:=hok a ha
   have sa:=oa.Zh
   have hpa:∀ t∈Q9 (J2 a.2),PW t.2∧k<t.2.length:=fun t ht=>⟨oa.pw hn.2 t ht,by have:=oa.wide t ht;omega⟩
   have la:(Q9 (J2 a.2)).length≤64:=by unfold Q9;rw [ah];exact oa.len
   have hds:=Ui (v:=k) (l:=Q9 (J2 a.2)) fun t ht=>⟨oa.sz t ht,hpa t ht⟩
   have hdl:=B7 k (Q9 (J2 a.2))
   have hdz:=H4 hds
   have hdz2:=aE 2501 (aa hdl la)
   have hpn:=NM (l:=ZT k (Q9 (J2 a.2))) fun t ht=>by
    obtain ⟨y,hy,hk,e⟩:=EL ht
    rw [e];exact(hpa y hy).1.set hk
   have hln:=Vl (ZT k (Q9 (J2 a.2)))
   refine QO<|QC<|wF rfl<|QH rfl (fun w F hF h9=>Vd hF h9.1.1.1.1.1.1 (a:=a) (h9.1.1.1.1.1.2 a ha).1 (h9.1.1.1.1.1.2 a ha).2 (ht a ha) oa hn) (fun c27=>JO _ (fun w F hF h=>aH h.2.2.2.1 h.2.len) (fun h27p=>?_))
   obtain ⟨e27,l27⟩:=h27p
   refine wA rfl<|QH rfl (fun w F hF h9=>Ot hF h9.1.1.1.1.1.1.1 (p:=c27) (v:=k) (by rw [e27];exact h9.2) (J8 (Q:=fun t=>PW t.2∧k<t.2.length) e27 hpa) (by omega) (J8 (Q:=fun t=>JL t.1≤20000000) e27 (fun t ht=>by have:=oa.sz t ht;omega)) (by rw [e27];omega)) (fun c29=>JO _ (fun w F hF h=>aH h.2.2.2.1 h.2.len) (fun h29p=>?_))
   obtain ⟨e29,l29⟩:=h29p
   rw [e27] at e29 l29
   refine QH rfl (fun w F hF ⟨⟨⟨⟨⟨⟨⟨⟨hGl,hA⟩,hs11⟩,_⟩,_⟩,hs21⟩,_⟩,h27⟩,h29⟩=>GV hF (q:=c29.1.q) (n:=c29.1.n) (cap:=c29.1.cap) (ts:=c29.2) (by rw [e29];rw [e27] at h29;exact h29) hGl (J8 (Q:=fun t=>PW t.2) e29 hpn) (J8 (Q:=fun t=>JL t.1≤100000000) e29 (fun t ht=>aa (DV ht) (by omega))) (by omega)) (fun c30=>?_)
   rw [e29]
   refine QA (QM rfl rfl)<|QA (QM rfl rfl)<|wB rfl<|wD rfl<|QS ?_
   exact Ja (c30) rfl (.tmp rfl (.tmp rfl .nil)) (by unfold gB;rw [if_pos hc0];rfl) (fun F h9=>by unfold gA;rw [if_pos hc0];exact h9.2)
def Cr (F:Gs) (xs:List (Fr×Rat)):Prop:=∀ p∈xs,JY F p.1 p.2
theorem Cr.le {F F':Gs} {xs:List (Fr×Rat)} (h:Cr F xs) (k:Gs.le F F'):Cr F' xs:=fun p hp=>(h p hp).le k
def Fq (xs:List (Fr×Rat)):List aF:=xs.flatMap fun p=>Up p.1
structure gL (ss:List (List UInt8)) where
 i:Nat
 xs:List (Fr×Rat)
 le:i≤ss.length
 hx:xs.map (·.2)=(ss.take i).map Jj
theorem gL.len {ss:List (List UInt8)} (s:gL ss):s.xs.length=s.i:=by
 have:=congrArg ba s.hx
 have h:=s.le
 simp only [ah,aB] at this;omega
def W1 (c:Rat) (xs:List Rat) (ks:List Int) (i:Nat):Rat:=(aL i).foldl (fun a j=>a*(el xs j)^(Qa ks j).toNat) c
structure EvO (n:Nat) where
 i:Nat
 x:Fr
 le:i≤n
structure EvI (n:Nat) where
 j:Nat
 y:Fr
 le:j≤n
instance :Inhabited Fr:=⟨⟨⟨0,none,0,0⟩,⟨1,none,0,0⟩⟩⟩
instance :Inhabited (Fr×Rat):=⟨(default,0)⟩
theorem SU {l:List Int} (h:Ql l=0):∀ x∈l,x=0:=by
 induction l with
 |nil=>intro x hx;cases hx
 |cons a l ih =>
  intro x hx
  unfold Ql at h
  by_cases g:a=0
  ·rw [if_pos g] at h
   rcases List.mem_cons.1 hx with rfl | hx
   ·exact g
   ·exact ih h x hx
  ·rw [if_neg g] at h;exact absurd h g
def PJ (s:List UInt8×List UInt8):List aF:=[tx s.1,tx s.2]
def CV (ss:List (List UInt8×List UInt8)):List Rat:=ss.flatMap fun s=>[Jj s.1,Jj s.2]
theorem Pc {B:Nat}:∀ (l:List Rat) (s:Rat×Rat),JL s.1≤B→JL s.2≤B→(∀ x∈l,JL x≤B)→JL (l.foldl ZJ s).1≤B∧JL (l.foldl ZJ s).2≤B
 |[],s,h1,h2,_=>⟨h1,h2⟩
 |x::l,s,h1,h2,h=>by
  have hx:=h x (by simp)
  exact Pc l (ZJ s x) (by unfold ZJ;dsimp only;split<;>assumption) (by unfold ZJ;dsimp only;split<;>assumption) fun y hy=>h y (by simp [hy])
structure pU (ss:List (List UInt8×List UInt8)) where
 i:Nat
 v:aF
 ob:List (Nat×Obj)
 xs:List (Fr×Rat)
 le:i≤ss.length
 hr:Qx 130 4 v (i*2) (Fq xs) ob
 hx:xs.map (·.2)=CV (ss.take i)
theorem I1 (ss:List (List UInt8×List UInt8)):(CV ss).length=ss.length*2:=by
 unfold CV
 induction ss with
 |nil=>rfl
 |cons s l ih=>rw [aZ,ao,ih];simp only [ar,bn];omega
theorem pU.len {ss:List (List UInt8×List UInt8)} (s:pU ss):s.xs.length=s.i*2:=by
 have:=congrArg ba s.hx
 have h:=s.le
 rw [I1] at this
 simp only [ah,aB] at this;omega
structure kW (a b:List Int) where
 i:Nat
 le:i≤a.length
 h:a.take i=b.take i
structure gN (a b:List Int) where
 i:Nat
 le:i≤a.length
 h:Zv a b=Zv (a.drop i) (b.drop i)
theorem kW.next {a b:List Int} (s:kW a b) (h1:s.i<a.length) (h2:s.i<b.length) (e:Qa a s.i=Qa b s.i):a.take (s.i+1)=b.take (s.i+1):=by
 rw [X7 h1,X7 h2,s.h,← Xy h1,← Xy h2,e]
theorem gN.step {a b:List Int} (s:gN a b) (h1:s.i<a.length) (h2:s.i<b.length):Zv a b=(decide (Qa b s.i<Qa a s.i)||(decide (Qa a s.i=Qa b s.i)&&Zv (a.drop (s.i+1)) (b.drop (s.i+1)))):=by
 rw [s.h,XC h1,XC h2];rfl
theorem TL {w:ag} {F:Gs} {q q2:Option Addr} {n c n2 c2:Nat} {a b:List Int} (hF:Fits F w) (hA:JR F ⟨q,n,c⟩ a) (hB:JR F ⟨q2,n2,c2⟩ b) (la:a.length≤1000000):QZ Tryz.prog 140 [.slice q n c,.slice q2 n2 c2] w F (.bool (decide (a=b))):=by
 have na:=hA.2.1
 have nb:=hB.2.1
 dsimp only at na nb
 refine QT.intro (G:=fun F=>JR F ⟨q,n,c⟩ a∧JR F ⟨q2,n2,c2⟩ b) Tryz.func140 rfl (by rfl) rfl rfl hF (fun F' hF'=>⟨hA.le hF',hB.le hF'⟩)<|wE<|wD rfl<|QG<|wF rfl<|QA (Qj rfl Qf)<|wA rfl<|QA (Qj rfl Qf)<|QA (QU rfl rfl rfl)<|QE<|QC ?_
 refine QQ rfl (fun hc=>?_) (fun hc=>?_)
 ·
  have hne:=bne_iff_ne.1 hc
  refine wE<|wD rfl<|QS ?_
  exact wH rfl rfl (congrArg bj (decide_eq_false (fun e=>hne (by rw [← na,← nb,e])))) (fun F h9=>trivial)
 ·
  have hne:=bne_eq_false_iff_eq.1 hc
  refine QO<|QC<|QG<|wE<|wD rfl<|QX<|Zc (ι:=kW a b) [(0,_),(1,_)] (fun i=>[(5,.int .i64 ((i.i:Nat):Int))]) (fun i=>a.length - i.i) (⟨0,ai _,rfl⟩) wL wK (fun i=>?_)
  simp only [ae,ab]
  have hi:=i.le
  refine QG<|wF rfl<|wA rfl<|QA (Qj rfl Qf)<|QA (QU rfl rfl rfl)<|QE<|QC ?_
  refine QQ rfl (fun hc=>?_) (fun hc=>?_)
  ·
   have hlt:i.i<a.length:=by have:=wI hc;omega
   refine QO<|QC<|QG<|QX<|QG<|JV wG mixed (by kernel_rfl)<|QK (QD rfl)<|QK (QD rfl)<|QK (JH (n:=n) (i.i) (fun F h9=>(h9.1).1) rfl rfl Qf Qp (by omega))<|QK (JQ (n:=n) ((i.i)*1) (fun F h9=>(h9.1).1) (by omega) rfl Qp (JJ (o:=a) (by omega)))<|QK (QD rfl)<|QK (QD rfl)<|QK (JH (n:=n2) (i.i) (fun F h9=>(h9.2).1) rfl rfl Qf Qp (by omega))<|QK (JQ (n:=n2) ((i.i)*1) (fun F h9=>(h9.2).1) (by omega) rfl Qp (JJ (o:=b) (by omega)))<|QK (QU rfl rfl rfl)<|Q3<|QC ?_
   refine QQ rfl (fun hc=>?_) (fun hc=>?_)
   ·
    have he:=bne_iff_ne.1 hc
    refine wE<|wD rfl<|QS ?_
    repeat (first | refine JC ?_ | refine Q5 ?_)
    exact wH rfl rfl (congrArg bj (decide_eq_false (fun e=>he (congrArg (fun z=>Qa z i.i) e)))) (fun F h9=>trivial)
   ·
    have he:=bne_eq_false_iff_eq.1 hc
    refine QO<|Qk<|QC<|QB<|wA rfl<|QA (Qs rfl rfl (by omega))<|wB rfl<|QE ?_
    exact Qo (⟨i.i+1,hlt,i.next hlt (by omega) he⟩) (by show a.length - (i.i+1)<a.length - i.i;omega) wM wG (fun F h=>h)
  ·
   have hge:i.i=a.length:=by have:=wJ hc;omega
   refine Qz ?_
   repeat (first | refine Qb ?_ | refine QV (by rfl) ?_)
   refine Qc<|QC<|wE<|wD rfl<|QS ?_
   exact wH rfl rfl (congrArg bj (decide_eq_true (by have h:=i.h;rw [hge,aq,aU (by omega)] at h;exact h))) (fun F h9=>trivial)
structure kU (a b:List V5) where
 i:Nat
 le:i≤a.length
 h:(J2 a).take i=(J2 b).take i
theorem Ve (a:List V5):(J2 a).length=a.length:=by simp [J2]
theorem kU.next {a b:List V5} (s:kU a b) (h1:s.i<a.length) (h2:s.i<b.length) (e1:(el a s.i).f=(el b s.i).f) (e2:(el a s.i).k=(el b s.i).k):(J2 a).take (s.i+1)=(J2 b).take (s.i+1):=by
 rw [X7 (by rw [Ve];exact h1),X7 (by rw [Ve];exact h2),s.h,Hi h1,Hi h2,e1,e2]
theorem Rr {a b:List V5} {i:Nat} (h1:i<a.length) (h2:i<b.length) (h:J2 a=J2 b):(el a i).f=(el b i).f∧(el a i).k=(el b i).k:=by
 have e1:=Hi h1
 have e2:=Hi h2
 rw [h,e2] at e1
 have:=Prod.mk.inj e1
 exact⟨this.1.symm,this.2.symm⟩
theorem EE {w:ag} {F:Gs} {q q2:Option Addr} {n cap n2 cap2:Nat} {a b:List V5} (hF:Fits F w) (hR:Q6 F q n 2 (a.flatMap Kl)) (hP:Zx F a) (hR2:Q6 F q2 n2 2 (b.flatMap Kl)) (hP2:Zx F b) (hln:a.length=n) (hln2:b.length=n2) (hf:∀ t∈a,t.k.length≤1000000) (hl:a.length≤1000000):QZ Tryz.prog 43 [.slice q n cap,.slice q2 n2 cap2] w F (.bool (decide (J2 a=J2 b))):=by
 refine QT.intro (G:=fun F=>Q6 F q n 2 (a.flatMap Kl)∧Zx F a∧Q6 F q2 n2 2 (b.flatMap Kl)∧Zx F b) Tryz.func43 rfl (by rfl) rfl rfl hF (fun F' hF'=>⟨hR.le hF',hP.le hF',hR2.le hF',hP2.le hF'⟩)<|wE<|wD rfl<|QG<|wF rfl<|QA (Qj rfl Xq)<|wA rfl<|QA (Qj rfl Xq)<|QA (QU rfl rfl rfl)<|QE<|QC ?_
 refine QQ rfl (fun hc=>?_) (fun hc=>?_)
 ·
  have hne:=bne_iff_ne.1 hc
  refine wE<|wD rfl<|QS ?_
  exact wH rfl rfl (congrArg bj (decide_eq_false (fun e=>hne (by rw [← hln,← hln2,← Ve a,← Ve b,e])))) (fun F h9=>trivial)
 ·
  have hne:=bne_eq_false_iff_eq.1 hc
  refine QO<|QC<|QG<|wE<|wD rfl<|QX<|Zc (ι:=kU a b) [(0,_),(1,_)] (fun i=>[(5,.int .i64 ((i.i:Nat):Int))]) (fun i=>a.length - i.i) (⟨0,ai _,rfl⟩) wL wK (fun i=>?_)
  simp only [ae,ab]
  have hi:=i.le
  refine QG<|wF rfl<|wA rfl<|QA (Qj rfl Xq)<|QA (QU rfl rfl rfl)<|QE<|QC ?_
  refine QQ rfl (fun hc=>?_) (fun hc=>?_)
  ·
   have hlt:i.i<a.length:=by have:=wI hc;omega
   have hlt2:i.i<b.length:=by omega
   have hta:=JK hlt
   have htb:=JK hlt2
   refine QO<|QC<|QG<|QX<|QG<|JV wG mixed (by kernel_rfl)<|QK (QD rfl)<|QK (QD rfl)<|QK (JH (n:=n) (i.i) (fun F h9=>h9.1) rfl rfl Xq XT (by omega))<|QK (QI rfl Wi Jo)<|QK (JQ (n:=n) ((i.i)*2+0) (fun F h9=>h9.1) (by omega) rfl Jo (Jy (f:=Kl) (l:=a) Yb (by omega) rfl))<|QK (QD rfl)<|QK (QD rfl)<|QK (JH (n:=n2) (i.i) (fun F h9=>h9.2.2.1) rfl rfl Xq XT (by omega))<|QK (QI rfl Wi Jo)<|QK (JQ (n:=n2) ((i.i)*2+0) (fun F h9=>h9.2.2.1) (by omega) rfl Jo (Jy (f:=Kl) (l:=b) Yb (by omega) rfl))<|QK (OY rfl rfl)<|QK (QD rfl) ?_
   refine Wu (t:=28) rfl (fun hb28=>?_) (fun hb28=>?_)
   ·
    have h28:¬ (el a i.i).f=(el b i.i).f:=bne_iff_ne.1 hb28
    refine JP rfl rfl rfl<|JP rfl rfl rfl<|JP rfl rfl rfl<|JP rfl rfl rfl<|JP rfl rfl rfl<|JP rfl rfl rfl<|JP rfl rfl rfl<|JP rfl rfl rfl<|JP rfl rfl rfl<|JP rfl rfl rfl<|JP rfl rfl rfl<|JP rfl rfl rfl<|QK (Qi rfl rfl rfl)<|Q3<|QC<|GK rfl<|wE<|wD rfl<|QS ?_
    repeat (first | refine JC ?_ | refine Q5 ?_)
    exact wH rfl rfl (congrArg bj (decide_eq_false (fun e=>by first | exact h28 (Rr hlt hlt2 e).1 | (have g:=(Rr hlt hlt2 e).2;rw [g] at hc;simp at hc)))) (fun F h9=>trivial)
   ·
    have h28:(el a i.i).f=(el b i.i).f:=bne_eq_false_iff_eq.1 hb28
    refine Ji rfl rfl<|QK (QD rfl)<|Ji rfl rfl<|QK (QD rfl)<|Ji rfl rfl<|QK (JH (n:=n) (i.i) (fun F h9=>h9.1) rfl rfl Xq XT (by omega))<|Ji rfl rfl<|QK (QI rfl Yz Qv)<|Ji rfl rfl<|QK (JQ (n:=n) ((i.i)*2+1) (fun F h9=>h9.1) (by omega) rfl Qv (Jy (f:=Kl) (l:=a) Yb (by omega) rfl))<|Ji rfl rfl<|QK (QD rfl)<|Ji rfl rfl<|QK (QD rfl)<|Ji rfl rfl<|QK (JH (n:=n2) (i.i) (fun F h9=>h9.2.2.1) rfl rfl Xq XT (by omega))<|Ji rfl rfl<|QK (QI rfl Yz Qv)<|Ji rfl rfl<|QK (JQ (n:=n2) ((i.i)*2+1) (fun F h9=>h9.2.2.1) (by omega) rfl Qv (Jy (f:=Kl) (l:=b) Yb (by omega) rfl))<|Ji rfl rfl<|Qd rfl (fun w F hF h9=>TL hF (a:=(el a i.i).k) (b:=(el b i.i).k) (h9.2.1 _ hta) (h9.2.2.2 _ htb) (hf _ hta)) (fun _=>Ji rfl rfl<|QK (Yc rfl)<|QK (Qh rfl rfl rfl) ?_)
    refine Q3<|QC ?_
    refine QQ rfl (fun hc=>?_) (fun hc=>?_)
    ·
     refine wE<|wD rfl<|QS ?_
     repeat (first | refine JC ?_ | refine Q5 ?_)
     exact wH rfl rfl (congrArg bj (decide_eq_false (fun e=>by first | exact h28 (Rr hlt hlt2 e).1 | (have g:=(Rr hlt hlt2 e).2;rw [g] at hc;simp at hc)))) (fun F h9=>trivial)
    ·
     refine QO<|Qk<|QC<|QB<|wA rfl<|QA (Qs rfl rfl (by omega))<|wB rfl<|QE ?_
     exact Qo (⟨i.i+1,hlt,i.next hlt hlt2 h28 (by simpa using hc)⟩) (by show a.length - (i.i+1)<a.length - i.i;omega) wM wG (fun F h=>h.1)
  ·
   have hge:i.i=a.length:=by have:=wJ hc;omega
   refine Qz ?_
   repeat (first | refine Qb ?_ | refine QV (by rfl) ?_)
   refine Qc<|QC<|wE<|wD rfl<|QS ?_
   exact wH rfl rfl (congrArg bj (decide_eq_true (by have h:=i.h;rw [hge,aU (by rw [Ve];omega),aU (by rw [Ve];omega)] at h;exact h))) (fun F h9=>trivial)
structure Ey {α:Type} (l:List α) (p:α→Bool) where
 i:Nat
 le:i≤l.length
 z:∀ x∈l.take i,p x=false
section
variable {α:Type} [Inhabited α] {l:List α} {p:α→Bool}
def Ey.start (l:List α) (p:α→Bool):Ey l p:=⟨0,ai _,by simp⟩
def Ey.next (s:Ey l p) (h:s.i<l.length) (e:p (el l s.i)=false):Ey l p:=⟨s.i+1,h,fun x hx=>by
 rw [X7 h] at hx
 rcases List.mem_append.1 hx with hx | hx
 ·exact s.z x hx
 ·rw [List.mem_singleton.1 hx];exact e⟩
theorem Ey.hit (s:Ey l p) (h:s.i<l.length) (e:p (el l s.i)=true):l.any p=true:=List.any_eq_true.2 ⟨_,JK h,e⟩
theorem Ey.stop (s:Ey l p) (h:l.length≤s.i):¬ l.any p=true:=by
 rw [bY]
 rintro ⟨x,hx,e⟩
 have:=s.z x (by rw [aU h];exact hx)
 rw [this] at e;cases e
end
section
variable {P:aS} {Q:Exit→Act→ag→Prop} {N:Nat} {m:Sl} {E0:Env} {ops:Array Oper} {l:List Oper} {w0:ag} {F0:Gs} {bs:List (Nat×Obj)} {G:Gs→Prop} {ty:aK}
theorem xG {d:Nat} {pos:String} {aft:Array Edge} {t e:aK} {sz bytes n:Nat} {z:List aF} {g:Bool} {X Y:bF} {kl:IntKind} (hx:ev m X=some (.int kl (n:Int))) (hy:ev m Y=some (.int kl (n:Int))) (ht:BM P t=some e) (hs:YJ P e=some (g,sz)) (hz:XL P e=some z) (hzl:z.length=sz) (hby:YG P e=some bytes) (h63:(n:Int)≤9223372036854775807) (h48:n*bytes≤281474976710656)
  (k:∀ b,JD P ops Q E0 l N ((d,.slice (some ⟨b,0,none⟩) n n)::m) ⟨w0,F0,(b,.cells (X9 z n).toArray e (0,0))::bs,G⟩) (hu:Wc e=true:=by rfl) (hd:J5 N (some d)=true:=by rfl) :
  JD P ops Q E0 (⟨some d,.makeSlice t X Y,ty,pos,aft,none⟩::l) N m ⟨w0,F0,bs,G⟩:=fun hE a w ha hw=>by
 have hS:=hw.alloc (.cells (X9 z n).toArray e (0,0)) (Xk hu)
 have sub:∀ w' b,St ⟨w0,F0,(b,.cells (X9 z n).toArray e (0,0))::bs,G⟩ w'→St E0 w':=fun w' b h=>hE w' (h.imp (List.sublist_cons_self _ _) fun _ h=>h)
 refine .inr ⟨rfl,?_⟩
 rw [if_pos (by simp [bL])]
 exact upon_value (by
  simp only [execOp,ha.ev hx,ha.ev hy,aV,Po ht hs hz hzl hby h63 h48,aI,eD]) ⟨sub _ _ hS,k _ (fun w' h=>sub w' _ h) _ _ (ha.put hd _) hS⟩
end
def Ka (a:Rat) (k:Nat):List Tm:=if a=0 then [] else [(a,aR k 0)]
theorem TY {w:ag} {F:Gs} {x:Fr} {a:Rat} {k:Nat} (hF:Fits F w) (hA:JY F x a) (hk:k≤1000):QT Tryz.prog 222 [x.v,.int .i64 (k:Nat)] w F (fun(c:W9)=>c.1.v) (fun c F=>Jr F c.1 c.2 (Ka a k)):=by
 dsimp only [Fr.v]
 refine QT.intro (G:=fun F=>JY F x a) Tryz.func222 rfl (by rfl) rfl rfl hF (fun F' hF'=>hA.le hF')<|wE<|Q2 rfl (vs:=[_,_,_,_]) rfl (fun b2=>wD rfl<|QG<|wE<|QA (QJ (vs:=[_,_,_,_]) rfl Qe .here .h4 rfl)<|QH rfl (fun w F hF ⟨hxn,hxd⟩=>G6 hF ⟨by assumption,by assumption⟩) (fun _=>QA (QU rfl rfl rfl)<|QE<|QC ?_))
 refine QQ rfl (fun hc=>?_) (fun hc=>?_)
 ·
  have ha0:a=0:=Bf.1 (by simpa using hc)
  refine wE<|wD rfl<|QS ?_
  exact QP ((⟨none,0,0⟩,[])) rfl (.tmp rfl .nil) (rfl) (fun F h9=>⟨Q6.nil F none 5,(fun _ h=>by cases h),by unfold Ka;rw [if_pos ha0];rfl,ax _,rfl⟩)
 ·
  have ha0:a≠0:=fun e=>by rw [e] at hc;cases hc
  refine QO<|QC<|QG<|JV wG mixed (by kernel_rfl)<|QK (QJ (vs:=[_,_,_,_]) rfl Qe .here .h4 rfl)<|QK (QD rfl)<|xG (n:=k) (bytes:=8) rfl rfl Qf Qp Vv rfl Dp (by omega) (by omega) (fun b10=>?_)
  rw [show X9 [ay .i64 0] k=(aR k (0:Int)).map Qy by rw [VL];simp [Qy]]
  refine LV (b:=b10) .here wG (fun _ h=>h)<|QK (Q7 rfl NH Zl (.cons (vs:=[_,_,_,_]) rfl rfl rfl .h4 (.cons (vs:=[_]) rfl rfl rfl (.skip (.skip (.skip (.skip .h1)))) .nil))) ?_
  refine Ju rfl (Q8 J6) Je Zl rfl rfl (fun b12=>?_) (fun w h=>h.imp (.cons_cons _ .slnil) (fun F h=>h.1))
  refine QK (QF rfl)<|Q3<|QC<|QS ?_
  exact QP ((⟨some ⟨b12,0,none⟩,1,1⟩,[⟨x,⟨some ⟨b10,0,none⟩,k,k⟩,(a,(aR k (0:Int)))⟩])) rfl (.tmp rfl .nil) (rfl) (fun F ⟨⟨⟨⟨hxn,hxd⟩,_⟩,hz⟩,hs12⟩=>⟨Q6.of hs12 rfl,fun t ht=>by
  rw [List.mem_singleton.1 ht]
  exact⟨⟨hxn,hxd⟩,Q6.of hz (by simp),by simp,ax _⟩,by unfold Ka;rw [if_neg ha0];rfl,ax _,rfl⟩)
def WC (p:List Tm) (k:Nat):Nat→List Tm
 |0=>Ka 1 k
 |i+1=>Jp (JM (WC p k i) p)
structure QAI (n:Nat) where
 i:Nat
 c:W9
 le:i≤n
structure DK (p q:List Tm) (N:Nat):Prop where
 wp:∀ t∈p,t.2.length=N
 wq:∀ t∈q,t.2.length=N
 lp:p.length≤10000
 lq:q.length≤10000
 pp:∀ t∈p,PW t.2
 pq:∀ t∈q,PW t.2
 pm:∀ s∈p,∀ t∈q,PW (J4 s.2 t.2)
 zp:Zh p≤20000000
 zq:Zh q≤20000000
 zm:Zh (JM p q)≤40000000
theorem TW {w:ag} {F:Gs} {p q:W9} {N:Nat} (hF:Fits F w) (hGl:JB F) (hP:Jr F p.1 p.2 (JG p.2)) (hQ:Jr F q.1 q.2 (JG q.2)) (hN:N≤1000) (h:DK (JG p.2) (JG q.2) N) :
  QT Tryz.prog 223 [p.1.v,q.1.v] w F (fun(c:W9)=>c.1.v) (fun c F=>Jr F c.1 c.2 (Jp (JM (JG p.2) (JG q.2)))) :=
 yV hF hGl hP hQ ⟨fun t ht=>h.wp _ (af ht),fun t ht=>h.wq _ (af ht)⟩ hN ⟨by have:=h.lp;rwa [KD] at this,by have:=h.lq;rwa [KD] at this⟩
  ⟨fun t ht=>h.pp _ (af ht),fun t ht=>h.pq _ (af ht),fun s hs t ht=>h.pm _ (af hs) _ (af ht)⟩ ⟨h.zp,h.zq⟩ h.zm
theorem yS {w:ag} {F:Gs} {p:W9} {n k:Nat} (hF:Fits F w) (hGl:JB F) (hP:Jr F p.1 p.2 (JG p.2)) (hk:k≤1000) (hn:n≤1000000) (hm:∀ i,i<n→DK (WC (JG p.2) k i) (JG p.2) k) :
  QT Tryz.prog 224 [p.1.v,.int .i64 (n:Nat),.int .i64 (k:Nat)] w F (fun(c:W9)=>c.1.v) (fun c F=>Jr F c.1 c.2 (WC (JG p.2) k n)):=by
 dsimp only [Sr.v]
 refine QT.intro (G:=fun F=>JB F∧Jr F p.1 p.2 (JG p.2)) Tryz.func224 rfl (by rfl) rfl rfl hF (fun F' hF'=>⟨hGl.le hF',hP.le hF'⟩)<|wE<|wD rfl<|wE<|QH rfl (fun w F hF h9=>po hF (by omega) (by omega)) (fun x8=>wA rfl<|QH rfl (fun w F hF h9=>TY (a:=1) hF ⟨h9.2.1,h9.2.2⟩ hk) (fun c10=>wD rfl<|QG<|wF rfl<|wA rfl<|wC<|QX<|Jz (ι:=QAI n) [(0,_),(11,_)] (fun i=>[(7,i.c.1.v),(12,.int .i64 ((i.i:Nat):Int))]) (fun i=>[]) (fun i F=>Jr F i.c.1 i.c.2 (WC (JG p.2) k i.i)) (fun i=>n - i.i) (⟨0,c10,ai _⟩) wL wL wG (fun _ h=>h.2) (fun i=>?_)))
 simp only [ae,ab]
 have hi:=i.le
 refine wE<|QA (QU rfl rfl rfl)<|wC<|QG ?_
 refine QQ rfl (fun hc=>?_) (fun hc=>?_)
 ·
  have hlt:i.i<n:=by have:=wI hc;omega
  refine QO<|QC<|QG<|QX<|QB<|wA rfl<|wA rfl<|JO _ (fun w F hF h9=>h9.2.2.2.1) (fun hce=>QH rfl (fun w F hF h9=>TW (N:=k) hF h9.1.1.1.1 (p:=i.c) (q:=p) (by rw [hce];exact h9.2) h9.1.1.1.2 hk (by rw [hce];exact hm _ hlt)) (fun c16=>?_))
  rw [hce]
  refine wB rfl<|QE<|Qk<|QC<|QB<|QA (Qs rfl rfl (by omega))<|wA rfl<|QE ?_
  exact Qo (⟨i.i+1,c16,hlt⟩) (by show n - (i.i+1)<n - i.i;omega) wN wG (fun F h=>⟨h.1.1,h.2⟩)
 ·
  have hge:i.i=n:=by have:=wJ hc;omega
  refine Qz ?_
  repeat (first | refine Qb ?_ | refine QV (by rfl) ?_)
  refine Qc<|QC<|wF rfl<|wD rfl<|QS ?_
  exact QP (i.c) rfl (.tmp rfl .nil) (rfl) (fun F ⟨⟨⟨⟨hGl,hP⟩,⟨h8,h8_⟩⟩,h10⟩,hC⟩=>by rw [hge] at hC;exact hC)
def Vq (c:Rat) (ws:List (List Tm)) (ks:List Int) (k:Nat):Nat→List Tm
 |0=>Ka c k
 |i+1=>Jp (JM (Vq c ws ks k i) (WC (el ws i) k (Qa ks i).toNat))
def Yg (ws:List (List Tm)) (k:Nat) (l:List Tm):List Tm:=l.foldl (fun a t=>Jp (a++Vq t.1 ws t.2 k t.2.length)) []
theorem LC {ts:List XU} {ws:List (List Tm)} {k i:Nat} (h:i<ts.length):Yg ws k (JG (ts.take (i+1)))=Jp (Yg ws k (JG (ts.take i))++Vq (el ts i).t.1 ws (el ts i).t.2 k (el ts i).t.2.length):=by
 rw [Xj h];unfold Yg;rw [bE];rfl
structure Ct (p q:List Tm):Prop where
 pp:∀ t∈p,PW t.2
 pq:∀ t∈q,PW t.2
 lp:p.length≤400000000
 lq:q.length≤400000000
 zs:Zh (p++q)≤40000000
theorem Ox {w:ag} {F:Gs} {p q:W9} (hF:Fits F w) (hGl:JB F) (hP:Jr F p.1 p.2 (JG p.2)) (hQ:Jr F q.1 q.2 (JG q.2)) (h:Ct (JG p.2) (JG q.2)) :
  QT Tryz.prog 139 [p.1.v,q.1.v] w F (fun(c:W9)=>c.1.v) (fun c F=>Jr F c.1 c.2 (Jp (JG p.2++JG q.2))) :=
 ya hF hGl hP hQ ⟨fun t ht=>h.pp _ (af ht),fun t ht=>h.pq _ (af ht)⟩ ⟨by have:=h.lp;rwa [KD] at this,by have:=h.lq;rwa [KD] at this⟩ h.zs
structure QAT (n:Nat) where
 i:Nat
 c:W9
 le:i≤n
structure QAU (n:Nat) where
 j:Nat
 d:W9
 le:j≤n
def Pb (ws:List W9):List (List Tm):=ws.map fun e=>JG e.2
theorem Uu {ws:List W9} {j:Nat} (h:j<ws.length):el (Pb ws) j=JG (el ws j).2:=by rw [X5 (by simpa [Pb] using h),X5 h];simp [Pb]
theorem AQ {w:ag} {F:Gs} {q q2:Option Addr} {n cap n2 cap2 k:Nat} {ts:List XU} {ws:List W9} (hF:Fits F w) (hGl:JB F) (hP:Jr F ⟨q,n,cap⟩ ts (JG ts)) (hW:Q6 F q2 n2 1 (ws.map fun e=>e.1.v)) (hWs:UW F ws) (hw:ws.length=n2) (hk:k≤1000) (hl:ts.length≤1000000)
  (hp:∀ t∈ts,t.t.2.length≤n2∧PW t.t.2) (h1:∀ t∈ts,∀ j,j<t.t.2.length→DK (Vq t.t.1 (Pb ws) t.t.2 k j) (WC (el (Pb ws) j) k (Qa t.t.2 j).toNat) k∧∀ i,i<(Qa t.t.2 j).toNat→DK (WC (el (Pb ws) j) k i) (el (Pb ws) j) k)
  (h2:∀ i,i<ts.length→Ct (Yg (Pb ws) k (JG (ts.take i))) (Vq (el ts i).t.1 (Pb ws) (el ts i).t.2 k (el ts i).t.2.length)) :
  QT Tryz.prog 144 [.slice q n cap,.slice q2 n2 cap2,.int .i64 (k:Nat)] w F (fun(c:W9)=>c.1.v) (fun c F=>Jr F c.1 c.2 (Yg (Pb ws) k (JG ts))):=by
 have hln:ts.length=n:=hP.2.2.2.2
 refine QT.intro (G:=fun F=>JB F∧Jr F ⟨q,n,cap⟩ ts (JG ts)∧Q6 F q2 n2 1 (ws.map fun e=>e.1.v)∧UW F ws) Tryz.func144 rfl (by rfl) rfl rfl hF (fun F' hF'=>⟨hGl.le hF',hP.le hF',hW.le hF',hWs.le hF'⟩)<|wE<|wD rfl<|wE<|wD rfl<|QG<|wF rfl<|QA (Qj rfl J6)<|wA rfl<|wC<|QX<|Jz (ι:=QAT ts.length) [(1,_),(2,_),(13,_),(14,_)] (fun i=>[(7,i.c.1.v),(15,.int .i64 ((i.i:Nat):Int))]) (fun i=>[]) (fun i F=>Jr F i.c.1 i.c.2 (Yg (Pb ws) k (JG (ts.take i.i)))) (fun i=>ts.length - i.i) (⟨0,(⟨none,0,0⟩,[]),ai _⟩) wN wL wG (fun F _=>⟨Q6.nil F none 5,(fun _ h=>by cases h),rfl,ax _,rfl⟩) (fun i=>?_)
 simp only [ae,ab]
 have hi:=i.le
 refine wE<|QA (QU rfl rfl rfl)<|wC<|QG ?_
 refine QQ rfl (fun hc=>?_) (fun hc=>?_)
 ·
  have hlt:i.i<ts.length:=by have:=wI hc;omega
  have htm:=JK hlt
  have hp1:=hp _ htm
  have hpl:=hp1.2.2
  have hrl:=(hP.2.1 _ htm).2.2.1
  refine QO<|QC<|QG<|QX<|wE<|QA (JH (n:=n) (i.i) (fun F h9=>(h9.1.2.1).1) rfl rfl J6 Je (by omega))<|QA (Xd (n:=n) (vs:=[.int .i64 (el ts (i.i)).x.n.s,.slice (el ts (i.i)).x.n.q (el ts (i.i)).x.n.n (el ts (i.i)).x.n.cap,.int .i64 (el ts (i.i)).x.d.s,.slice (el ts (i.i)).x.d.q (el ts (i.i)).x.d.n (el ts (i.i)).x.d.cap,.slice (el ts (i.i)).r.q (el ts (i.i)).r.n (el ts (i.i)).r.cap]) ((i.i)*5) (fun F h9=>(h9.1.2.1).1) (by omega) rfl Je rfl (fun j v hv=>Jy (f:=Ym) (l:=ts) YP (by omega) hv))<|Qg Zl (fun b9=>QR (vs:=[_,_,_,_,_]) rfl rfl rfl Je rfl .here .h5 wO<|wC<|wE<|QA (QI rfl Z0 Qe)<|QA (QJ (vs:=[_,_,_,_]) rfl Qe .here .h4 rfl)<|wA rfl<|QH rfl (fun w F hF h9=>TY (a:=(el ts i.i).t.1) (x:=(el ts i.i).x) hF (h9.1.2.1.2.1 _ htm).1 hk) (fun c22=>wD rfl<|QG<|wE<|QA (QI rfl X8 Qv) ?_))
  refine QA (Qm rfl Qv .here (.skip (.skip (.skip (.skip .h1)))))<|QA (Qj rfl Qf)<|wA rfl<|wC<|QX<|Jz (ι:=QAU (el ts i.i).t.2.length) [(1,_),(2,_),(7,_),(13,_),(14,_),(15,_),(24,_),(25,_)] (fun i2=>[(10,i2.d.1.v),(26,.int .i64 ((i2.j:Nat):Int))]) (fun i2=>[]) (fun i2 F=>Jr F i2.d.1 i2.d.2 (Vq (el ts i.i).t.1 (Pb ws) (el ts i.i).t.2 k i2.j)) (fun i2=>(el ts i.i).t.2.length - i2.j) (⟨0,c22,ai _⟩) wR wL (aQ _) (fun _ h=>h.2) (fun i2=>?_)
  simp only [ae,ab]
  have hj:=i2.le
  refine wE<|QA (QU rfl rfl rfl)<|wC<|QG ?_
  refine QQ rfl (fun hc=>?_) (fun hc=>?_)
  ·
   have hlt2:i2.j<(el ts i.i).t.2.length:=by have:=wI hc;omega
   have hlw:i2.j<ws.length:=by omega
   have hem:=JK hlw
   have hk1:=hp1.2.el hlt2
   refine QO<|QC<|QG<|QX<|wF rfl<|QA (JH (n:=(el ts i.i).r.n) (i2.j) (fun F h9=>((h9.1.1.1.2.1.2.1 _ htm).2).1) rfl rfl Qf Qp (by omega))<|QA (JQ (n:=(el ts i.i).r.n) ((i2.j)*1) (fun F h9=>((h9.1.1.1.2.1.2.1 _ htm).2).1) (by omega) rfl Qp (JJ (o:=(el ts i.i).t.2) (by omega)))<|wB rfl<|wD rfl<|QB<|wA rfl<|wA rfl<|wA rfl<|QA (JH (n:=n2) (i2.j) (fun F h9=>h9.1.1.1.2.2.1) rfl rfl DW WS (by omega))<|QA (JQ (n:=n2) ((i2.j)*1) (fun F h9=>h9.1.1.1.2.2.1) (by omega) rfl WS (Bp (f:=fun e:W9=>e.1.v) (l:=ws) (by omega)))<|wA rfl<|wA rfl ?_
   rw [show(.int .i64 (Qa (el ts i.i).t.2 i2.j):aF) = .int .i64 (((Qa (el ts i.i).t.2 i2.j).toNat:Nat):Int) by rw [bz hk1.1]]
   refine QH rfl (fun w F hF h9=>yS (p:=el ws i2.j) hF h9.1.1.1.1 (h9.1.1.1.2.2.2 _ hem) hk (by omega) (by rw [← Uu hlw];exact(h1 _ htm _ hlt2).2)) (fun c38=>JO _ (fun w F hF ⟨⟨⟨⟨⟨hGl,hP,hW,hWs⟩,hC⟩,h22⟩,hD⟩,h38⟩=>aH hD.2.2.1 h38.2.2.1) (fun hde=>?_))
   obtain ⟨hde,h38e⟩:=hde
   refine QH rfl (fun w F hF h9=>TW (N:=k) hF h9.1.1.1.1.1 (p:=i2.d) (q:=c38) (by rw [hde];exact h9.1.2) (by rw [h38e];exact h9.2) hk (by rw [hde,h38e,← Uu hlw];exact(h1 _ htm _ hlt2).1)) (fun c39=>?_)
   rw [hde,h38e,← Uu hlw]
   refine wB rfl<|QE<|Qk<|QC<|QB<|QA (Qs rfl rfl (by omega))<|wA rfl<|QE ?_
   exact Qo (⟨i2.j+1,c39,hlt2⟩) (by show(el ts i.i).t.2.length - (i2.j+1)<(el ts i.i).t.2.length - i2.j;omega) wT (aQ _) (fun F h=>⟨h.1.1.1,h.2⟩)
  ·
   have hge2:i2.j=(el ts i.i).t.2.length:=by have:=wJ hc;omega
   refine Qz ?_
   repeat (first | refine Qb ?_ | refine QV (by rfl) ?_)
   refine Qc<|QC<|QB<|wA rfl<|wA rfl<|JO _ (fun w F hF ⟨⟨⟨⟨hGl,hP,hW,hWs⟩,hC⟩,h22⟩,hD⟩=>aH hC.2.2.1 hD.2.2.1) (fun hde=>?_)
   obtain ⟨hce,hde⟩:=hde
   rw [hge2] at hde
   refine QH rfl (fun w F hF ⟨⟨⟨⟨hGl,hP,hW,hWs⟩,hC⟩,h22⟩,hD⟩=>Ox hF hGl (p:=i.c) (q:=i2.d) (by rw [hce];exact hC) (by rw [hde];rw [hge2] at hD;exact hD) (by rw [hce,hde];exact h2 _ hlt)) (fun c43=>?_)
   rw [hce,hde]
   refine wB rfl<|QE<|Qk<|QC<|QB<|QA (Qs rfl rfl (by omega))<|wA rfl<|QE ?_
   exact Qo (⟨i.i+1,c43,hlt⟩) (by show ts.length - (i.i+1)<ts.length - i.i;omega) wP (aQ _) (fun F h=>⟨h.1.1.1.1,by rw [LC hlt];exact h.2⟩)
 ·
  have hge:i.i=ts.length:=by have:=wJ hc;omega
  refine Qz ?_
  repeat (first | refine Qb ?_ | refine QV (by rfl) ?_)
  refine Qc<|QC<|wF rfl<|wD rfl<|QS ?_
  exact QP (i.c) rfl (.tmp rfl .nil) (rfl) (fun F ⟨⟨hGl,hP,hW,hWs⟩,hC⟩=>by rw [hge,aq] at hC;exact hC)
theorem jF {w:ag} {F:Gs} {q:Option Addr} {n c:Nat} {l:List Int} (hF:Fits F w) (hR:Q6 F q n 1 (l.map Qy)) (hn:n≤1000000000):QZ Tryz.prog 142 [.slice q n c] w F (.int .i64 (Ql l)):=by
 have hln:l.length=n:=by have:=hR.1;simpa using this
 have em:l=l.map (fun x=>x):=by simp
 refine QT.intro (G:=fun F=>Q6 F q n 1 (l.map Qy)) Tryz.func142 rfl (by rfl) rfl rfl hF (fun F' hF'=>hR.le hF')<|wE<|wD rfl<|wE<|wD rfl<|QG<|wF rfl<|QA (Qj rfl Zn)<|wA rfl<|wC<|QX<|Zc (ι:=KF l (fun x=>x)) [(3,_),(6,_),(7,_)] (fun i=>[(8,.int .i64 ((i.i:Nat):Int))]) (fun i=>l.length - i.i) (KF.start _ _) wM wK (fun i=>?_)
 simp only [ae,ab]
 have hi:=i.le
 refine wE<|QA (QU rfl rfl rfl)<|wC<|QG ?_
 refine QQ rfl (fun hc=>?_) (fun hc=>?_)
 ·
  have hlt:i.i<l.length:=by have:=wI hc;omega
  refine QO<|QC<|QG<|QX<|wE<|QA (JH (n:=n) (i.i) (fun F hR=>hR) rfl rfl Zn Y7 (by omega))<|QA (JQ (n:=n) ((i.i)*1) (fun F hR=>hR) (by omega) rfl Y7 (JJ (o:=l) (by omega)))<|wD rfl<|wF rfl<|wA rfl<|QA (QU rfl rfl rfl)<|QE<|QC ?_
  refine QQ rfl (fun hc=>?_) (fun hc=>?_)
  ·
   refine wF rfl<|wD rfl<|QS ?_
   repeat (first | refine JC ?_ | refine Q5 ?_)
   exact wH rfl rfl (congrArg (ay .i64) (by rw [Xy hlt,E9 l];exact i.hit hlt (by rw [← Xy hlt];simpa using hc))) (fun F hR=>trivial)
  ·
   refine QO<|Qk<|QC<|QB<|QA (Qs rfl rfl (by omega))<|wA rfl<|QE ?_
   exact Qo (i.next hlt (by rw [← Xy hlt];simpa using hc)) (by show l.length - (i.i+1)<l.length - i.i;omega) wN wG (fun F h=>h)
 ·
  have hge:l.length≤i.i:=by have:=wJ hc;omega
  refine Qz ?_
  repeat (first | refine Qb ?_ | refine QV (by rfl) ?_)
  refine Qc<|QC<|wF rfl<|wD rfl<|QS ?_
  exact wH rfl rfl (congrArg (ay .i64) (by rw [E9 l];exact i.stop hge)) (fun F hR=>trivial)
structure IB (ws:List (List Tm)) (k:Nat) (l:List Tm):Prop where
 mul:∀ t∈l,∀ j,j<t.2.length→DK (Vq t.1 ws t.2 k j) (WC (el ws j) k (Qa t.2 j).toNat) k∧∀ i,i<(Qa t.2 j).toNat→DK (WC (el ws j) k i) (el ws j) k
 add:∀ i,i<l.length→Ct (Yg ws k (l.take i)) (Vq (el l i).1 ws (el l i).2 k (el l i).2.length)
 pw:∀ t∈Yg ws k l,PW t.2
 sz:∀ t∈Yg ws k l,JL t.1≤100000000
 len:(Yg ws k l).length≤1000000
def FG (ls:List KG):List (List Tm):=ls.map fun e=>Q9 (J2 e.2)
structure CxJ (ls:List KG) where
 i:Nat
 v:aF
 ob:List (Nat×Obj)
 ws:List W9
 le:i≤ls.length
 hr:Qx 157 1 v i (ws.map fun e=>e.1.v) ob
 hx:Pb ws=FG (ls.take i)
theorem CxJ.len {ls:List KG} (s:CxJ ls):s.ws.length=s.i:=by
 have:=congrArg ba s.hx
 have h:=s.le
 simp only [Pb,FG,ah,aB] at this;omega
theorem jx {ls:List KG} {ws:List W9} {i:Nat} {c:W9} (h:Pb ws=FG (ls.take i)) (hi:i<ls.length) (e:JG c.2=Q9 (J2 (el ls i).2)):Pb (ws++[c])=FG (ls.take (i+1)):=by
 have e1:Pb (ws++[c])=Pb ws++[JG c.2]:=by unfold Pb;rw [ak];rfl
 rw [e1,h,e,X7 hi];unfold FG;rw [ak];rfl
theorem yC {ts:List XU} {i:Nat} (h:i<ts.length):(el ts i).t=el (JG ts) i:=by rw [X5 h,X5 (by simpa [JG] using h)];simp [JG]
theorem L0 (ts:List XU) (i:Nat):JG (ts.take i)=(JG ts).take i:=by simp [JG,eV]
theorem LA {w:ag} {F:Gs} {a:KG} {q:Option Addr} {n cap:Nat} {ls:List KG} {v u:Int} (hF:Fits F w) (hGl:JB F) (hP:YW F [a]) (hta:VX a) (hR:Q6 F q n 1 (ls.map fun e=>e.1.v)) (hA:YW F ls) (hn:ls.length=n) (ht:∀ e∈ls,VX e)
  (hv:0≤v∧v≤24) (hu:0≤u∧u≤24) (ha:XZ (J2 a.2) v=0) (hnv:(n:Int)=v+1) (hall:WM ls u=0) (ho:IB (FG ls) (u+1).toNat (Q9 (J2 a.2))) :
  QT Tryz.prog 44 [a.1.v,.int .i64 v,.slice q n cap,.int .i64 u] w F (fun(c:KG)=>.tuple #[c.1.v,.int .i64 (GL (Yg (FG ls) (u+1).toNat (Q9 (J2 a.2))))]) (fun c F=>YR F c.1 c.2 (H8 (Yg (FG ls) (u+1).toNat (Q9 (J2 a.2))))):=by
 have haa:a∈[a]:=by simp
 have hcv:Zr v=0:=(Kj v).2 hv
 have hcu:Zr u=0:=(Kj u).2 hu
 have oa:=KU ha
 obtain ⟨_,ows⟩:=MO hall
 have la:(Q9 (J2 a.2)).length≤64:=by unfold Q9;rw [ah];exact oa.len
 have hpa:∀ t∈Q9 (J2 a.2),PW t.2:=oa.pw hv.2
 have hwd:∀ t∈Q9 (J2 a.2),t.2.length=n:=fun t ht=>by have:=oa.wide t ht;omega
 dsimp only [Sr.v]
 refine QT.intro (G:=fun F=>JB F∧YW F [a]∧Q6 F q n 1 (ls.map fun e=>e.1.v)∧YW F ls) Tryz.func44 rfl (by rfl) rfl rfl hF (fun F' hF'=>⟨hGl.le hF',hP.le hF',hR.le hF',hA.le hF'⟩)<|wE<|wB rfl<|wD rfl<|QG<|wF rfl<|QH rfl (fun w F hF h9=>G8 hF ) (fun _=>wA rfl<|QH rfl (fun w F hF h9=>G8 hF ) (fun _=>QW rfl (Q8 Zn) Y7 BO rfl rfl (fun b20=>QH rfl (fun w F hF h9=>Zz hF (Q6.of (cs:=bA Qy [Zr v,Zr u]) h9.2 rfl) (by decide)) (fun _=>wD rfl<|wF rfl<|QA (QU rfl rfl rfl)<|QE<|QC ?_))))
 refine QQ rfl (fun hc=>?_) (fun hc=>?_)
 ·exact absurd hc (by rw [hcv,hcu];decide)
 ·
  refine QO<|QC<|QG<|wF rfl<|wA rfl<|QH rfl (fun w F hF h9=>B1 hF h9.1.1.1.1.1 ((h9.1.1.1.1.2.1 a haa).1) ((h9.1.1.1.1.2.1 a haa).2) (hta.1) (hta.2.1) (hta.2.2) (hv)) (fun _=>wA rfl<|QA (Qj rfl D9)<|wA rfl<|QA (Qs rfl rfl (by omega))<|QA (QU rfl rfl rfl)<|QH rfl (fun w F hF h9=>Z1 hF ) (fun _=>QW rfl (Q8 Zn) Y7 BO rfl rfl (fun b34=>QH rfl (fun w F hF h9=>jF hF (Q6.of (cs:=bA Qy [XZ (J2 a.2) v,if((n:Int) != v+1)=true then 2 else 0]) h9.2 rfl) (by decide)) (fun _=>wD rfl<|wF rfl<|QA (QU rfl rfl rfl)<|QE<|QC ?_))))
  refine QQ rfl (fun hc=>?_) (fun hc=>?_)
  ·exact absurd hc (by rw [ha,if_neg (by simp [hnv])];decide)
  ·
   refine QO<|QC<|QG<|wF rfl<|wA rfl<|QH rfl (fun w F hF ⟨⟨⟨⟨⟨⟨⟨⟨⟨hGl,hP,hR,hA⟩,_⟩,_⟩,hs20⟩,_⟩,_⟩,_⟩,hs34⟩,_⟩=>BI hF hGl (hR) (hA) (hn) (by omega) (ht)) (fun _=>wD rfl<|wF rfl<|QA (QU rfl rfl rfl)<|QE<|QC ?_)
   refine QQ rfl (fun hc=>?_) (fun hc=>?_)
   ·exact absurd hc (by rw [hall];decide)
   ·
    refine QO<|QC<|wE<|wD rfl<|QG<|wF rfl<|QA (Qj rfl D9)<|wA rfl<|wC<|QX<|Jz (ι:=CxJ ls) [(0,_),(3,_),(45,_),(46,_)] (fun i=>[(13,i.v),(47,.int .i64 ((i.i:Nat):Int))]) (fun i=>i.ob) (fun i F=>UW F i.ws) (fun i=>ls.length - i.i) (⟨0,_,[],[],ai _,.nil,rfl⟩) wN wL wG (fun _ _ _ h=>by cases h) (fun i=>?_)
    simp only [ae,ab]
    have hi:=i.le
    refine wE<|QA (QU rfl rfl rfl)<|wC<|QG ?_
    refine QQ rfl (fun hc=>?_) (fun hc=>?_)
    ·
     have hlt:i.i<ls.length:=by have:=wI hc;omega
     have hem:=JK hlt
     refine QO<|QC<|QG<|QX<|wE<|QA (JH (n:=n) (i.i) (fun F h9=>h9.1.1.1.1.1.1.1.1.1.1.2.2.1) rfl rfl D9 Mt (by omega))<|QA (JQ (n:=n) ((i.i)*1) (fun F h9=>h9.1.1.1.1.1.1.1.1.1.1.2.2.1) (by omega) rfl Mt (Bp (f:=fun e:KG=>e.1.v) (l:=ls) (by omega)))<|wD rfl<|QB<|wA rfl<|wA rfl<|QH rfl (fun w F hF ⟨⟨⟨⟨⟨⟨⟨⟨⟨⟨⟨hGl,hP,hR,hA⟩,_⟩,_⟩,hs20⟩,_⟩,_⟩,_⟩,hs34⟩,_⟩,_⟩,hWs⟩=>Vd hF hGl (a:=el ls i.i) (hA _ hem).1 (hA _ hem).2 (ht _ hem) (ows _ hem) hu) (fun c53=>JO _ (fun w F hF h=>h.2.2.2.1) (fun e53=>QW rfl (Q8 DW) WS Lq rfl rfl (fun b54=>?_)))
     rw [← bt i.ob]
     refine Dw (n:=i.i) (k:=1) (sz:=1) (news:=[c53.1.v]) rfl rfl DW WS Lq rfl kN i.hr (Src.row (off:=0) (fun F h9=>h9.2) (fun j v hv=>by rw [aN];rw [az];exact hv) rfl) (by omega) (by omega) (fun v hv=>by rw [List.mem_singleton.1 hv];rfl) (fun v55 ob55 hr55=>?_)
     refine wB rfl<|QE<|Qk<|QC<|QB<|QA (Qs rfl rfl (by omega))<|wA rfl<|QE ?_
     exact Qo (⟨i.i+1,v55,ob55,i.ws++[c53],hlt,by rw [ak];exact hr55,jx i.hx hlt e53⟩) (by show ls.length - (i.i+1)<ls.length - i.i;omega) wP (List.sublist_append_left _ _) (fun F ⟨⟨⟨hB,hWs⟩,h53⟩,_⟩=>⟨hB,fun e he=>by
   rcases List.mem_append.1 he with he | he
   ·exact hWs e he
   ·rw [List.mem_singleton.1 he,e53];exact h53⟩)
    ·
     have hge:i.i=ls.length:=by have:=wJ hc;omega
     refine Qz ?_
     repeat (first | refine Qb ?_ | refine QV (by rfl) ?_)
     refine Qc<|QC<|QG<|QB ?_
     have hxl:=i.len
     have hwa:Pb i.ws=FG ls:=by rw [i.hx,hge,aq]
     obtain ⟨⟨rq,rn,rc⟩,hv2,hrn,hrc,hfix⟩:=Qx.fix (w0:=w) (F0:=F) (bs1:=[]) (G:=_) i.hr
     dsimp only at hrn hrc hfix
     subst hrn
     refine DM hfix ?_
     rw [hv2]
     dsimp only [Sr.v]
     refine wA rfl<|QH rfl (fun w F hF h9=>Vd hF h9.1.1.1.1.1.1.1.1.1.1.1.1 (a:=a) (h9.1.1.1.1.1.1.1.1.1.1.1.2.1 a haa).1 (h9.1.1.1.1.1.1.1.1.1.1.1.2.1 a haa).2 hta oa hv) (fun c58=>JO _ (fun w F hF h=>aH h.2.2.2.1 h.2.len) (fun h58p=>?_))
     obtain ⟨e58,l58⟩:=h58p
     refine wA rfl<|wA rfl<|QA (Qs rfl rfl (by omega)) ?_
     rw [show(.int .i64 (u+1):aF) = .int .i64 ((((u+1).toNat:Nat)):Int) by rw [bz (by omega)]]
     refine QH rfl (fun w F hF ⟨⟨⟨⟨⟨⟨⟨⟨⟨⟨⟨⟨⟨hGl,hP,hR,hA⟩,_⟩,_⟩,hs20⟩,_⟩,_⟩,_⟩,hs34⟩,_⟩,_⟩,hWs⟩,hrow⟩,h58⟩=>AQ (k:=(u+1).toNat) (ts:=c58.2) (ws:=i.ws) hF hGl (by rw [e58];exact h58) hrow hWs hxl (by omega) (by omega)
      (J8 (Q:=fun t=>t.2.length≤i.i∧PW t.2) e58 fun t ht=>⟨eZ ((hwd t ht).trans (hge.trans hn).symm),hpa t ht⟩)
      (by rw [hwa];exact J8 (Q:=fun t=>∀ j,j<t.2.length→DK (Vq t.1 (FG ls) t.2 (u+1).toNat j) (WC (el (FG ls) j) (u+1).toNat (Qa t.2 j).toNat) (u+1).toNat∧∀ i,i<(Qa t.2 j).toNat→DK (WC (el (FG ls) j) (u+1).toNat i) (el (FG ls) j) (u+1).toNat) e58 ho.mul)
      (fun j hj=>by rw [hwa,yC hj,L0,e58];exact ho.add j (by omega))) (fun c62=>?_)
     refine JO _ (fun w F hF h=>aH h.2.2.2.1 h.2.len) (fun h62p=>?_)
     obtain ⟨e62,l62⟩:=h62p
     rw [hwa,e58] at e62 l62
     refine QH rfl (fun w F hF ⟨⟨⟨⟨⟨⟨⟨⟨⟨⟨⟨⟨⟨⟨hGl,hP,hR,hA⟩,_⟩,_⟩,hs20⟩,_⟩,_⟩,_⟩,hs34⟩,_⟩,_⟩,hWs⟩,hrow⟩,h58⟩,h62⟩=>GV hF (q:=c62.1.q) (n:=c62.1.n) (cap:=c62.1.cap) (ts:=c62.2) (by rw [e62];rw [hwa,e58] at h62;exact h62) hGl (J8 e62 ho.pw) (J8 (Q:=fun t=>JL t.1≤100000000) e62 ho.sz) (by rw [l62];exact ho.len)) (fun c63=>?_)
     rw [e62]
     refine QA (QM rfl rfl)<|QA (QM rfl rfl)<|wB rfl<|wD rfl<|QS ?_
     exact Ja (c63) rfl (.tmp rfl (.tmp rfl .nil)) (rfl) (fun F h9=>h9.2)
structure Open (F:Fence):Prop where
 fn:∀ f,F.fn f
 depth:F.depth=none
 calls:∀ {n:Nat} {P:aS} {f:FuncId} {args:Array aF} {w:ag} {R:Ending→ag→Prop},Calls P f args w R→CallsIn F n P f args w R
 rows:∀ {n:Nat} {P:aS} {row:String} {args:Array aF} {w:ag} {R:aF→ag→Prop},Rows P row args w R→RowsIn F n P row args w R
theorem Db:Open au where
 fn:=fun _=>trivial
 depth:=rfl
 calls:=fun h=>callsIn_wide.2 h
 rows:=fun h c cs _=>by
  obtain ⟨v,w',h1,h2⟩:=h c cs
  exact⟨v,w',h1,stepsIn_wide.2 h2⟩
theorem X3 (l:Nat):Open (Fence.wide.inRound l) where
 fn:=fun _=>trivial
 depth:=rfl
 calls:=fun h=>(callsIn_wide.2 h:CallsIn au _ _ _ _ _ _)
 rows:=fun h=>Db.rows h
section
variable {F:Fence} {P:aS}
theorem Open.op (hF:Open F) {o:Oper} (hnd:∀ c,o.op≠.defer c) {a:Act} {w:ag} {K K':Act→ag→Prop} {Q1 Q:Exit→Act→ag→Prop} (hp:∀ c a w,Q1 (.panic c) a w→Q (.panic c) a w) (hl:∀ a w,Q1 .outgrown a w→Q .outgrown a w) (hK:∀ a w,K a w→K' a w) (h:o.wp P a w K Q1):o.wpIn F 0 P a w K' Q:=by
 unfold Oper.wp at h
 unfold Oper.wpIn
 refine⟨fun f _=>hF.fn f,?_⟩
 rw [Oper.semAt_plain F a.eval o hnd]
 generalize (execOp a.eval o).run P w=r at *
 have hd:F.depth.isSome=true→1≤0:=fun e=>by rw [hF.depth] at e;cases e
 cases r with
 |ok x w' =>
  cases x<;>simp only [Oper.upon,Oper.uponIn] at h ⊢ <;>
   first
    |exact hK _ _ h
    |exact⟨hd,hF.calls (h.mono fun e w'' he=>by
      cases e with
      |returned u=>exact hK _ _ he
      |panicked c=>exact hp _ _ _ he
      |outgrown=>obtain ⟨a,w,h⟩:=he;exact⟨a,w,hl _ _ h⟩)⟩
    |exact⟨hd,hF.rows (h.mono fun _ _ he=>hK _ _ he)⟩
 |halt x w'=>cases x<;>simp only [Oper.upon,Oper.uponIn] at h ⊢<;>exact hp _ _ _ h
def Wd (l:List Oper):Bool:=l.all fun o=>match o.op with | .defer _=>false | _=>true
theorem NO {o:Oper} (h:(match o.op with | .defer _=>false | _=>true)=true):∀ c,o.op≠.defer c:=fun c e=>by rw [e] at h;cases h
theorem Open.list (hF:Open F) {ops:Array Oper} {Q:Exit→Act→ag→Prop} (hQ:¬ LetsOut Q):∀ (l:List Oper) (a:Act) (w:ag),Wd l=true→wpList P ops Q l a w→wpListIn F 0 P ops Q l a w
 |[],_,_,_,h=>h
 |o::rest,a,w,hd,h=>by
  simp only [Wd,eW,bZ] at hd
  unfold wpList at h
  unfold wpListIn
  split
  ·rename_i hw
   rw [if_pos hw] at h
   rcases h with h | ⟨_,h⟩
   ·exact hF.op (NO hd.1) (fun _ _ _ h=>h) (fun _ _ h=>h) (fun a w h=>hF.list hQ rest a w hd.2 h) h
   ·exact absurd h hQ
  ·rename_i hw
   rw [if_neg hw] at h
   exact⟨fun f _=>hF.fn f,hF.list hQ rest _ _ hd.2 h⟩
end
section
variable [Dr] [df:Df] {F:Fence} {P:aS} {Q:Exit→Act→ag→Prop} {N:Nat} {m:Sl} {E:Env}
def JI (F:Fence) (P:aS) (c:Code) (Q:Exit→Act→ag→Prop) (N:Nat) (m:Sl) (E:Env):Prop:=∀ a w,Jx N m a→St E w→c.wpIn F 0 P Q a w
theorem Gp {x y:Code} (h:JI F P x (Exit.then (y.wpIn F 0 P Q) Q) N m E):JI F P (.seq x y) Q N m E:=fun a w ha hw=>wpIn_seq (h a w ha hw)
theorem UZ {id:Nat} {c:Code} (h:JI F P c (Exit.inBlock id Q) N m E):JI F P (.block id c) Q N m E:=fun a w ha hw=>wpIn_block (h a w ha hw)
theorem xF (h:Fin Q .normal N m E):JI F P .skip Q N m E:=fun a w ha hw=>wpIn_skip (h a w ha hw)
theorem F7 {c:bF} {x y:Code} {t:Bool} (hc:ev m c=some (.bool t)) (ht:t=true→JI F P x Q N m E) (hf:t=false→JI F P y Q N m E):JI F P (.cond c x y) Q N m E :=
 fun a w ha hw=>wpIn_cond_split (ha.ev hc) (fun h=>ht h a w ha hw) (fun h=>hf h a w ha hw)
theorem Za (hF:Open F) {id:Nat} {l:List Oper} (hQ:¬ LetsOut Q) (hd:Wd l=true) (h:JS P l.toArray Q l N m E):JI F P (.region id l.toArray false) Q N m E :=
 fun a w ha hw=>wpIn_region_lit (hF.list hQ l a w hd (h a w ha hw))
theorem Vu {y:Code} (h:JI F P y Q N m E):Fin (Exit.then (y.wpIn F 0 P Q) Q) .normal N m E:=h
section
variable {w0:ag} {F0:Gs} {bs:List (Nat×Obj)} {G:Gs→Prop} {l:Nat} {r:Loop} {f:Obj→List (Nat×Obj)}
theorem St.put {w:ag} (h:St ⟨w0,F0,bs,G⟩ w) {b:Nat} {o:Obj} (o':Obj) (ho:Own bs b o f) (hn:∀ c fr,o'≠.cells c 248 fr):St ⟨w0,F0,f o',G⟩ (w.putObj b o'):=by
 obtain ⟨pre,post,e1,e2⟩:=ho.split
 subst e1
 rw [e2]
 exact h.write pre ⟨rfl,rfl,rfl,rfl,rfl⟩ hn
theorem IA {body:Code} {Qr:Exit→Act→ag→Prop} (ho:Own bs l (.loop r) f) (hr:r.state = .ready) (k:JI F P body Qr N m ⟨w0,F0,f (.loop { r with state:=.busy }),G⟩) :
  Fin (Exit.then (fun a₁ w₁=>∃ w₂,(Instr.beginRound l).run P w₁ = .ok () w₂∧body.wpIn F 0 P Qr a₁ w₂) (fun _ _ _=>False)) .normal N m ⟨w0,F0,bs,G⟩ :=
 fun a w ha hw=>⟨_,run_beginRound (hw.own ho) hr,k a _ ha (hw.put _ ho (fun c fr e=>by cases e))⟩
theorem F9 {R:Ending→ag→Prop} (ho:Own bs l (.loop r) f) (k:∀ w,St ⟨w0,F0,f (.loop { r with state:=.ready,pending:=none }),G⟩ w→R (.returned (.bool true)) w):Fin (roundPost P l R) .normal N m ⟨w0,F0,bs,G⟩ :=
 fun a w ha hw=>⟨_,_,run_endRound none (hw.own ho),k _ (hw.put _ ho (fun c fr e=>by cases e))⟩
end
end
section
variable [Dr] {P:aS} {w0:ag} {F0:Gs} {bs:List (Nat×Obj)} {G:Gs→Prop} {l:Nat} {r:Loop} {f:Obj→List (Nat×Obj)}
def Rt (r:Loop) (vs:Array aF):Act:={ tmps:=(r.params.zip vs).foldl (fun tmps (t,a)=>tmps.setIfInBounds t a) r.tmps,defers:=[] }
theorem Mp {W:ag} {vs:Array aF} {R:Ending→ag→Prop} {N:Nat} {m:Sl} (hst:St ⟨w0,F0,bs,G⟩ W) (ho:Own bs l (.loop r) f) (hsz:vs.size=r.params.size) (hsl:Jx N m (Rt r vs))
  (h:JI (Fence.wide.inRound l) P r.assign (Exit.then (fun a₁ w₁=>∃ w₂,(Instr.beginRound l).run P w₁ = .ok () w₂∧r.body.wpIn (Fence.wide.inRound l) 0 P (roundPost P l R) a₁ w₂) (fun _ _ _=>False)) N m ⟨w0,F0,bs,G⟩) :
  YieldAt au 0 P l vs W R :=
 ⟨_,_,_,_,run_yield (hst.own ho) hsz,roundIn_of_wpIn trivial (h _ W hsl hst)⟩
end
section
variable [Dr] [df:Df] {P:aS} {Q:Exit→Act→ag→Prop} {N:Nat} {m:Sl} {E E0:Env} {ops:Array Oper} {l:List Oper} {w0:ag} {F0:Gs} {bs:List (Nat×Obj)} {G:Gs→Prop}
def uo (P:aS) (ops:Array Oper) (Q:Exit→Act→ag→Prop) (l:List Oper) (N:Nat) (m:Sl) (E:Env):Prop:=∀ a w,Jx N m a→St E w→wpListIn au 0 P ops Q l a w
theorem ka (hQ:¬ LetsOut Q) (hd:Wd l=true) (h:JS P ops Q l N m E):uo P ops Q l N m E:=fun a w ha hw=>Db.list hQ l a w hd (h a w ha hw)
theorem LU {x:bF} {d r:Nat} {args:Array bF} {tys:Array aK} {vs:List aF} {ty:aK} {pos:String} {aft:Array Edge} {ι:Type} {E':ι→Env} (hx:ev m x=some (.func (.yield r) #[] #[])) (hv:Ep m args.toList=some vs)
  (hy:∀ w,St E w→YieldAt au 0 P r vs.toArray w fun e w'=>e = .returned (.bool true)∧∃ s,St (E' s) w')
  (k:∀ s,uo P ops Q l N ((d,.bool true)::m) (E' s)) (hd:J5 N (some d)=true:=by rfl):uo P ops Q (⟨some d,.call ⟨.value x,args,tys⟩,ty,pos,aft,none⟩::l) N m E:=by
 intro a w ha hw
 refine wpListIn_plain rfl fun K hK=>?_
 obtain ⟨fn,tmps,assign,body,hr,hR⟩:=hy w hw
 refine⟨fun f _=>trivial,?_⟩
 have e2:args.map a.eval=vs.toArray:=by rw [← ha.Ep hv];apply e9;simp
 have hrun:(execOp a.eval ⟨some d,.call ⟨.value x,args,tys⟩,ty,pos,aft,none⟩).run P w = .ok (.round r fn tmps assign body) w:=by
  simp only [execOp,resolve,ha.ev hx,Deferred.ofValue,aV,eD,aI,invoke,e2]
  simpa using hr
 rw [Oper.semAt_plain au a.eval _ (fun c e=>by cases e),hrun]
 refine⟨fun e=>(by cases e),hR.mono ?_⟩
 rintro e w' ⟨rfl,s,hs⟩
 exact hK _ _ (k s _ w' (ha.put hd (.bool true)) hs)
theorem Cq {ops':Array Oper} {l':List Oper} (h:uo P ops' Q l' N m E):JD P ops (Xl (fun a w=>wpListIn au 0 P ops' Q l' a w)) E0 [] N m E:=fun _=>h
section
variable {md:Region.Mode}
theorem Ux {l:List Oper} {n i:Nat} {K0 K:Act→ag→Prop} {a:Act} {w:ag} (hi:i<n) (hgd:By l.toArray n=true) (hnd:Wd l=true)
  (h:wpOp P (l.take n).toArray (Xl K0) i K a w):wpOpIn au 0 P l.toArray Q i K a w:=by
 unfold wpOp at h
 unfold wpOpIn
 rw [Gd hi] at h
 cases ho:l.toArray[i]? with
 |none=>simp only [ho] at h ⊢;exact h
 |some o =>
  simp only [ho] at h ⊢
  have hw:bL o (yielded (l.take n).toArray a.tmps)=bL o (yielded l.toArray a.tmps):=by
   have h1:=List.all_eq_true.1 hgd i (List.mem_range.2 hi)
   rw [ho] at h1
   unfold bL
   cases hg:o.guard with
   |none=>rfl
   |some gw =>
    obtain ⟨g,want⟩:=gw
    simp only [hg] at h1
    simp only [BR (l:=l) (by simpa using h1)]
  rw [hw] at h
  have hmem:o∈l:=by
   have:l[i]?=some o:=by simpa using ho
   exact List.mem_of_getElem? this
  split
  ·rename_i hw2
   rw [if_pos hw2] at h
   rcases h with h | ⟨_,h2⟩
   ·exact Db.op (NO (List.all_eq_true.1 hnd o hmem)) (fun _ _ _ h=>h.elim) (fun _ _ h=>h.elim) (fun _ _ h=>h) h
   ·obtain ⟨_,_,h2⟩:=h2;exact h2.elim
  ·rename_i hw2
   rw [if_neg hw2] at h;exact⟨fun _ _=>trivial,h⟩
theorem BS {ops:Array Oper}:∀ (f:Nat) (listed:Array Bool) (a:Act) (w:ag),wpAnyIn au 0 P md ops Q f listed a w→wpAnyIn au 0 P md ops Q (f+1) listed a w
 |0,listed,a,w,h=>⟨fun _=>h.2,fun i hi=>(by rw [h.1] at hi;cases hi)⟩
 |f+1,listed,a,w,h=>⟨h.1,fun i hi=>wpOpIn_mono (fun a' w' h'=>BS f _ a' w' h') (h.2 i hi)⟩
theorem PH {ops:Array Oper} (f:Nat) (listed:Array Bool) (a:Act) (w:ag) (g:Nat) (h:wpAnyIn au 0 P md ops Q g listed a w):wpAnyIn au 0 P md ops Q (f+g) listed a w:=by
 induction f with
 |zero=>rw [aN];exact h
 |succ f ih=>rw [show f+1+g=(f+g)+1 by omega];exact BS _ _ _ _ ih
theorem GN:∀ (l:List Oper) (k:Nat) (listed:Array Bool) (a:Act) (w:ag),(∀ j,l[j]?=ops[k+j]?) →
  bT md ops l.length k listed=true→wpListIn au 0 P ops Q l a w→wpAnyIn au 0 P md ops Q l.length listed a w
 |[],_,_,_,_,_,hB,h=>⟨by simpa [bT] using hB,h⟩
 |o::l,k,listed,a,w,hl,hB,h=>by
  have h0:ops[k]?=some o:=by simpa using (hl 0).symm
  simp only [ar,bT,bZ,decide_eq_true_eq] at hB
  refine⟨fun h1=>(by rw [hB.1] at h1;cases h1),fun i hi=>?_⟩
  rw [hB.1] at hi
  have hik:i=k:=by simpa using hi
  subst hik
  have hw:wpOpIn au 0 P ops Q i (wpListIn au 0 P ops Q l) a w:=by unfold wpOpIn;simp only [h0];exact h
  exact wpOpIn_mono (fun a' w' h'=>GN l (i+1) _ a' w' (fun j=>by have:=hl (j+1);simpa [Nat.add_assoc,Nat.add_comm 1 j] using this) hB.2 h') hw
theorem PG {l:List Oper} {n:Nat} (hn:n<l.length) (hs:Region.sinkB md l.toArray n=true) (hc:Region.chainB md l.toArray n=true) (ho:KW md l.toArray n=true)
  (hgd:By l.toArray n=true) (hseq:bT md l.toArray (l.length - n) n (Z4 n l.length)=true) (hnd:Wd l=true) :
  ∀ (f:Nat) (lh la:Array Bool) (a:Act) (w:ag),HeadInv md l.toArray n la→lh.size=n→(∀ i,i<n→la.getD i true=lh.getD i true) →
   wpAny P md (l.take n).toArray (Xl (fun a w=>wpListIn au 0 P l.toArray Q (l.drop n) a w)) f lh a w→wpAnyIn au 0 P md l.toArray Q (f+(l.length - n)) la a w:=by
 have fin:∀ (f:Nat) (lh la:Array Bool) (a:Act) (w:ag),HeadInv md l.toArray n la→lh.size=n→(∀ i,i<n→la.getD i true=lh.getD i true) →
   eT md (l.take n).toArray lh=[]→wpListIn au 0 P l.toArray Q (l.drop n) a w→wpAnyIn au 0 P md l.toArray Q (f+(l.length - n)) la a w:=by
  intro f lh la a w inv hsz hrel hr h
  have hall:∀ i,i<n→lh.getD i true=true:=by
   intro i hi
   cases hv:lh.getD i true with
   |true=>rfl
   |false=>exact absurd hr (WW hn hs hc ho inv hsz hrel hi hv).2
  have hla:la=Z4 n l.length:=by
   refine EP (by simpa using inv.size) (fun i hi hi2=>?_) (fun i hi hi2=>?_)
   ·have h1:=(hrel i hi).trans (hall i hi)
    have h2:i<la.size:=by rw [inv.size];simpa using hi2
    simp [h2] at h1 ⊢;exact h1
   ·exact getD_both (inv.tail i hi (by simpa using hi2))
  subst hla
  refine PH f _ _ _ _ ?_
  have:=GN (P:=P) (Q:=Q) (md:=md) (ops:=l.toArray) (l.drop n) n (Z4 n l.length) a w (fun j=>by simp [List.getElem?_drop]) (by simpa using hseq) h
  simpa using this
 intro f
 induction f with
 |zero=>intro lh la a w inv hsz hrel h;exact fin 0 lh la a w inv hsz hrel h.1 h.2
 |succ f ih =>
  intro lh la a w inv hsz hrel h
  by_cases hr:eT md (l.take n).toArray lh=[]
  ·exact fin (f+1) lh la a w inv hsz hrel hr (h.1 hr)
  ·obtain ⟨k,hk⟩:=List.exists_mem_of_ne_nil _ hr
   have hk2:=(mem_ready.1 hk)
   have hkn:k<n:=by
    obtain ⟨_,o,ho',_⟩:=hk2
    have:=(Array.getElem?_eq_some_iff.1 ho').1
    simp at this;omega
   have hiff:=(WW hn hs hc ho inv hsz hrel hkn hk2.1).1
   rw [show f+1+(l.length - n)=(f+(l.length - n))+1 by omega]
   refine⟨fun h0=>absurd ((hiff k).2 hk) (by rw [h0];simp),fun i hi=>?_⟩
   have hi':=(hiff i).1 hi
   have hin:i<n:=by
    obtain ⟨_,o,ho',_⟩:=mem_ready.1 hi'
    have:=(Array.getElem?_eq_some_iff.1 ho').1
    simp at this;omega
   have h2:=Ux (Q:=Q) hin hgd hnd (h.2 i hi')
   refine wpOpIn_mono (fun a' w' h3=>ih _ _ a' w' (inv.set hi hin) (by simpa using hsz) (fun j hj=>?_) h3) h2
   by_cases hij:i=j
   ·subst hij
    have h1:i<la.size:=by rw [inv.size];simp;omega
    have h2:i<lh.size:=by omega
    simp [h1,h2]
   ·rw [getD_set_ne true hij,getD_set_ne true hij];exact hrel j hj
theorem Sq {id:Nat} {l:List Oper} {bs0:List (Nat×Obj)} (n:Nat) (hb0:bs0.Sublist bs) (hm:P.follows .mixedOrders=true) (hB:H6 l n=true) (hB2:lexB .any (l.take n)=true) (hnd:Wd l=true)
  (h:JD P (l.take n).toArray (Xl (fun a w=>wpListIn au 0 P l.toArray Q (l.drop n) a w)) ⟨w0,F0,bs0,G⟩ (l.take n) N m ⟨w0,F0,bs,G⟩):J P (.region id l.toArray true) Q N m ⟨w0,F0,bs,G⟩:=fun a w ha hw=>by
 have h1:=h (fun _ h=>h.imp hb0 fun _ h=>h) a _ ha hw.drew
 have h2:=Vx (P:=P) (S:=St ⟨w0,F0,bs0,G⟩) hB2 (fun c a w h=>h) (hw.drew.imp hb0 fun _ h=>h) h1
 simp only [H6,bZ,decide_eq_true_eq] at hB
 obtain ⟨⟨⟨⟨⟨hn,hs⟩,hc⟩,ho⟩,hg⟩,hseq⟩:=hB
 refine(wpIn_wide (n:=0)).1 (wpIn_region_any hm ?_)
 have inv0:HeadInv .any l.toArray n (cb l.toArray.size false) :=
  ⟨by simp,fun j oj _ hl=>(by rw [getD_replicate_false] at hl;cases hl),fun t _ ht=>getD_in (by simpa using ht) (getD_replicate_false _ _)⟩
 have e:(l.take n).length=n:=by simp;omega
 rw [e] at h2
 have:=PG (P:=P) (md:=.any) (Q:=Q) hn hs hc ho hg hseq hnd n (cb n false) (cb l.toArray.size false) a { w with drawn:=w.drawn+1 } inv0 (by simp)
  (fun i hi=>by
   have h1:i<l.length:=(by omega)
   simp [hi,h1]) h2
 rw [show n+(l.length - n)=l.toArray.size by simp;omega] at this
 exact this
end
end
section
variable [Dr] {P:aS} {Q:Exit→Act→ag→Prop} {N:Nat} {m:Sl} {w0:ag} {F0:Gs} {bs:List (Nat×Obj)} {G:Gs→Prop}
@[reducible] def BD (D:Nat):Df:=⟨[{ target:=.collected D,args:=#[] }]⟩
structure Co (N:Nat) (m:Sl) (ps:Array Tmp) (assign body:Code) (r:Loop):Prop where
 state:r.state = .ready
 QBC:r.pending=none
 params:r.params=ps
 assign:r.assign=assign
 body:r.body=body
 gq:Jx (df:=VJ) N m { tmps:=r.tmps,defers:=[] }
theorem UX {g:bF} {ps:Array Tmp} {assign body:Code} {gf:Nat} {lb:Array aF} {ι:Type} (B:ι→List (Nat×Obj)) (R:ι→Gs→Prop) (Dn:ι→Prop) (hg:ev m g=some (.func (.func gf) #[] lb)) (he:Enters P gf)
  (hcall:∀ (L D:Nat) (r:Loop) (w:ag),Co N m ps assign body r→St ⟨w0,F0,(L,.loop r)::(D,.deferred (some []))::bs,G⟩ w →
   Calls P gf (#[.func (.yield L) #[] #[]]++lb) w fun e w'=>(∃ v,e = .returned v)∧∃ s,Dn s∧St ⟨w0,F0,(L,.loop r)::(D,.deferred (some []))::B s,fun F=>G F∧R s F⟩ w')
  (k:∀ D s,Dn s→Fin (df:=BD D) Q .normal N m ⟨w0,F0,(D,.deferred (some []))::B s,fun F=>G F∧R s F⟩):J (df:=VJ) P (.rangeFunc g ps assign body) Q N m ⟨w0,F0,bs,G⟩:=fun a w ha hw=>by
 refine(wpIn_wide (n:=0)).1 (wpIn_rangeFunc fun fn _=>?_)
 obtain ⟨r,hr⟩:∃ r:Loop,r={ state:=.ready,pending:=none,fn,tmps:=a.tmps,params:=ps,assign,body,defers:=w.heap.size }:=⟨_,rfl⟩
 have hs1:St ⟨w0,F0,(w.heap.size+1,.loop r)::(w.heap.size,.deferred (some []))::bs,G⟩ ((w.alloc (.deferred (some []))).alloc (.loop r)):=by
  have h1:=hw.alloc (.deferred (some [])) (fun c fr e=>by cases e)
  have h2:=h1.alloc (.loop r) (fun c fr e=>by cases e)
  rwa [World.size_alloc] at h2
 have hd:a.defers=[]:=ha.df
 refine⟨w.heap.size+1,[{ target:=.collected w.heap.size,args:=#[] }],(w.alloc (.deferred (some []))).alloc (.loop r),{ target:=.fn (.func gf) lb,args:=#[.func (.yield (w.heap.size+1)) #[] #[]] },(w.alloc (.deferred (some []))).alloc (.loop r),gf,
  #[.func (.yield (w.heap.size+1)) #[] #[]]++lb,(w.alloc (.deferred (some []))).alloc (.loop r),?_,?_,fun _ _=>trivial,?_,fun e=>(by cases e),?_⟩
 ·rw [hr];exact run_enterLoop_outer _ _ _ _ _
 ·simp only [resolve,ha.ev hg]
  simp [go_sem]
 ·simpa [invoke,go_sem] using he _ _
 ·refine(callsIn_wide.2 (hcall _ _ r _ ⟨by rw [hr],by rw [hr],by rw [hr],by rw [hr],by rw [hr],⟨by rw [hr];exact ha.size,rfl,by rw [hr];exact ha.get⟩⟩ hs1)).mono ?_
  rintro e w' ⟨⟨v,rfl⟩,s,hdn,hs⟩
  have hl:w'.heap[w.heap.size+1]?=some (.loop r):=hs.own .here
  refine⟨none,w'.putObj (w.heap.size+1) (.loop { r with state:=.exhausted }),?_,k w.heap.size s hdn _ _ (Jx.mk (df:=BD w.heap.size) (Jx.size (df:=VJ) (a:=a) ha) ?_ (fun t v h=>Jx.get (df:=VJ) (a:=a) ha t v h)) ?_⟩
  ·rw [run_endLoop hl (by rw [hr];intro e;cases e)]
   rw [hr]
  ·show _++a.defers=_
   rw [hd];rfl
  ·exact(hs.put (.loop { r with state:=.exhausted }) .here (fun c fr e=>by cases e)).imp (.cons _ wG) fun _ h=>h
theorem pR {c:Code} (h:∀ G':Gs→Prop,(∀ F,G' F→G F)→J (df:=VJ) P c Q N m ⟨w0,F0,bs,G'⟩):J (df:=VJ) P c Q N m ⟨w0,F0,bs,G⟩:=h G fun _ h=>h
theorem QT.yv {f:FuncId} {fn:Func} {c:Code} {args:List aF} {w:ag} {F:Gs} {γ:Type} {val:γ→aF} {fact:γ→Gs→Prop} {G:Gs→Prop} (hf:P.funcs[f]?=some fn) (hb:fn.body=some c) (hn:(fn.name == "runtime.NumGoroutine")=false) (hN:fn.ntmps=N) (hl:Nat.ble args.length N=true)
  (hw:Fits F w) (hg:∀ F',Gs.le F F'→G F') (h:J (df:=VJ) P c (bodyPostM au 0 P fn (DR w F val fact)) N (Nx 0 args) ⟨w,F,[],G⟩):QT P f args w F val fact:=by
 refine⟨enters_of hf hn (by rw [hb];rfl),callsIn_wide.1 (callsIn_of_wp_marks hf hb trivial (wpIn_wide.2 (h _ w ⟨?_,rfl,fun t v ht=>?_⟩ (St.start hw hg))))⟩
 ·have:=Nat.le_of_ble_eq_true hl
  simp [hN];omega
 ·obtain ⟨_,h2⟩:=We args 0 t v ht
  have hlt:t<args.length:=by rcases bg t args.length with g | g;exact g;rw [eB,aY g] at h2;cases h2
  simp only [eB] at h2
  rw [bh,if_pos (by simpa using hlt)]
  simpa using h2
theorem Cs {fn:Func} {R:Ending→ag→Prop} {E:Env} (h:Fin (df:=VJ) (bodyPost P fn R) .ret N m E):Fin (df:=VJ) (bodyPostM au 0 P fn R) .ret N m E:=fun a w ha hw=>by
 obtain ⟨h1,v,h2,h3⟩:=h a w ha hw
 show LeavesInM au 0 P fn a.tmps R a.defers .returning w
 rw [h1]
 exact⟨v,h2,h3⟩
theorem kb {fn:Func} {R:Ending→ag→Prop} {D:Nat} {f:Obj→List (Nat×Obj)} (ho:Own bs D (.deferred (some [])) f) (h:Fin (df:=VJ) (bodyPost P fn R) .ret N m ⟨w0,F0,f (.deferred none),G⟩):Fin (df:=BD D) (bodyPostM au 0 P fn R) .ret N m ⟨w0,F0,bs,G⟩:=fun a w ha hw=>by
 have h1:=h { tmps:=a.tmps,defers:=[] } _ (Jx.mk (df:=VJ) (Jx.size (df:=BD D) (a:=a) ha) rfl (fun t v h=>Jx.get (df:=BD D) (a:=a) ha t v h)) (hw.put (.deferred none) ho (fun c fr e=>by cases e))
 obtain ⟨_,v,h2,h3⟩:=h1
 show LeavesInM au 0 P fn a.tmps R a.defers .returning w
 rw [show a.defers=[{ target:=.collected D,args:=#[] }] from Jx.df (df:=BD D) ha]
 exact⟨fun e=>(by cases e),.inl ⟨D,_,rfl,run_takeDeferred (hw.own ho),v,h2,h3⟩⟩
end
abbrev xI (n:Nat):={ l:List Int // l.length=n }
def VW {n:Nat} (x:xI n):aF:=.agg (x.1.map Qy).toArray
theorem j7 {a b:List Int} {n:Nat} (ha:a.length=n) (hb:b.length=n):((aL n).all fun j=>Qa a j==Qa b j)=decide (a=b):=by
 rw [eQ,decide_eq_true_iff,eL]
 constructor
 ·intro h
  apply bX (by omega)
  intro i h1 h2
  have:=h i (List.mem_range.2 (by omega))
  simpa [Qa,h1,h2] using this
 ·intro h j _;rw [h];simp
section
variable {P:aS} {e:aK}
theorem NI (he:P.underlying e=some (.int .i64)) (w:ag) {xs:List Int} {j:Nat} (h:j<xs.length):(part e (xs.map Qy).toArray j).run P w = .ok (Qy (Qa xs j)) w:=by
 have e1:(xs.map Qy).toArray[j]?=some (Qy (Qa xs j)):=by simp [h,Qa]
 simp [part,isAgg,run_underlying he,e1]
theorem eqItems_ints (he:P.underlying e=some (.int .i64)) (w:ag) (d:Nat) {xs ys:List Int}:∀ (is:List Nat),(∀ j∈is,j<xs.length∧j<ys.length) →
  (eN (d+1) e 1 (xs.map Qy).toArray (ys.map Qy).toArray is).run P w = .ok (is.all fun j=>Qa xs j==Qa ys j) w
 |[],_=>by simp [eN]
 |j::is,h=>by
  have h1:=h j (by simp)
  simp only [eN,aV,fc,NI he w h1.1,NI he w h1.2,aI]
  rw [show Qy (Qa xs j) = .int .i64 (Qa xs j) from rfl,show Qy (Qa ys j) = .int .i64 (Qa ys j) from rfl,run_equalIn_int w d e .i64 .i64 _ _ he]
  simp only [aI,eW]
  cases Qa xs j==Qa ys j
  ·simp
  ·simpa using eqItems_ints he w d is fun j hj=>h j (by simp [hj])
theorem equal_arr {kt:aK} {n:Nat} (hu:P.underlying kt=some (.array n e)) (he:P.underlying e=some (.int .i64)) (hc:P.cellsOf e=1) (w:ag) (a b:xI n):(eX kt (VW a) (VW b)).run P w = .ok (decide (a=b)) w:=by
 obtain ⟨i,hi⟩:=info_of_underlying he
 unfold VW
 show(eM (9999+1) kt _ _).run P w=_
 rw [run_equalIn_array w 9999 _ _ hu hi,hc,eqItems_ints he w 9998 _ (fun j hj=>⟨by rw [a.2];exact List.mem_range.1 hj,by rw [b.2];exact List.mem_range.1 hj⟩),j7 a.2 b.2]
 congr 1
 simp [Subtype.ext_iff]
theorem ES {kt:aK} {n:Nat} (hu:P.underlying kt=some (.array n e)) (he:P.underlying e=some (.int .i64)) (hc:P.cellsOf e=1) (w:ag) (k:xI n):∀ (l:List (xI n×aF)) (m i:Nat),
  (bU kt (VW k) (XP VW l m) i).run P w = .ok (Z6 l k i) w
 |[],_,_=>by simp [XP,bU,Z6]
 |x::l,m,i=>by
  simp only [XP,bU,aV,equal_arr hu he hc,aI,Z6]
  by_cases h:k=x.1
  ·simp [h]
  ·simp [h,ES hu he hc w k l]
theorem LD {kt:aK} {n:Nat} (hu:P.underlying kt=some (.array n e)) (he:P.underlying e=some (.int .i64)) (hc:P.cellsOf e=1) (em:Bool) (w:ag) (k:xI n):(ee em 10000 kt (VW k)).run P w = .ok () w:=by
 obtain ⟨i,hi⟩:=info_of_underlying he
 rw [show 10000=9999+1 from rfl,ee]
 unfold VW
 simp only [aV,run_underlying hu,aI]
 simp only [Std.Legacy.Range.forIn_eq_forIn_range',Std.Legacy.Range.size,eB,Nat.add_one_sub_one,Nat.div_one]
 have hj:∀ j∈e8 0 n,j<k.1.length:=fun j hj=>by rw [k.2];simpa using hj
 generalize e8 0 n=is at hj
 induction is with
 |nil=>simp
 |cons j is ih =>
  have p2:(ee em 9999 e (Qy (Qa k.1 j))).run P w = .ok () w:=MapKept.run_checkKey he (by simp [MapKept.IsKey,Qy]) em 9998
  simp only [List.forIn_cons,aV,run_sizeOf w hi,aI,hc,fc,NI he w (hj j (by simp)),p2,eD]
  exact ih fun j hj'=>hj j (by simp [hj'])
theorem OI {n:Nat} (k:xI n):bJ 10000 (VW k) (VW k)=true:=by
 unfold VW
 rw [show 10000=9999+1 from rfl,bJ]
 simp only [beq_self_eq_true,Bool.true_and,eL]
 intro x hx
 obtain ⟨l,hl⟩:=k
 simp only at hx
 have:∀ (l:List Int) (x:aF×aF),x∈(l.map Qy).zip (l.map Qy)→bJ 9999 x.1 x.2=true:=by
  intro l
  induction l with
  |nil=>intro x hx;cases hx
  |cons a l ih =>
   intro x hx
   rw [aC,List.zip_cons_cons] at hx
   rcases List.mem_cons.1 hx with rfl | hx
   ·simp [Qy,bJ]
   ·exact ih x hx
 exact this l x hx
theorem Sn.arr {kt:aK} {n:Nat} (hu:P.underlying kt=some (.array n e)) (he:P.underlying e=some (.int .i64)) (hc:P.cellsOf e=1):Sn P kt (VW (n:=n)) where
 gC:=fun em w k=>LD hu he hc em w k
 find:=fun w k l=>by
  cases l with
  |nil=>simp [eU,run_underlying hu,XP,ep,Z6]
  |cons x l =>
   have:ep (.array n e) (VW k) (XP VW (x::l) 0) 0=none:=by simp [XP,ep,Instr.sameNow]
   simp only [eU,aV,run_underlying hu,aI,this]
   exact ES hu he hc w k (x::l) 0 0
 same:=OI
theorem equal_txs {t:aK} {f1 f2:Field} (ht:P.underlying t=some (.struct (P.fieldsOf t))) (hp:P.stoodInHeld t=false) (hf:(P.fieldsOf t).toList=[f1,f2]) (h1:f1.name ≠ "_" ∧ f1.offset=0∧P.underlying f1.type=some .string) (h2:f2.name ≠ "_" ∧ f2.offset=1∧P.underlying f2.type=some .string) (w:ag) (a b c d:List UInt8) :
  (eX t (.agg #[tx a,tx b]) (.agg #[tx c,tx d])).run P w = .ok (decide (a=c)&&decide (b=d)) w:=by
 have hs:∀ (f:aK),P.underlying f=some .string→∀ x y:List UInt8,(eM 9999 f (tx x) (tx y)).run P w = .ok (decide (x=y)) w:=fun f hf x y=>by
  rw [show(9999:Nat)=9998+1 from rfl,show tx x = .string ⟨x.toArray⟩ from rfl,show tx y = .string ⟨y.toArray⟩ from rfl,run_equalIn_string w 9998 f _ _ hf]
  congr 1
  rw [eu,eu,eQ]
  simp
 show(eM (9999+1) t _ _).run P w=_
 rw [run_equalIn_struct w 9999 t _ _ ht hp,hf]
 have p1:∀ x y:List UInt8,(part f1.type #[tx x,tx y] 0).run P w = .ok (tx x) w:=fun x y=>by simp [part,isAgg,run_underlying h1.2.2]
 have p2:∀ x y:List UInt8,(part f2.type #[tx x,tx y] 1).run P w = .ok (tx y) w:=fun x y=>by simp [part,isAgg,run_underlying h2.2.2]
 simp only [Op.eqFields,h1.1,h2.1,h1.2.1,h2.2.1,ne_eq,not_false_eq_true,if_true,aV,p1,p2,hs f1.type h1.2.2,hs f2.type h2.2.2,aI]
 by_cases e1:a=c<;>by_cases e2:b=d<;>simp [e1,e2,p2,hs f2.type h2.2.2]
end
def vR (P:aS) (T:aK):Option (Nat×aK):=match P.underlying T with | some (.array n e)=>some (n,e) | _=>none
theorem qO {P:aS} {T e:aK} {n:Nat} (h:vR P T=some (n,e)):P.underlying T=some (.array n e):=by
 unfold vR at h
 split at h
 ·rename_i hu;cases h;exact hu
 ·cases h
section
variable [Dr] [df:Df] {P:aS} {N:Nat} {m:Sl} {S:ag→Prop} {ty:aK}
theorem EI {T e:aK} {x y:bF} {b off n sz i:Nat} {g:Bool} (hx:ev m x=some (.pointer (some ⟨b,off,none⟩))) (hy:ev m y=some (.int .i64 (i:Int))) (hT:vR P T=some (n,e)) (hs:YJ P e=some (g,sz)) (hi:i<n):Qt P N m S (.indexAddr T x y) ty (.pointer (some ⟨b,off+i*sz,none⟩)):=fun a w _ _ _ _ ha _=>by
 simp [execOp,ha.ev hx,ha.ev hy,Instr.indexAt,asIntOf,eP,run_underlying (qO hT),Z2 hs,hi,Kt]
theorem AL {T e:aK} {x y:bF} {b n sz h:Nat} {g:Bool} (hx:ev m x=some (.pointer (some ⟨b,0,none⟩))) (hy:ev m y=some (.int .i64 (h:Int))) (hT:vR P T=some (n,e)) (hs:YJ P e=some (g,sz)) (hh:h≤n):Qt P N m S (.slice T x none (some y) none) ty (.slice (some ⟨b,0,none⟩) h n):=fun a w _ _ _ _ ha _=>by
 simp [execOp,ha.ev hx,ha.ev hy,Instr.sliceAt,asIntOf,eP,Instr.sliceBounds,Instr.sliceBound,run_underlying (qO hT),Z2 hs,hh,Kt]
end
theorem Ch:vR Tryz.prog 160=some (25,3):=by kernel_rfl
def YM (l:List Int):xI 25:=⟨(aL 25).map (Qa l),by simp⟩
def Ht (a b:List Int) (i:Nat):List Int:=(aL 25).map fun j=>if j<i then Qa a j+Qa b j else 0
theorem Ir {a b:List Int} {i:Nat} (h:i<25):(Ht a b i).set i (Qa a i+Qa b i)=Ht a b (i+1):=by
 unfold Ht
 apply bX (by simp)
 intro j h1 h2
 simp only [aW,ah,bD] at h1
 rw [List.getElem_set]
 simp only [eK,List.getElem_range]
 split
 ·rename_i e;subst e;simp
 ·rename_i e
  by_cases g:j<i
  ·simp [g,show j<i+1 by omega]
  ·simp [g,show ¬ j<i+1 by omega]
theorem Is {a b:List Int} {n:Nat} (ha:a.length=n) (hb:b.length=n):Ht a b n=(YM (J4 a b)).1:=by
 unfold Ht YM
 apply List.map_congr_left
 intro j hj
 split
 ·rename_i g
  simp [Qa,J4,ha,hb,g]
 ·rename_i g
  simp [Qa,J4,ha,hb,g]
theorem qx {a b:List Int} {i:Nat} (h:i<25):Yt ((Ht a b i).map Qy) (0+i*1) [.int .i64 (Qa a i+Qa b i)] ((Ht a b (i+1)).map Qy):=by
 have h1:=Yt.gr (l:=(Ht a b i).map Qy) (n:=0+i*1) (.int .i64 (Qa a i+Qa b i)) (by simp [Ht];omega)
 rw [← Ir h,List.map_set]
 simpa [Qy] using h1
structure PoI {ι:Type} (pos:ι→Nat) (n m:Nat) where
 i:Nat
 s:ι
 le:i≤n
 hp:pos s=i*m
structure PoJ {ι:Type} (pos:ι→Nat) (n m i:Nat) where
 j:Nat
 s:ι
 le:j≤m
 hp:pos s=i*m+j
structure PoK (n:Nat) where
 k:Nat
 le:k≤n
theorem TS {ι:Type} {w0:ag} {F0:Gs} {B:ι→List (Nat×Obj)} {H:ι→Gs→Prop} {pos:ι→Nat} {p q:W9} {b1 b2 L n:Nat}
  (hH:∀ s F,H s F→F b1=some (#[p.1.v],157)∧F b2=some (#[q.1.v],157)∧Jr F p.1 p.2 (JG p.2)∧Jr F q.1 q.2 (JG q.2)) (hPn:p.2.length=p.1.n∧q.2.length=q.1.n)
  (hw:(∀ t∈p.2,t.t.2.length=n∧t.r.n=n∧PW t.t.2)∧∀ t∈q.2,t.t.2.length=n∧t.r.n=n∧PW t.t.2) (hn:n≤25) (hl:p.2.length≤1000000∧q.2.length≤1000000) (hz:(∀ t∈p.2,JL t.t.1≤20000000)∧∀ t∈q.2,JL t.t.1≤20000000)
  (hround:∀ (G:Gs→Prop) (C:List (Nat×Obj)) (s:ι) (i j:Nat) (x:Fr) (W:ag),i<p.2.length→j<q.2.length→pos s=i*q.2.length+j →
   St ⟨w0,F0,B s++C,fun F=>(G F∧H s F)∧JY F x ((el p.2 i).t.1*(el q.2 j).t.1)⟩ W→YieldAt au 0 Tryz.prog L #[VW (YM (J4 (el p.2 i).t.2 (el q.2 j).t.2)),x.v] W fun e W'=>e = .returned (.bool true)∧∃ s',pos s'=pos s+1∧St ⟨w0,F0,B s'++C,fun F=>G F∧H s' F⟩ W')
  (s0:ι) (h0:pos s0=0) :
  XD Tryz.prog 209 [.func (.yield L) #[] #[],.pointer (some ⟨b1,0,none⟩),.pointer (some ⟨b2,0,none⟩)] ⟨w0,F0,B s0,H s0⟩ (fun(_:{ s:ι // pos s=p.2.length*q.2.length })=>.tuple #[]) (fun s=>⟨w0,F0,B s.1,H s.1⟩):=by
 have hpn:p.2.length=p.1.n:=hPn.1
 have hqn:q.2.length=q.1.n:=hPn.2
 refine XD.intro Tryz.func209 rfl (by rfl) rfl rfl<|wE<|QA (ND (c:=#[p.1.v]) (T':=157) rfl WS (fun F hs0=>(hH _ _ hs0).1) rfl)<|QA (Qj rfl J6)<|wA rfl<|wC<|QX<|Jz (ι:=PoI pos p.2.length q.2.length) [(0,_),(2,_),(10,_),(11,_)] (fun i=>[(12,.int .i64 ((i.i:Nat):Int))]) (fun i=>B i.s) (fun i F=>H i.s F) (fun i=>p.2.length - i.i) (⟨0,s0,ai _,by rw [h0,ez]⟩) wN wK wG (fun _ h=>h) (fun i=>?_)
 simp only [ae,ab]
 have hi:=i.le
 refine wE<|QA (QU rfl rfl rfl)<|wC<|QG ?_
 refine QQ rfl (fun hc=>?_) (fun hc=>?_)
 ·
  have hlt:i.i<p.2.length:=by have:=wI hc;omega
  have hta:=JK hlt
  obtain ⟨hna,hra,hpa⟩:=hw.1 _ hta
  have hza:=hz.1 _ hta
  refine QO<|QC<|QG<|QX<|wE<|QA (JH (n:=p.1.n) (i.i) (fun F h9=>(hH _ _ h9.1).2.2.1.1) rfl rfl J6 Je (by omega))<|QA (Xd (n:=p.1.n) (vs:=[.int .i64 (el p.2 (i.i)).x.n.s,.slice (el p.2 (i.i)).x.n.q (el p.2 (i.i)).x.n.n (el p.2 (i.i)).x.n.cap,.int .i64 (el p.2 (i.i)).x.d.s,.slice (el p.2 (i.i)).x.d.q (el p.2 (i.i)).x.d.n (el p.2 (i.i)).x.d.cap,.slice (el p.2 (i.i)).r.q (el p.2 (i.i)).r.n (el p.2 (i.i)).r.cap]) ((i.i)*5) (fun F h9=>(hH _ _ h9.1).2.2.1.1) (by omega) rfl Je rfl (fun j v hv=>Jy (f:=Ym) (l:=p.2) YP (by omega) hv))<|Qg Zl (fun b5=>QR (vs:=[_,_,_,_,_]) rfl rfl rfl Je rfl .here .h5 wO<|wC<|wE<|QA (ND (c:=#[q.1.v]) (T':=157) rfl WS (fun F h9=>(hH _ _ h9.1).2.1) rfl)<|QA (Qj rfl J6)<|wA rfl<|wC<|QX<|Jz (ι:=PoJ pos p.2.length q.2.length i.i) [(0,_),(2,_),(5,_),(10,_),(11,_),(12,_),(16,_),(17,_)] (fun i2=>[(18,.int .i64 ((i2.j:Nat):Int))]) (fun i2=>(b5,.cells (Ym (el p.2 i.i)).toArray 165 (0,0))::B i2.s) (fun i2 F=>H i2.s F) (fun i2=>q.2.length - i2.j) (⟨0,i.s,ai _,by rw [i.hp,Nat.add_zero]⟩) wR wK wG (fun _ h=>h.2) (fun i2=>?_))
  simp only [ae,ab]
  have hj:=i2.le
  refine wE<|QA (QU rfl rfl rfl)<|wC<|QG ?_
  refine QQ rfl (fun hc=>?_) (fun hc=>?_)
  ·
   have hlt2:i2.j<q.2.length:=by have:=wI hc;omega
   have htb:=JK hlt2
   obtain ⟨hnb,hrb,hpb⟩:=hw.2 _ htb
   have hzb:=hz.2 _ htb
   refine QO<|QC<|QG<|QX<|wE<|QA (JH (n:=q.1.n) (i2.j) (fun F h9=>(hH _ _ h9.1.1).2.2.2.1) rfl rfl J6 Je (by omega))<|QA (Xd (n:=q.1.n) (vs:=[.int .i64 (el q.2 (i2.j)).x.n.s,.slice (el q.2 (i2.j)).x.n.q (el q.2 (i2.j)).x.n.n (el q.2 (i2.j)).x.n.cap,.int .i64 (el q.2 (i2.j)).x.d.s,.slice (el q.2 (i2.j)).x.d.q (el q.2 (i2.j)).x.d.n (el q.2 (i2.j)).x.d.cap,.slice (el q.2 (i2.j)).r.q (el q.2 (i2.j)).r.n (el q.2 (i2.j)).r.cap]) ((i2.j)*5) (fun F h9=>(hH _ _ h9.1.1).2.2.2.1) (by omega) rfl Je rfl (fun j v hv=>Jy (f:=Ym) (l:=q.2) YP (by omega) hv))<|Qg Zl (fun b7=>QR (vs:=[_,_,_,_,_]) rfl rfl rfl Je rfl .here .h5 wO<|wC<|wE<|Qg FF (fun b8=>wC<|QG<|wE<|QA (QI rfl X8 Qv)<|QA (Qm rfl Qv .u2 (.skip (.skip (.skip (.skip .h1)))))<|QA (Qj rfl Qf)<|wA rfl<|QE ?_))
   refine QC<|QX<|Jz (ι:=PoK n) [(0,_),(2,_),(5,_),(7,_),(8,_),(10,_),(11,_),(12,_),(16,_),(17,_),(18,_),(24,_)] (fun i3=>[(25,.int .i64 ((i3.k:Nat):Int))]) (fun i3=>(b8,.cells ((Ht (el p.2 i.i).t.2 (el q.2 i2.j).t.2 i3.k).map Qy).toArray 160 (0,0))::(b7,.cells (Ym (el q.2 i2.j)).toArray 165 (0,0))::(b5,.cells (Ym (el p.2 i.i)).toArray 165 (0,0))::B i2.s) (fun i3 F=>True) (fun i3=>n - i3.k) (⟨0,ai _⟩) wV wK wG (fun _ _=>trivial) (fun i3=>?_)
   simp only [ae,ab]
   have hk:=i3.le
   refine wE<|QA (QU rfl rfl rfl)<|wC<|QG ?_
   refine QQ rfl (fun hc=>?_) (fun hc=>?_)
   ·
    have hlt3:i3.k<n:=by have:=wI hc;omega
    have hka:=hpa.el (show i3.k<(el p.2 i.i).t.2.length by omega)
    have hkb:=hpb.el (show i3.k<(el q.2 i2.j).t.2.length by omega)
    refine QO<|QC<|QG<|QX<|wF rfl<|wD rfl<|Xr 13 wG mixed (by kernel_rfl) (by kernel_rfl) ?_
    simp only [bM,bK,bO,ef]
    refine QK (QD rfl)<|QK (QI rfl X8 Qv)<|QK (Qm rfl Qv .u2 (.skip (.skip (.skip (.skip .h1)))))<|QK (QD rfl)<|QK (JH (n:=(el p.2 i.i).r.n) (i3.k) (fun F h9=>(((hH _ _ h9.1.1.1).2.2.1.2.1 _ hta).2).1) rfl rfl Qf Qp (by omega))<|QK (JQ (n:=(el p.2 i.i).r.n) ((i3.k)*1) (fun F h9=>(((hH _ _ h9.1.1.1).2.2.1.2.1 _ hta).2).1) (by omega) rfl Qp (JJ (o:=(el p.2 i.i).t.2) (by omega)))<|QK (QI rfl X8 Qv)<|QK (Qm rfl Qv .u1 (.skip (.skip (.skip (.skip .h1)))))<|QK (QD rfl)<|QK (JH (n:=(el q.2 i2.j).r.n) (i3.k) (fun F h9=>(((hH _ _ h9.1.1.1).2.2.2.2.1 _ htb).2).1) rfl rfl Qf Qp (by omega))<|QK (JQ (n:=(el q.2 i2.j).r.n) ((i3.k)*1) (fun F h9=>(((hH _ _ h9.1.1.1).2.2.2.2.1 _ htb).2).1) (by omega) rfl Qp (JJ (o:=(el q.2 i2.j).t.2) (by omega)))<|QK (Qs rfl rfl (by omega))<|QK (EI (i:=i3.k) rfl rfl Ch Qp (by omega))<|VF<|QR (vs:=[_]) rfl rfl rfl Qp rfl .here (qx (by omega)) wK<|QE<|Qk<|QC<|QB<|QA (Qs rfl rfl (by omega))<|wA rfl<|QE ?_
    exact Qo (⟨i3.k+1,hlt3⟩) (by show n - (i3.k+1)<n - i3.k;omega) ⟨rfl,rfl,rfl,rfl,rfl,rfl,rfl,rfl,rfl,rfl,rfl,rfl,rfl,trivial⟩ wG (fun F h=>⟨h.1,trivial⟩)
   ·
    have hge3:i3.k=n:=by have:=wJ hc;omega
    refine Qz ?_
    repeat (first | refine Qb ?_ | refine QV (by rfl) ?_)
    refine Qc<|QC<|QG ?_
    rw [hge3,Is hna hnb]
    refine Sq 7 wG mixed (by kernel_rfl) (by kernel_rfl) rfl ?_
    simp only [bM,bK,bO,ef]
    refine QK (QD rfl)<|QK (QJ (vs:=(YM (J4 (el p.2 i.i).t.2 (el q.2 i2.j).t.2)).1.map Qy) rfl GP .here (Ha.all _) (by simp [YM]))<|QK (QI rfl Z0 Qe)<|QK (QJ (vs:=[_,_,_,_]) rfl Qe .u2 .h4 rfl)<|QK (QI rfl Z0 Qe)<|QK (QJ (vs:=[_,_,_,_]) rfl Qe .u1 .h4 rfl)<|Qd rfl (fun w F hF h9=>KX hF ((hH _ _ h9.1.1.1).2.2.1.2.1 _ hta).1 ((hH _ _ h9.1.1.1).2.2.2.2.1 _ htb).1 (by omega) (by omega)) (fun x48=>Cq ?_)
    refine LU (E':=fun s':{ s:ι // pos s=pos i2.s+1 }=>⟨w0,F0,(b8,.cells ((YM (J4 (el p.2 i.i).t.2 (el q.2 i2.j).t.2)).1.map Qy).toArray 160 (0,0))::(b7,.cells (Ym (el q.2 i2.j)).toArray 165 (0,0))::(b5,.cells (Ym (el p.2 i.i)).toArray 165 (0,0))::B s'.1,fun F=>(H s0 F∧H i.s F)∧H s'.1 F⟩) rfl rfl (fun W hW=>?_) (fun s49=>?_)
    ·obtain ⟨fn,tmps,assign,body,e1,e2⟩:=hround (fun F=>H s0 F∧H i.s F) [(b8,.cells ((YM (J4 (el p.2 i.i).t.2 (el q.2 i2.j).t.2)).1.map Qy).toArray 160 (0,0)),(b7,.cells (Ym (el q.2 i2.j)).toArray 165 (0,0)),(b5,.cells (Ym (el p.2 i.i)).toArray 165 (0,0))] i2.s i.i i2.j x48 W hlt hlt2 i2.hp ((hW.perm (aj (l₁:=[_,_,_]))).Bu fun F h=>⟨h.1.1,h.2⟩)
     exact⟨fn,tmps,assign,body,e1,e2.mono fun e w' ⟨h2,s',h3,h4⟩=>⟨h2,⟨s',h3⟩,h4.perm (aj (l₂:=[_,_,_]))⟩⟩
    refine ka (fun⟨a,w,h⟩=>by obtain ⟨c,e,_⟩:=h;cases e) rfl<|QA (Yc rfl)<|QE<|QC ?_
    refine QQ rfl (fun hc=>?_) (fun hc=>?_)
    ·exact absurd hc (by decide)
    ·
     refine QO<|Qk<|QC<|QB<|QA (Qs rfl rfl (by omega))<|wA rfl<|QE ?_
     exact Qo (⟨i2.j+1,s49.1,hlt2,by rw [s49.2,i2.hp];omega⟩) (by show q.2.length - (i2.j+1)<q.2.length - i2.j;omega) wS (.cons _ (.cons _ wG)) (fun F h=>h)
  ·
   have hge2:i2.j=q.2.length:=by have:=wJ hc;omega
   refine Qz ?_
   repeat (first | refine Qb ?_ | refine QV (by rfl) ?_)
   refine Qc<|Qk<|QC<|QB<|QA (Qs rfl rfl (by omega))<|wA rfl<|QE ?_
   exact Qo (⟨i.i+1,i2.s,hlt,by rw [i2.hp,hge2,aT,fb]⟩) (by show p.2.length - (i.i+1)<p.2.length - i.i;omega) wO (.cons _ wG) (fun F h=>⟨h.1.1,h.2⟩)
 ·
  have hge:i.i=p.2.length:=by have:=wJ hc;omega
  refine Qz ?_
  repeat (first | refine Qb ?_ | refine QV (by rfl) ?_)
  refine Qc<|Dy ?_
  exact Y5 (γ:={ s:ι // pos s=p.2.length*q.2.length }) ⟨i.s,by rw [i.hp,hge]⟩ rfl .nil rfl (fun w h=>h.imp wG (fun F h=>h.2))
structure Gl where
 x:Fr
 t:Tm
instance :Inhabited Gl:=⟨⟨default,(0,[])⟩⟩
def RC (ms:List Gl):List (xI 25×aF):=ms.map fun e=>(YM e.t.2,e.x.v)
def KH (ms:List Gl):List Tm:=ms.map (·.t)
def Dt:List Gl→Gl→List Gl
 |[],n=>[n]
 |t::l,n=>if n.t.2=t.t.2 then n::l else t::Dt l n
theorem Tb {a b:List Int} {n:Nat} (hn:n≤25) (ha:a.length=n) (hb:b.length=n) (h:YM a=YM b):a=b:=by
 have h1:(aL 25).map (Qa a)=(aL 25).map (Qa b):=congrArg Subtype.val h
 apply bX (by omega)
 intro i h2 h3
 have h4:=congrArg (fun l=>l[i]?) h1
 simp only [bf,List.getElem?_range (show i<25 by omega),bV,er] at h4
 simpa [Qa,h2,h3] using h4
theorem Pg:∀ (ms:List Gl) (n:Gl),KH (Dt ms n)=BK (KH ms) n.t
 |[],n=>rfl
 |t::l,n=>by
  have ih:=Pg l n
  unfold KH at ih ⊢
  simp only [Dt,aC,BK]
  split
  ·simp
  ·simp [ih]
theorem Bn {ts:List Gl} {n x:Gl} (h:x∈Dt ts n):x=n∨x∈ts:=by
 induction ts with
 |nil=>simp [Dt] at h;exact .inl h
 |cons t l ih =>
  simp only [Dt] at h
  split at h
  ·rcases List.mem_cons.1 h with h | h
   ·exact .inl h
   ·exact .inr (av _ h)
  ·rcases List.mem_cons.1 h with h | h
   ·exact .inr (h ▸ aw)
   ·rcases ih h with h | h
    ·exact .inl h
    ·exact .inr (av _ h)
def WdM (n:Nat) (ms:List Gl):Prop:=∀ e∈ms,e.t.2.length=n
theorem NX {w:Nat} (hw:w≤25):∀ (ms:List Gl) (n:Gl),WdM w ms→n.t.2.length=w→RC (Dt ms n)=Bi (RC ms) (YM n.t.2) n.x.v
 |[],n,_,_=>rfl
 |t::l,n,h,hn=>by
  have ih:=NX hw l n (fun e he=>h e (av _ he)) hn
  unfold RC at ih ⊢
  simp only [Dt,aC,Bi]
  by_cases g:n.t.2=t.t.2
  ·rw [if_pos g,if_pos (congrArg YM g)];simp
  ·rw [if_neg g,if_neg fun e=>g (Tb hw hn (h t aw) e)];simp [ih]
theorem zR {w:Nat} (hw:w≤25):∀ (ms:List Gl) (p:List Int) (i:Nat),WdM w ms→p.length=w→(Z6 (RC ms) (YM p) i=none∧p∉(KH ms).map (·.2))∨∃ j,∃ t∈ms,t.t.2=p∧Z6 (RC ms) (YM p) i=some (j,t.x.v)
 |[],_,_,_,_=>.inl ⟨rfl,by simp [KH]⟩
 |t::l,p,i,h,hp=>by
  by_cases g:p=t.t.2
  ·exact .inr ⟨i,t,aw,g.symm,by show(if _ then _ else _)=_;rw [if_pos (congrArg YM g)]⟩
  ·have g2:¬ YM p=YM t.t.2:=fun e=>g (Tb hw hp (h t aw) e)
   rcases zR hw l p (i+1) (fun e he=>h e (av _ he)) hp with ⟨h1,h2⟩ | ⟨j,u,hu,h1,h2⟩
   ·refine .inl ⟨?_,?_⟩
    ·show(if _ then _ else _)=_
     rw [if_neg g2];exact h1
    ·simp only [KH,aC,aP,not_or];exact⟨g,h2⟩
   ·refine .inr ⟨j,u,av _ hu,h1,?_⟩
    show(if _ then _ else _)=_
    rw [if_neg g2];exact h2
def pQ (F:Gs) (ms:List Gl):Prop:=∀ e∈ms,JY F e.x e.t.1
theorem pQ.le {F F':Gs} {ms:List Gl} (h:pQ F ms) (k:Gs.le F F'):pQ F' ms:=fun e he=>(h e he).le k
structure Ez (n:Nat) (ms:List Gl) (l:List Tm):Prop where
 Um:LP (KH ms) l
 wd:WdM n ms
 pw:∀ e∈ms,PW e.t.2
 ln:ms.length≤l.length
theorem Ez.nil {n:Nat}:Ez n [] []:=⟨LP.nil,(fun _ h=>by cases h),(fun _ h=>by cases h),ax _⟩
theorem Cm (ms:List Gl) (n:Gl):(Dt ms n).length≤ms.length+1:=by
 induction ms with
 |nil=>exact ax _
 |cons t l ih =>
  simp only [Dt]
  split<;>simp only [ar]<;>omega
theorem Ez.add {w:Nat} {ms:List Gl} {l:List Tm} (h:Ez w ms l) {f:Rat} {p:List Int} (hp:PW p) (hw:p.length=w) {n:Gl} (hn:n.t=(f+Jh (KH ms) p,p)):Ez w (Dt ms n) (l++[(f,p)]) :=
 ⟨by rw [Pg,hn];exact h.Um.add f p,fun t ht=>by
  rcases Bn ht with rfl | ht
  ·rw [hn];exact hw
  ·exact h.wd t ht,fun t ht=>by
  rcases Bn ht with rfl | ht
  ·rw [hn];exact hp
  ·exact h.pw t ht,by have:=Cm ms n;have:=h.ln;rw [ao];simp only [aX];omega⟩
theorem Ez.sz {w:Nat} {ms:List Gl} {l:List Tm} (h:Ez w ms l) {t:Gl} (ht:t∈ms):JL t.t.1≤Zh l+1:=by
 rw [← h.Um.DE (af (f:=Gl.t) ht),h.Um.eq];exact BX _ _
structure pN (n:Nat) (l:List Tm) where
 k:Nat
 ms:List Gl
 hI:Ez n ms (l.take k)
theorem Oi {p q:List XU} {i j:Nat} (hi:i<p.length) (hj:j<q.length):(JM (JG p) (JG q))[i*q.length+j]?=some ((el p i).t.1*(el q j).t.1,J4 (el p i).t.2 (el q j).t.2):=by
 induction p generalizing i with
 |nil=>simp at hi
 |cons a p ih =>
  rw [show JG (a::p)=a.t::JG p from rfl,X2]
  have hl:(Jw a.t (JG q)).length=q.length:=by simp [Jw,JG]
  cases i with
  |zero =>
   rw [ez,aN,ej (by omega)]
   simp [Jw,JG,X5 hj,hj,el]
  |succ i =>
   rw [List.getElem?_append_right (by rw [hl,aT];omega),hl,show(i+1)*q.length+j - q.length=i*q.length+j by rw [aT];omega]
   have:=ih (i:=i) (by simpa using hi)
   rw [this];simp [el]
theorem qX {l:List Tm} {k:Nat} {t:Tm} (h:l[k]?=some t):l.take (k+1)=l.take k++[t]:=by
 obtain ⟨h1,rfl⟩:=List.getElem?_eq_some_iff.1 h
 rw [List.take_succ_eq_append_getElem h1]
theorem yF {l:List Tm} {k:Nat}:Zh (l.take k)≤Zh l:=qZ (aG k l)
theorem NQ:Tn Tryz.prog 152 160 130=true:=by kernel_rfl
theorem SN:Sn Tryz.prog 160 (VW (n:=25)):=.arr (e:=3) (by kernel_rfl) (by kernel_rfl) (by kernel_rfl)
theorem qR:gQ Tryz.prog 130=some (.agg #[.int .i64 0,.slice none 0 0,.int .i64 0,.slice none 0 0]):=by kernel_rfl
theorem DU:YJ Tryz.prog 152=some (false,1):=by kernel_rfl
theorem gT:XL Tryz.prog 152=some [.map none]:=by kernel_rfl
theorem AP {w:ag} {F:Gs} {p q:Sr} (hF:Fits F w):QT Tryz.prog 129 [p.v,q.v] w F (fun(c:Nat×Nat)=>.func (.func 209) #[] #[.pointer (some ⟨c.1,0,none⟩),.pointer (some ⟨c.2,0,none⟩)]) (fun c F=>F c.1=some (#[p.v],157)∧F c.2=some (#[q.v],157)):=by
 dsimp only [Sr.v]
 refine QT.intro (G:=fun F=>True) Tryz.func129 rfl (by rfl) rfl rfl hF (fun F' hF'=>trivial)<|wE<|Q2 rfl (vs:=[_]) rfl (fun b2=>Q2 rfl (vs:=[_]) rfl (fun b3=>wD rfl<|wE<|Wz (b:=b2) .u1<|Wz (b:=b3) .here<|QA (NC rfl)<|wD rfl<|QS ?_))
 exact QP ((b2,b3)) rfl (.tmp rfl .nil) (rfl) (fun F h=>⟨h.1.2,h.2⟩)
section
variable [Dr]
theorem jO {w:ag} {F:Gs} {a b:XU} (hF:Fits F w) (hA:Sx F a) (hB:Sx F b) (pa:PW a.t.2) (pb:PW b.t.2):QZ Tryz.prog 135 [AV a,AV b] w F (.int .i64 (VH a.t.2 b.t.2)):=by
 refine QT.intro (G:=fun F=>Sx F a∧Sx F b) Tryz.func135 rfl (by rfl) rfl rfl hF (fun F' hF'=>⟨hA.le hF',hB.le hF'⟩)<|wE<|Q2 rfl (vs:=[_,_,_,_,_]) rfl (fun b2=>Q2 rfl (vs:=[_,_,_,_,_]) rfl (fun b3=>wD rfl<|wE<|QA (QI rfl X8 Qv)<|QA (Qm rfl Qv .u1 (.skip (.skip (.skip (.skip .h1)))))<|QA (QI rfl X8 Qv)<|QA (Qm rfl Qv .here (.skip (.skip (.skip (.skip .h1)))))<|QH rfl (fun w F hF h9=>BA hF (ra:=a.r) (rb:=b.r) h9.1.2 (h9.2.2) (pa) (pb)) (fun _=>wD rfl<|QS ?_)))
 exact wH rfl rfl (rfl) (fun F h9=>trivial)
end
theorem Cd:FE 135:=⟨enters_of Tryz.func135 (by rfl) rfl,fun w F a b hF hA hB pa pb=>@jO ⟨True⟩ w F a b hF hA hB pa pb⟩
theorem Rx {l vs:List aF} (h:l.length=vs.length):Yt l 0 vs vs:=by
 have h1:=Yt.mk' 0 l vs (by omega)
 rwa [bK,ab,aN,bI (by omega),bt] at h1
theorem KP (l:List Int):((YM l).1.map Qy).length=25:=by simp [YM]
theorem R6 (l:List Int):BB ((YM l).1.map Qy):=by
 have key:∀ (x:List Int),BB (x.map Qy):=by
  intro x
  induction x with
  |nil=>trivial
  |cons a x ih=>exact⟨rfl,ih⟩
 exact key _
theorem OM {F:Gs} {b n:Nat} {l:List Int} (h:F b=some (((YM l).1.map Qy).toArray,160)) (hl:l.length=n) (hn:n≤25):JR F ⟨some ⟨b,0,none⟩,n,25⟩ l:=by
 refine⟨⟨by simp [hl],fun _=>⟨b,0,_,_,rfl,h,fun j u hu=>?_⟩⟩,hl,hn⟩
 rw [aN]
 have hj:j<l.length:=by
  rcases bg j l.length with g | g
  ·exact g
  ·rw [aY (by simpa using g)] at hu;cases hu
 have h25:j<25:=by omega
 rw [bf,aD hj] at hu
 simp only [bV,er] at hu
 rw [← hu]
 simp [YM,h25,Qa,hj]
section
variable [Dr] [df:Df] {P:aS} {Q:Exit→Act→ag→Prop} {N:Nat} {m:Sl} {ops:Array Oper} {l:List Oper} {E E':Env}
theorem xE (h:∀ w,St E w→St E' w) (k:JS P ops Q l N m E'):JS P ops Q l N m E:=fun a w ha hw=>k a w ha (h w hw)
theorem Ua {w0:ag} {F0:Gs} {bs bs':List (Nat×Obj)} {G:Gs→Prop} {E0:Env} (hp:bs.Perm bs') (k:JD P ops Q E0 l N m ⟨w0,F0,bs',G⟩):JD P ops Q E0 l N m ⟨w0,F0,bs,G⟩:=fun hE a w ha hw=>k (fun w h=>hE w (h.perm hp.symm)) a w ha (hw.perm hp)
end
theorem M9 {N:Nat} {m:Sl} {ps:Array Tmp} {assign body:Code} {r:Loop} (h:Co N m ps assign body r):{ ({ r with state:=.busy }:Loop) with state:=.ready,pending:=none }=r:=by
 obtain ⟨h1,h2,_,_,_,_⟩:=h
 cases r;simp only at h1 h2;subst h1;subst h2;rfl
theorem EF {N:Nat} {m:Sl} {p1 p2:Tmp} {assign body:Code} {r:Loop} (h:Co N m #[p1,p2] assign body r) (v1 v2:aF) (h1:p1<N) (h2:p2<N):Jx (df:=VJ) N ((p2,v2)::(p1,v1)::m) (Rt r #[v1,v2]):=by
 have e:Rt r #[v1,v2]=((({ tmps:=r.tmps,defers:=[] }:Act).put (some p1) v1).put (some p2) v2):=by
  unfold Rt;rw [h.params];simp [Act.put]
 rw [e]
 exact(h.gq.put (d:=some p1) (by simpa [J5] using h1) v1).put (d:=some p2) (by simpa [J5] using h2) v2
def jH (l:List Tm):List Tm:=l.filter fun t=>decide (t.1≠0)
structure gI (ms:List Gl) where
 seen:List Nat
 os:List XU
 v:aF
 n:Nat
 ob:List (Nat×Obj)
 hr:Qx 165 5 v n (os.flatMap Ym) ob
 nd:seen.Nodup
 lt:∀ j∈seen,j<ms.length
 hn:os.length=n
 ho:JG os=jH (KH (seen.map (el ms)))
theorem WZ (p q:List Tm):(JM p q).length=p.length*q.length:=by
 unfold JM
 induction p with
 |nil=>simp
 |cons a p ih=>rw [aZ,ao,ih,ar,aT];simp [Jw];omega
theorem P7 {p q:List Tm} {t:Tm} (h:t∈JM p q):∃ s∈p,∃ u∈q,t.2=J4 s.2 u.2:=by
 unfold JM Jw at h
 obtain ⟨s,hs,h1⟩:=List.mem_flatMap.1 h
 obtain ⟨u,hu,rfl⟩:=List.mem_map.1 h1
 exact⟨s,hs,u,hu,rfl⟩
theorem q7 {p q:List Tm} (lp:p.length≤64) (lq:q.length≤64) (hp:∀ t∈p,JL t.1≤2400) (hq:∀ t∈q,JL t.1≤2400):Zh (JM p q)≤30000000:=by
 have h1:=H4 (l:=JM p q) (k:=4800) fun t ht=>by
  unfold JM Jw at ht
  obtain ⟨s,hs,h1⟩:=List.mem_flatMap.1 ht
  obtain ⟨u,hu,rfl⟩:=List.mem_map.1 h1
  have:=J9 s.1 u.1
  have:=hp s hs
  have:=hq u hu
  show JL (s.1*u.1)≤_
  omega
 rw [WZ] at h1
 have h2:p.length*q.length≤64*64:=bc lp lq
 have h3:p.length*q.length*4801≤64*64*4801:=aE _ h2
 omega
theorem Yv.small {p:Pt} {v:Int} (h:Yv p v):∀ t∈Q9 p,∀ k∈t.2,0≤k∧k≤12:=fun t ht=>by
 unfold Q9 at ht
 obtain ⟨x,hx,rfl⟩:=List.mem_map.1 ht
 exact(YI (h.term x hx)).2.1
theorem qw {a b:List Int} (ha:∀ k∈a,0≤k∧k≤12) (hb:∀ k∈b,0≤k∧k≤12) (hl:a.length≤1000):PW (J4 a b):=by
 refine⟨fun x hx=>?_,by unfold J4;simp;omega⟩
 unfold J4 at hx
 obtain ⟨i,hi,rfl⟩:=eG hx
 simp only [bN] at hi
 have h1:=ha (a[i]'(by omega)) (eJ _)
 have h2:=hb (b[i]'(by omega)) (eJ _)
 simp only [List.getElem_zipWith]
 omega
theorem Fk (ms:List Gl):(RC ms).length=ms.length:=by simp [RC]
theorem jI {ms:List Gl} {seen:List Nat} {j:Nat} {t:Gl} {os:List XU} {o:XU} (e:el ms j=t) (h:t.t.1≠0) (ho:JG os=jH (KH (seen.map (el ms)))) (hot:o.t=t.t):JG (os++[o])=jH (KH ((seen++[j]).map (el ms))):=by
 have e1:JG (os++[o])=JG os++[o.t]:=by unfold JG;rw [ak];rfl
 have e2:KH ((seen++[j]).map (el ms))=KH (seen.map (el ms))++[t.t]:=by unfold KH;rw [ak,ak,aC,bw,e];rfl
 rw [e1,e2,ho,hot]
 unfold jH
 rw [bQ]
 simp [h]
theorem yg {ms:List Gl} {seen:List Nat} {j:Nat} {t:Gl} {os:List XU} (e:el ms j=t) (h:t.t.1=0) (ho:JG os=jH (KH (seen.map (el ms)))):JG os=jH (KH ((seen++[j]).map (el ms))):=by
 have e2:KH ((seen++[j]).map (el ms))=KH (seen.map (el ms))++[t.t]:=by unfold KH;rw [ak,ak,aC,bw,e];rfl
 rw [e2,ho]
 unfold jH
 rw [bQ]
 simp [h]
theorem O7 {n:Nat} {ms:List Gl} {os cs:List XU} {l:List Tm} {seen:List Nat} (hI:Ez n ms l) (hn:seen.Nodup) (hlt:∀ j∈seen,j<ms.length) (hall:∀ j,j<ms.length→j∈seen) (ho:JG os=jH (KH (seen.map (el ms)))) (hp:cs.Perm os) (hs:cs.Pairwise fun x y=>before y.t.2 x.t.2=false):JG cs=Jp l:=by
 have h1:(KH (seen.map (el ms))).Perm (KH ms):=by
  have:=(TI hn hlt hall).map (el ms)
  rw [Bo] at this
  exact this.map _
 have h2:(JG cs).Perm ((KH ms).filter fun t=>decide (t.1≠0)):=by
  have e:(JG cs).Perm (JG os):=hp.map _
  rw [ho] at e
  exact e.trans (h1.filter _)
 refine hI.Um.norm h2 ?_
 have hnd:((JG cs).map (·.2)).Nodup:=by
  have h3:((JG cs).map (·.2)).Perm (((KH ms).filter fun t=>decide (t.1≠0)).map (·.2)):=h2.map _
  rw [h3.nodup_iff]
  exact(List.filter_sublist.map _).nodup hI.Um.nd
 unfold JG at hnd ⊢
 rw [bC]
 rw [bH] at hnd
 have hnd2:=List.pairwise_map.1 hnd
 refine(hs.and hnd2).imp ?_
 rintro x y ⟨h1,h2⟩
 rcases KN x.t.2 y.t.2 with e | e | e
 ·exact absurd e h2
 ·exact e
 ·rw [h1] at e;cases e
theorem gI.bound {ms:List Gl} (s:gI ms):s.n≤ms.length:=by
 have h1:=congrArg ba s.ho
 have h2:=List.length_filter_le (fun t:Tm=>decide (t.1≠0)) (KH (s.seen.map (el ms)))
 have h3:=G4 _ _ s.nd s.lt
 unfold jH at h1
 simp only [JG,KH,ah] at h1 h2
 have:=s.hn
 omega
theorem gI.mem {n:Nat} {ms:List Gl} {l:List Tm} (hI:Ez n ms l) (s:gI ms):∀ t∈s.os,PW t.t.2:=fun t ht=>by
 have h1:t.t∈JG s.os:=af ht
 rw [s.ho] at h1
 have h2:=(List.mem_filter.1 h1).1
 obtain ⟨e,he,h3⟩:=List.mem_map.1 h2
 obtain ⟨j,hj,h4⟩:=List.mem_map.1 he
 rw [← h3,← h4]
 exact hI.pw _ (JK (s.lt j hj))
theorem Ik {w:ag} {F:Gs} {a b:KG} {v:Int} (hF:Fits F w) (hGl:JB F) (hA:YW F [a,b]) (ht:∀ e∈[a,b],VX e) :
  QT Tryz.prog 40 [a.1.v,b.1.v,.int .i64 v] w F (fun(c:KG)=>.tuple #[c.1.v,.int .i64 (uP [a,b] v (Jp (JM (Q9 (J2 a.2)) (Q9 (J2 b.2)))))]) (fun c F=>YR F c.1 c.2 (uO [a,b] v (Jp (JM (Q9 (J2 a.2)) (Q9 (J2 b.2)))))):=by
 have ha:a∈[a,b]:=by simp
 have hb:b∈[a,b]:=by simp
 dsimp only [Sr.v]
 refine QT.yv (G:=fun F=>JB F∧YW F [a,b]) Tryz.func40 rfl (by rfl) rfl rfl hF (fun F' hF'=>⟨hGl.le hF',hA.le hF'⟩)<|wE<|wB rfl<|wD rfl<|QG<|wF rfl<|wA rfl<|wA rfl<|QW rfl (Q8 D9) Mt zz rfl rfl (fun b20=>QH rfl (fun w F hF h9=>BI hF h9.1.1 (Q6.of (n:=2) (sz:=1) (cs:=[a,b].map fun e=>e.1.v) h9.2 rfl) (h9.1.2) (rfl) (by decide) (ht)) (fun _=>wD rfl<|wF rfl<|QA (QU rfl rfl rfl)<|QE<|QC ?_))
 refine QQ rfl (fun hc=>?_) (fun hc=>?_)
 ·
  have hc0:=bne_iff_ne.1 hc
  refine wF rfl<|wB rfl<|wD rfl<|QS<|Cs ?_
  exact Ja ((⟨none,0,0⟩,[])) rfl (.tmp rfl (.tmp rfl .nil)) (by unfold uP;rw [if_neg hc0]) (fun F h9=>by unfold uO;rw [if_neg hc0];exact YR.nil F)
 ·
  have hc0:=bne_eq_false_iff_eq.1 hc
  obtain ⟨hv,hok⟩:=MO hc0
  have oa:=hok a ha
  have ob:=hok b hb
  have sa:=oa.Zh
  have sb:=ob.Zh
  have hpa:∀ t∈Q9 (J2 a.2),PW t.2:=oa.pw hv.2
  have hpb:∀ t∈Q9 (J2 b.2),PW t.2:=ob.pw hv.2
  have hwa:∀ t∈Q9 (J2 a.2),t.2.length=(v+1).toNat:=fun t ht=>by have:=oa.wide t ht;omega
  have hwb:∀ t∈Q9 (J2 b.2),t.2.length=(v+1).toNat:=fun t ht=>by have:=ob.wide t ht;omega
  have la:(Q9 (J2 a.2)).length≤64:=by unfold Q9;rw [ah];exact oa.len
  have lb:(Q9 (J2 b.2)).length≤64:=by unfold Q9;rw [ah];exact ob.len
  have hsz:Zh (JM (Q9 (J2 a.2)) (Q9 (J2 b.2)))≤30000000:=q7 la lb oa.sz ob.sz
  have hpp:∀ s∈Q9 (J2 a.2),∀ t∈Q9 (J2 b.2),PW (J4 s.2 t.2):=fun s hs t ht=>qw (oa.small s hs) (ob.small t ht) (by rw [hwa s hs];omega)
  have hpn:=NM (l:=JM (Q9 (J2 a.2)) (Q9 (J2 b.2))) fun t ht=>by
   obtain ⟨s,hs,t',ht',e⟩:=P7 ht
   rw [e];exact hpp s hs t' ht'
  have hll:(JM (Q9 (J2 a.2)) (Q9 (J2 b.2))).length≤4096:=by rw [WZ];exact bc la lb
  have hln:=Vl (JM (Q9 (J2 a.2)) (Q9 (J2 b.2)))
  refine QO<|QC<|wE<|Va (κ:=xI 25) VW (fun m=>Qg gT (fun b9=>QR (vs:=[_]) rfl rfl rfl DU rfl .here .h1 wK<|wC<|QG<|wF rfl<|QH rfl (fun w F hF h9=>Vd hF h9.1.1.1 (a:=a) (h9.1.1.2 a ha).1 (h9.1.1.2 a ha).2 (ht a ha) oa hv) (fun c27=>JO _ (fun w F hF h=>aH h.2.2.2.1 (aH h.2.len (aH h.2.2.2.2.2 (fun t ht=>(h.2.2.1 t ht).2.2.1)))) (fun h27p=>?_))))
  obtain ⟨e27,l27,m27,r27⟩:=h27p
  refine wA rfl<|QH rfl (fun w F hF h9=>Vd hF h9.1.1.1.1 (a:=b) (h9.1.1.1.2 b hb).1 (h9.1.1.1.2 b hb).2 (ht b hb) ob hv) (fun c29=>JO _ (fun w F hF h=>aH h.2.2.2.1 (aH h.2.len (aH h.2.2.2.2.2 (fun t ht=>(h.2.2.1 t ht).2.2.1)))) (fun h29p=>?_))
  obtain ⟨e29,l29,m29,r29⟩:=h29p
  refine QH rfl (fun w F hF h9=>AP (p:=c27.1) (q:=c29.1) hF) (fun c30=>wC<|QX<|pR (fun G hG=>?_))
  have hgl:∀ F,G F→JB F:=fun F h=>by obtain ⟨⟨⟨⟨⟨⟨hGl,hA⟩,hs20⟩,_⟩,h27⟩,h29⟩,h30⟩:=hG F h;exact hGl
  have hpr:∀ F,G F→F c30.1=some (#[c27.1.v],157)∧F c30.2=some (#[c29.1.v],157)∧Jr F c27.1 c27.2 (JG c27.2)∧Jr F c29.1 c29.2 (JG c29.2):=fun F h=>by
   obtain ⟨⟨⟨⟨⟨⟨hGl,hA⟩,hs20⟩,_⟩,h27⟩,h29⟩,h30⟩:=hG F h
   exact⟨h30.1,h30.2,by rw [e27];exact h27,by rw [e29];exact h29⟩
  have hvn:(v+1).toNat≤25:=by omega
  have hlp:(JM (JG c27.2) (JG c29.2))=(JM (Q9 (J2 a.2)) (Q9 (J2 b.2))):=by rw [e27,e29]
  refine UX (ι:=pN (v+1).toNat (JM (Q9 (J2 a.2)) (Q9 (J2 b.2)))) (fun s=>[(b9,.cells [.map (some m)].toArray 152 (0,0)),(m,ZD VW (RC s.ms))]) (fun s F=>pQ F s.ms) (fun s=>s.k=(JM (Q9 (J2 a.2)) (Q9 (J2 b.2))).length) rfl (enters_of Tryz.func209 (by rfl) rfl) (fun L D r W hrec hW=>?_) (fun D s hs=>?_)
  ·have hprod:=TS (ι:=pN (v+1).toNat (JM (Q9 (J2 a.2)) (Q9 (J2 b.2)))) (w0:=w) (F0:=F) (B:=fun s=>(L,.loop r)::(D,.deferred (some []))::(b9,.cells [.map (some m)].toArray 152 (0,0))::[(m,ZD VW (RC s.ms))]) (H:=fun s F=>G F∧pQ F s.ms) (pos:=fun s=>s.k) (p:=c27) (q:=c29) (b1:=c30.1) (b2:=c30.2) (L:=L) (n:=(v+1).toNat)
    (fun s F h=>hpr F h.1) ⟨m27,m29⟩
    ⟨fun t ht=>⟨J8 e27 hwa t ht,by rw [← r27 t ht];exact J8 e27 hwa t ht,J8 e27 hpa t ht⟩,fun t ht=>⟨J8 e29 hwb t ht,by rw [← r29 t ht];exact J8 e29 hwb t ht,J8 e29 hpb t ht⟩⟩ hvn (by omega)
    ⟨fun t ht=>aa (J8 (Q:=fun t=>JL t.1≤2400) e27 oa.sz t ht) (by omega),fun t ht=>aa (J8 (Q:=fun t=>JL t.1≤2400) e29 ob.sz t ht) (by omega)⟩
    (fun G' C s i j x W hi hj hk hst=>?_) ⟨0,[],Ez.nil⟩ rfl
   ·refine(hprod.2 W (hW.Bu fun F h=>⟨h,fun e he=>by cases he⟩)).mono ?_
    rintro e w' ⟨c,rfl,h⟩
    refine⟨⟨_,rfl⟩,c.1,?_,h⟩
    have h1:=c.2
    rw [h1,← hlp,Pz,KD,KD]
   ·have hat:=Oi hi hj
    rw [hlp,← hk] at hat
    obtain ⟨ta,hta⟩:∃ ta,ta=el c27.2 i:=⟨_,rfl⟩
    obtain ⟨tb,htb⟩:∃ tb,tb=el c29.2 j:=⟨_,rfl⟩
    have hma:ta.t∈Q9 (J2 a.2):=by rw [hta,← e27];exact af (JK hi)
    have hmb:tb.t∈Q9 (J2 b.2):=by rw [htb,← e29];exact af (JK hj)
    rw [← hta,← htb] at hat hst ⊢
    obtain ⟨f,hfe⟩:∃ f,f=ta.t.1*tb.t.1:=⟨_,rfl⟩
    obtain ⟨p,hpe⟩:∃ p,p=J4 ta.t.2 tb.t.2:=⟨_,rfl⟩
    have hpw:PW p:=by rw [hpe];exact hpp _ hma _ hmb
    have hpl:p.length=(v+1).toNat:=by rw [hpe,KA (by rw [hwa _ hma,hwb _ hmb]),hwa _ hma]
    rw [← hfe,← hpe] at hat
    rw [← hfe] at hst
    rw [← hpe]
    have htk:=qX hat
    have hzf:JL f≤20000000:=by have:=J9 ta.t.1 tb.t.1;have:=oa.sz _ hma;have:=ob.sz _ hmb;rw [hfe];omega
    rcases zR hvn s.ms p 0 s.hI.wd hpl with ⟨hfm,hm⟩ | ⟨jj,t0,ht0,h0,hfm⟩
    ·
     refine Mp hst .here (by rw [hrec.params];rfl) (EF hrec _ _ (by decide) (by decide)) ?_
     rw [hrec.assign,hrec.body]
     refine Gp<|Za (X3 L) (fun⟨_,_,h⟩=>h) rfl<|Qg FF (fun b10=>QR (vs:=(YM p).1.map Qy) rfl rfl rfl GP (KP _) .here (Rx (by rw [KP];rfl)) (R6 _)<|QE<|Vu<|Za (X3 L) (fun⟨_,_,h⟩=>h) rfl<|Qg Xs (fun b11=>QR (vs:=[_,_,_,_]) rfl rfl rfl Qe rfl .here .h4 wN<|QE<|IA .u2 hrec.state<|UZ<|Gp<|Gp<|Za (X3 L) (fun⟨_,_,h⟩=>h) rfl<|QA (Qm rfl DU .u4 .h1)<|QA (QJ (vs:=(YM p).1.map Qy) rfl GP .u1 (Ha.all _) (KP _))<|QA (Pu SN rfl rfl NQ qR .u5 hfm)<|wA rfl<|QA (QM rfl rfl)<|QA (QM rfl rfl)<|Qg Xs (fun b12=>QR (vs:=[_,_,_,_]) rfl rfl rfl Qe rfl .here .h4 wN<|wB rfl<|QE ?_)))
     refine Vu<|Gp<|Za (X3 L) (fun⟨_,_,h⟩=>h) rfl<|wA rfl<|QE<|Vu ?_
     refine F7 rfl (fun hc=>?_) (fun hc=>?_)
     ·cases hc
     ·refine xF ?_
      refine Vu<|Za (X3 L) (fun⟨_,_,h⟩=>h) rfl<|QA (Qm rfl DU .u5 .h1)<|QA (QJ (vs:=(YM p).1.map Qy) rfl GP .u2 (Ha.all _) (KP _))<|QA (QJ (vs:=[_,_,_,_]) rfl Qe .u1 .h4 rfl)<|HZ (k:=YM p) (v:=x.v) SN rfl rfl rfl NQ .u6<|QE<|Qk ?_
      refine F9 .u3 (fun w1 hw1=>⟨rfl,⟨s.k+1,Dt s.ms ⟨x,(f,p)⟩,by rw [htk];exact s.hI.add hpw hpl (by rw [RS hm,Rat.add_zero])⟩,rfl,?_⟩)
      rw [M9 hrec,← NX hvn s.ms ⟨x,(f,p)⟩ s.hI.wd hpl] at hw1
      exact St.imp hw1 (.cons _ (.cons _ (.cons _ wG))) (fun F h=>⟨h.1.1,h.1.2.1,fun e he=>by
       rcases Bn he with rfl | he
       ·exact h.2
       ·exact h.1.2.2 e he⟩)
    ·
     have hzc:=s.hI.sz ht0
     have hzt:=yF (l:=(JM (Q9 (J2 a.2)) (Q9 (J2 b.2)))) (k:=s.k)
     have hc0:Jh (KH s.ms) p=t0.t.1:=by rw [← h0];exact s.hI.Um.DE (af (f:=Gl.t) ht0)
     refine Mp hst .here (by rw [hrec.params];rfl) (EF hrec _ _ (by decide) (by decide)) ?_
     rw [hrec.assign,hrec.body]
     refine Gp<|Za (X3 L) (fun⟨_,_,h⟩=>h) rfl<|Qg FF (fun b10=>QR (vs:=(YM p).1.map Qy) rfl rfl rfl GP (KP _) .here (Rx (by rw [KP];rfl)) (R6 _)<|QE<|Vu<|Za (X3 L) (fun⟨_,_,h⟩=>h) rfl<|Qg Xs (fun b11=>QR (vs:=[_,_,_,_]) rfl rfl rfl Qe rfl .here .h4 wN<|QE<|IA .u2 hrec.state<|UZ<|Gp<|Gp<|Za (X3 L) (fun⟨_,_,h⟩=>h) rfl<|QA (Qm rfl DU .u4 .h1)<|QA (QJ (vs:=(YM p).1.map Qy) rfl GP .u1 (Ha.all _) (KP _))<|QA (TQ SN rfl rfl NQ .u5 hfm)<|wA rfl<|QA (QM rfl rfl)<|QA (QM rfl rfl)<|Qg Xs (fun b12=>QR (vs:=[_,_,_,_]) rfl rfl rfl Qe rfl .here .h4 wN<|wB rfl<|QE ?_)))
     refine Vu<|Gp<|Za (X3 L) (fun⟨_,_,h⟩=>h) rfl<|wA rfl<|QE<|Vu ?_
     refine F7 rfl (fun hc=>?_) (fun hc=>?_)
     ·refine Za (X3 L) (fun⟨_,_,h⟩=>h) rfl ?_
      refine QA (QJ (vs:=[_,_,_,_]) rfl Qe .u1 .h4 rfl)<|QA (QJ (vs:=[_,_,_,_]) rfl Qe .here .h4 rfl)<|QH rfl (fun w F hF h=>Eo (x:=x) (y:=t0.x) (r:=f) (s:=t0.t.1) hF h.2 (h.1.2.2 t0 ht0) (by omega) (by omega)) (fun x42=>QR (vs:=[_,_,_,_]) rfl rfl rfl Qe rfl .u1 .h4 wN<|QE<|Vu<|Za (X3 L) (fun⟨_,_,h⟩=>h) rfl<|QA (Qm rfl DU .u5 .h1)<|QA (QJ (vs:=(YM p).1.map Qy) rfl GP .u2 (Ha.all _) (KP _))<|QA (QJ (vs:=[_,_,_,_]) rfl Qe .u1 .h4 rfl)<|HZ (k:=YM p) (v:=x42.v) SN rfl rfl rfl NQ .u6<|QE<|Qk ?_)
      refine F9 .u3 (fun w1 hw1=>⟨rfl,⟨s.k+1,Dt s.ms ⟨x42,(f+t0.t.1,p)⟩,by rw [htk];exact s.hI.add hpw hpl (by rw [hc0])⟩,rfl,?_⟩)
      rw [M9 hrec,← NX hvn s.ms ⟨x42,(f+t0.t.1,p)⟩ s.hI.wd hpl] at hw1
      exact St.imp hw1 (.cons _ (.cons _ (.cons _ wG))) (fun F h=>⟨h.1.1.1,h.1.1.2.1,fun e he=>by
       rcases Bn he with rfl | he
       ·exact h.2
       ·exact h.1.1.2.2 e he⟩)
     ·cases hc
  letI:Df:=BD D
  have hI:Ez (v+1).toNat s.ms (JM (Q9 (J2 a.2)) (Q9 (J2 b.2))):=by have h:=s.hI;rw [hs,aq] at h;exact h
  refine Qk<|QC<|wE<|wD rfl<|QG<|wE<|QA (Qm rfl DU .u1 .h1)<|Eh (kv:=RC s.ms) (K:=VW) rfl NQ .u2 (fun b47=>wC<|QX<|Jz (ι:=gI s.ms) [(2,_),(47,_)] (fun i=>[(14,i.v)]) (fun i=>(b47,Fl m (RC s.ms).length i.seen)::(D,.deferred (some []))::(b9,.cells [.map (some m)].toArray 152 (0,0))::(m,ZD VW (RC s.ms))::i.ob) (fun i F=>Vh F i.os) (fun i=>s.ms.length - i.seen.length) (⟨[],[],_,0,[],.nil,eS,(fun _ h=>by cases h),rfl,rfl⟩) wL wK wG (fun _ _ _ h=>by cases h) (fun i=>?_))
  simp only [ae,ab]
  refine wE<|N3 (kv:=RC s.ms) (K:=VW) (b:=m) rfl .here .u3 (fun x hx=>QA (QM rfl (xy x))<|wC<|QG ?_)
  refine QQ rfl (fun hc=>?_) (fun hc=>?_)
  ·
   obtain ⟨j,rfl⟩:∃ j,x=some j:=by
    cases x with
    |none=>cases hc
    |some j=>exact⟨j,rfl⟩
   obtain ⟨hj,hjn⟩:=hx
   rw [Fk] at hj
   obtain ⟨hs1,hs2,hs3⟩:=Pn i.nd i.lt hj hjn
   have htm:=JK hj
   have hkj:(RC s.ms)[j]?=some (YM (el s.ms j).t.2,(el s.ms j).x.v):=by rw [RC,bf,aD hj,X5 hj];rfl
   generalize hte:el s.ms j=t at htm hkj
   have htw:=hI.wd t htm
   have htp:=hI.pw t htm
   refine QO<|QC<|QX<|wE<|QA (FX (kv:=RC s.ms) (K:=VW) (p:=(YM t.t.2,t.x.v)) rfl .here .u3 hkj)<|QA (QM rfl rfl)<|QA (QM rfl rfl)<|Qg FF (fun b15=>Qg Xs (fun b16=>QR (vs:=(YM t.t.2).1.map Qy) rfl rfl rfl GP (KP _) .u1 (Rx (by rw [KP];rfl)) (R6 _)<|QR (vs:=[_,_,_,_]) rfl rfl rfl Qe rfl .here .h4 wN<|wC<|wE<|QA (QJ (vs:=[_,_,_,_]) rfl Qe .here .h4 rfl)<|QH rfl (fun w F hF h9=>G6 hF (h9.1.2 t htm)) (fun _=>QA (QU rfl rfl rfl)<|QE<|QC ?_)))
   refine QQ rfl (fun hc=>?_) (fun hc=>?_)
   ·
    have hnz:t.t.1≠0:=fun e=>by rw [e] at hc;cases hc
    refine N2 (b:=b15) .u1<|JV (List.sublist_append_left [_,_,_,_,_] i.ob) mixed (by kernel_rfl)<|QK (QD rfl)<|QK (QJ (vs:=[_,_,_,_]) rfl Qe .here .h4 rfl)<|QK (QD rfl)<|QK (Qs rfl rfl (by omega))<|QK (AL (h:=(v+1).toNat) rfl (congrArg (fun z:Int=>some (ay .i64 z)) (by omega)) Ch Qp (by omega))<|Qd rfl (fun w F hF h9=>Sg (r:=⟨some ⟨b15,0,none⟩,(v+1).toNat,25⟩) hF (OM h9.2 htw (by omega)) (by rw [htw];omega)) (fun c61=>QK (Q7 rfl NH Zl (.cons (vs:=[_,_,_,_]) rfl rfl rfl .h4 (.cons (vs:=[_]) rfl rfl rfl (.skip (.skip (.skip (.skip .h1)))) .nil))) ?_)
    refine Ju rfl (Q8 J6) Je Zl rfl rfl (fun b63=>?_) (fun w h=>h.imp (.cons_cons _ (.cons_cons _ (.cons_cons _ (.cons_cons _ (.cons_cons _ (aQ _)))))) (fun F h=>h.1))
    refine Ua (aj (l₁:=[_,_,_,_,_])) ?_
    refine Dx (n:=i.n) (k:=1) (sz:=5) (news:=Ym ⟨t.x,c61,t.t⟩) rfl rfl J6 Je Zl rfl Aw i.hr (Src.row (off:=0) (fun F h9=>h9.2) (fun j v hv=>by rw [aN];show((Ym ⟨t.x,c61,t.t⟩).toArray)[j]?=some v;rw [az];exact hv) rfl) (by have:=i.bound;have:=hI.ln;omega) (by have:=i.bound;have:=hI.ln;omega) (R9 _) wG (fun _ h=>h.1.1) (fun v64 ob64 hr64=>?_)
    refine Ua (aj (l₂:=[_,_,_,_,_]))<|QK (QF rfl)<|Q3<|Qk ?_
    exact Qo (⟨i.seen++[j],i.os++[⟨t.x,c61,t.t⟩],v64,i.n+1,ob64,by rw [aJ];simpa using hr64,hs1,hs2,by rw [ao,i.hn];rfl,jI hte hnz i.ho rfl⟩) (by show _ - (i.seen++[j]).length<_;rw [ao];simp only [aX];omega) wM (.cons _ wG) (fun F ⟨⟨⟨⟨⟨⟨hG0,hMs⟩,hOs⟩,_⟩,hk15⟩,h61⟩,hs63⟩=>⟨⟨hG0,hMs⟩,fun o ho=>by
   rcases List.mem_append.1 ho with ho | ho
   ·exact hOs o ho
   ·rw [List.mem_singleton.1 ho];exact⟨hMs t htm,h61⟩⟩)
   ·
    have hz:t.t.1=0:=Bf.1 (by simpa using hc)
    refine QO<|Qk ?_
    exact Qo (⟨i.seen++[j],i.os,i.v,i.n,i.ob,i.hr,hs1,hs2,i.hn,yg hte hz i.ho⟩) (by show _ - (i.seen++[j]).length<_;rw [ao];simp only [aX];omega) wM (.cons _ (.cons _ wG)) (fun F h=>⟨h.1.1,h.1.2⟩)
  ·
   obtain rfl:x=none:=by
    cases x with
    |none=>rfl
    |some j=>cases hc
   rw [show cV (RC s.ms).length i.seen none=∀ j,j<(RC s.ms).length→j∈i.seen from rfl,Fk] at hx
   refine Qz ?_
   repeat (first | refine Qb ?_ | refine QV (by rfl) ?_)
   refine Qc<|QC<|wF rfl<|XO rfl (aj (l₁:=[_,_,_,_]) (l₂:=i.ob)) (OB Cd i.hr (fun F h=>h.2) (gI.mem hI i) i.hn (by have:=i.bound;have:=hI.ln;omega)) (fun c=>JO _ (fun w F hF h=>h.2) (fun hso=>?_))
   have hmn:JG c.1=Jp (JM (Q9 (J2 a.2)) (Q9 (J2 b.2))):=O7 hI i.nd i.lt hx i.ho hso.2.1 hso.2.2
   obtain ⟨r,hv2,hrn,hrc,hfix⟩:=Qx.fix (w0:=w) (F0:=F) (bs1:=[(b47,Fl m (RC s.ms).length (dP i.seen none)),(D,.deferred (some [])),(b9,.cells [.map (some m)].toArray 152 (0,0)),(m,ZD VW (RC s.ms))]) (G:=_) hso.1
   refine X0 (aj (l₁:=c.2))<|xE hfix ?_
   rw [hv2]
   refine wC<|wF rfl<|QH rfl (fun w F hF h9=>GV hF (q:=r.q) (n:=r.n) (cap:=r.cap) (ts:=c.1) ⟨by rw [hrn];exact h9.2,fun t ht=>h9.1.1.2 t (hso.2.1.mem_iff.1 ht),rfl,by rw [hrn];exact hrc,hso.2.1.length_eq.trans (i.hn.trans hrn.symm)⟩ (hgl _ h9.1.1.1.1) (J8 hmn hpn) (fun t htm=>aa (DV (J8 hmn (fun x hx=>hx) t htm)) (by omega)) (by have:=congrArg ba hmn;simp only [KD] at this;omega)) (fun c68=>?_)
   rw [hmn]
   refine QA (QM rfl rfl)<|QA (QM rfl rfl)<|wB rfl<|wD rfl<|QS<|kb .u1 ?_
   exact Ja (c68) rfl (.tmp rfl (.tmp rfl .nil)) (by unfold uP;rw [if_pos hc0];rfl) (fun F h9=>by unfold uO;rw [if_pos hc0];exact h9.2)
theorem IM:((Tryz.prog.fieldsOf 24).toList.map fun f=>(f.name,f.offset,f.type))=[("Low",0,22),("High",1,22)]:=by kernel_rfl
theorem AA:Tryz.prog.underlying 24=some (.struct (Tryz.prog.fieldsOf 24)):=by kernel_rfl
theorem IL:Tryz.prog.stoodInHeld 24=false:=by kernel_rfl
theorem Rk:Tryz.prog.eqGuardType Tryz.prog.depth 24=false:=by kernel_rfl
theorem FU:Tryz.prog.underlying 22=some .string:=by kernel_rfl
theorem U2 {α β:Type} {f:α→β} {l:List α} {x y:β} (h:l.map f=[x,y]):∃ a b,l=[a,b]∧f a=x∧f b=y:=by
 match l,h with
 |[a,b],h=>simp only [aC,bw,List.cons.injEq,and_true] at h;exact⟨a,b,rfl,h.1,h.2⟩
theorem equal_span (w:ag) (a b c d:List UInt8):(eX 24 (.agg #[tx a,tx b]) (.agg #[tx c,tx d])).run Tryz.prog w = .ok (decide (a=c)&&decide (b=d)) w:=by
 obtain ⟨f1,f2,hf,h1,h2⟩:=U2 IM
 simp only [Prod.mk.injEq] at h1 h2
 exact equal_txs AA IL hf ⟨by rw [h1.1];decide,h1.2.1,by rw [h1.2.2];exact FU⟩ ⟨by rw [h2.1];decide,h2.2.1,by rw [h2.2.2];exact FU⟩ w a b c d
section
variable [Dr] [df:Df] {N:Nat} {m:Sl} {S:ag→Prop} {ty:aK}
theorem OZ {yT:aK} {x y:bF} {a b c d:List UInt8} (hx:ev m x=some (.agg #[tx a,tx b])) (hy:ev m y=some (.agg #[tx c,tx d])):Qt Tryz.prog N m S (.binOp .neq 24 x y yT) ty (.bool (!(decide (a=c)&&decide (b=d)))):=fun ac w _ _ _ _ ha _=>by
 have h1:=equal_span w a b c d
 simp only [execOp,ha.ev hx,ha.ev hy,aV]
 have h2:(eqGuard .neq 24 x y (.agg #[tx a,tx b]) (.agg #[tx c,tx d])).run Tryz.prog w = .ok () w:=by
  simp [eqGuard,Rk]
 rw [h2]
 simp [binOp,h1]
end
def V7 (c:Rat×Rat) (bs:List (Rat×Rat)) (ks:List Int) (i:Nat):Rat×Rat:=(aL i).foldl (fun a j=>if Qa ks j>0 then YK a (Vo (el bs j) (Qa ks j)) else a) c
theorem Vj (c:Rat×Rat) (bs:List (Rat×Rat)) (ks:List Int) (i:Nat):V7 c bs ks (i+1)=if Qa ks i>0 then YK (V7 c bs ks i) (Vo (el bs i) (Qa ks i)) else V7 c bs ks i:=by
 unfold V7;rw [List.range_succ,bE];rfl
def UT (a b:Rat×Rat):Rat×Rat:=(a.1+b.1,a.2+b.2)
def X4 (bs:List (Rat×Rat)) (l:List Tm):Rat×Rat:=l.foldl (fun a t=>UT a (V7 (t.1,t.1) bs t.2 t.2.length)) (0,0)
theorem Ak {ts:List XU} {bs:List (Rat×Rat)} {i:Nat} (h:i<ts.length):X4 bs (JG (ts.take (i+1)))=UT (X4 bs (JG (ts.take i))) (V7 ((el ts i).t.1,(el ts i).t.1) bs (el ts i).t.2 (el ts i).t.2.length):=by
 rw [Xj h];unfold X4;rw [bE];rfl
def W8 (a:Rat×Rat) (k:Nat):Prop:=JL a.1≤k∧JL a.2≤k
theorem W8.mono {a:Rat×Rat} {k l:Nat} (h:W8 a k) (g:k≤l):W8 a l:=⟨aa h.1 g,aa h.2 g⟩
theorem EY {r:Rat} {l:List Rat} {k:Nat} (h:JL r≤k) (hl:∀ x∈l,JL x≤k):W8 (YH r l) k:=Pc l (r,r) h h hl
theorem Rf {a b:Rat×Rat} {m n:Nat} (ha:W8 a m) (hb:W8 b n):W8 (YK a b) (m+n):=by
 have h:∀ x y:Rat,JL x≤m→JL y≤n→JL (x*y)≤m+n:=fun x y h1 h2=>by have:=J9 x y;omega
 unfold YK
 refine EY (h _ _ ha.1 hb.1) fun x hx=>?_
 simp only [aP,aA,or_false] at hx
 rcases hx with rfl | rfl | rfl
 ·exact h _ _ ha.1 hb.2
 ·exact h _ _ ha.2 hb.1
 ·exact h _ _ ha.2 hb.2
theorem TV {a:Rat×Rat} {n:Int} {m:Nat} (ha:W8 a m) (hn:n≤12):W8 (Vo a n) (12*m+1):=by
 have h:∀ x:Rat,JL x≤m→JL (x^n.toNat)≤12*m+1:=fun x hx=>by
  have h1:=WT x n.toNat
  have h2:n.toNat*JL x≤12*m:=bc (by omega) hx
  omega
 have hs:W8 (YH (a.1^n.toNat) [a.2^n.toNat]) (12*m+1):=EY (h _ ha.1) fun x hx=>by
  simp only [aP,aA,or_false] at hx
  rw [hx];exact h _ ha.2
 refine⟨?_,hs.2⟩
 unfold Vo
 dsimp only
 split
 ·have:JL (0:Rat)≤1:=by decide
  omega
 ·exact hs.1
theorem j9 {a b:Rat×Rat} {m n:Nat} (ha:W8 a m) (hb:W8 b n):W8 (UT a b) (m+n+1):=by
 have h1:=Vc a.1 b.1
 have h2:=Vc a.2 b.2
 have h3:=ha.1
 have h4:=ha.2
 have h5:=hb.1
 have h6:=hb.2
 exact⟨by show JL (a.1+b.1)≤_;omega,by show JL (a.2+b.2)≤_;omega⟩
theorem qU {c:Rat×Rat} {bs:List (Rat×Rat)} {ks:List Int} (hc:W8 c 2400) (hx:∀ x∈bs,W8 x 2400) (hk:∀ k∈ks,0≤k∧k≤12):∀ i,i≤bs.length→i≤ks.length→W8 (V7 c bs ks i) (2400+i*28801):=by
 intro i
 induction i with
 |zero=>intro _ _;simpa [V7] using hc
 |succ i ih =>
  intro h1 h2
  have h3:=ih (by omega) (by omega)
  have h6:=hx _ (JK (show i<bs.length by omega))
  have h7:0≤Qa ks i∧Qa ks i≤12:=by rw [Xy (show i<ks.length by omega)];exact hk _ (JK (by omega))
  rw [Vj]
  split
  ·exact(Rf h3 (TV h6 h7.2)).mono (by omega)
  ·exact h3.mono (by omega)
theorem RH {bs:List (Rat×Rat)} {B:Nat}:∀ (l:List Tm) (a:Rat×Rat) (k:Nat),W8 a k→(∀ t∈l,W8 (V7 (t.1,t.1) bs t.2 t.2.length) B)→W8 (l.foldl (fun a t=>UT a (V7 (t.1,t.1) bs t.2 t.2.length)) a) (k+l.length*(B+1))
 |[],a,k,h,_=>by simpa using h
 |t::l,a,k,h,hl=>by
  have h1:=RH l (UT a (V7 (t.1,t.1) bs t.2 t.2.length)) _ (j9 h (hl t (by simp))) fun t ht=>hl t (by simp [ht])
  rw [eb,ar,aT]
  exact h1.mono (by omega)
def ZB (s:List UInt8×List UInt8):Rat×Rat:=(Jj s.1,Jj s.2)
def zT (p:Pt) (ss:List (List UInt8×List UInt8)):(List UInt8×List UInt8)×Int :=
 if BN p ss.length=0 then(if Ql (ss.map fun s=>Jm s.1 s.2)=0 then V4 (X4 (ss.map ZB) (Q9 p)) else(([],[]),Ql (ss.map fun s=>Jm s.1 s.2))) else(([],[]),BN p ss.length)
structure EsO (n:Nat) where
 i:Nat
 x:Sp
 le:i≤n
structure EsI (n:Nat) where
 j:Nat
 y:Sp
 le:j≤n
theorem I2 {ss:List (List UInt8×List UInt8)} {j:Nat} (h:j<ss.length):el (ss.map ZB) j=ZB (el ss j):=by rw [X5 (by simpa using h),X5 h];simp
def yG (x:Sp):List aF:=Up x.lo++Up x.hi
theorem PB {w:ag} {F:Gs} {a:KG} {q:Option Addr} {n cap:Nat} {ss:List (List UInt8×List UInt8)} (hF:Fits F w) (hGl:JB F) (hR:Q6 F a.1.q a.1.n 2 (a.2.flatMap Kl)) (hA:Zx F a.2) (ht:VX a) (hS:Q6 F q n 2 (ss.flatMap PJ)) (hn:ss.length=n) (hl:∀ s∈ss,s.1.length≤1000000∧s.2.length≤1000000) (hnb:n≤1000000) :
  QZ Tryz.prog 81 [a.1.v,.slice q n cap] w F (.tuple #[.agg #[tx (zT (J2 a.2) ss).1.1,tx (zT (J2 a.2) ss).1.2],.int .i64 (zT (J2 a.2) ss).2]):=by
 dsimp only [Sr.v]
 refine QT.intro (G:=fun F=>JB F∧Q6 F a.1.q a.1.n 2 (a.2.flatMap Kl)∧Zx F a.2∧Q6 F q n 2 (ss.flatMap PJ)) Tryz.func81 rfl (by rfl) rfl rfl hF (fun F' hF'=>⟨hGl.le hF',hR.le hF',hA.le hF',hS.le hF'⟩)<|QG<|QB ?_
 refine Qg Zy (fun b4=>?_)
 refine wD rfl<|QG<|wF rfl<|wA rfl<|QA (Qj rfl GC) ?_
 refine QH rfl (fun w F hF h9=>Fa hF (h9.1) (h9.2.1) (h9.2.2.1) (ht) (hnb)) (fun _=>?_)
 refine wD rfl<|wF rfl<|QA (QU rfl rfl rfl)<|QE<|QC ?_
 refine QQ rfl (fun hc=>?_) (fun hc=>?_)
 ·
  have hc0:=bne_iff_ne.1 hc
  refine wE<|QA (Q7 rfl Y8 Zy .nil)<|wA rfl<|QR (vs:=[_,_]) rfl rfl rfl JU rfl .here .h2 wL<|wD rfl<|QS ?_
  exact Ja (()) rfl (.Jd (c:=[_,_]) rfl JU .here (.tmp rfl .nil)) (by unfold zT;rw [hn,if_neg hc0];rfl) (fun F h9=>trivial)
 ·
  have hc0:=bne_eq_false_iff_eq.1 hc
  have hpl:Ql [if decide ((n:Int)=0)=true then 2 else 0,if decide ((n:Int)>25)=true then 5 else 0]=0∧XZ (J2 a.2) ((n:Int) - 1)=0:=by
   unfold BN at hc0
   by_cases g:Ql [if decide ((n:Int)=0)=true then 2 else 0,if decide ((n:Int)>25)=true then 5 else 0]=0
   ·rw [if_pos g] at hc0;exact⟨g,hc0⟩
   ·rw [if_neg g] at hc0;exact absurd hc0 g
  have hn1:=Ud hpl.1
  have oa:=KU hpl.2
  refine QO<|QC<|QG<|wE<|wA rfl ?_
  refine QH rfl (fun w F hF ⟨⟨hGl,hR,hA,hS⟩,_⟩=>Al (f:=22) (es:=ss.map fun s=>Jm s.1 s.2) (vs:=fun i=>PJ (el ss i)) (c1:=[]) (c2:=[]) (G0:=JB) hF (fun F F' hle h=>h.le hle) hGl hS (by rw [ah];exact hn) (by omega)
   (fun i hi=>⟨rfl,fun j v hv=>Jy (f:=PJ) (l:=ss) (fun _=>rfl) (by omega) hv⟩)
   (fun i hi v hv=>by
    unfold PJ at hv
    simp only [aP,aA,or_false] at hv
    rcases hv with rfl | rfl<;>rfl)
   (fun i hi w F hF hG=>by
    rw [eK,← X5 (show i<ss.length by simpa using hi)]
    exact Yr hF hG (hl _ (JK (show i<ss.length by simpa using hi))))) (fun _=>?_)
  refine wD rfl<|wF rfl<|QA (QU rfl rfl rfl)<|QE<|QC ?_
  refine QQ rfl (fun hc=>?_) (fun hc=>?_)
  ·
   have hd0:=bne_iff_ne.1 hc
   refine wE<|QA (Q7 rfl Y8 Zy .nil)<|wA rfl<|QR (vs:=[_,_]) rfl rfl rfl JU rfl .here .h2 wL<|wD rfl<|QS ?_
   exact Ja (()) rfl (.Jd (c:=[_,_]) rfl JU .here (.tmp rfl .nil)) (by unfold zT;rw [hn,if_pos hc0,if_neg hd0];rfl) (fun F h9=>trivial)
  ·
   have hd0:=bne_eq_false_iff_eq.1 hc
   have hcs:∀ s∈ss,Jm s.1 s.2=0:=fun s hs=>SU hd0 _ (List.mem_map.2 ⟨s,hs,rfl⟩)
   have hss:∀ s∈ss,W8 (ZB s) 2400:=fun s hs=>by
    have h3:=YT (hcs s hs)
    exact⟨XE h3.1,XE h3.2.1⟩
   have hxs:∀ x∈ss.map ZB,W8 x 2400:=fun x hx=>by
    obtain ⟨s,hs,rfl⟩:=List.mem_map.1 hx
    exact hss s hs
   have hpa:∀ t∈Q9 (J2 a.2),PW t.2:=oa.pw (by omega)
   have hpk:∀ t∈Q9 (J2 a.2),∀ k∈t.2,0≤k∧k≤12:=fun t ht=>by
    unfold Q9 at ht
    obtain ⟨x,hx,rfl⟩:=List.mem_map.1 ht
    exact(YI (oa.term x hx)).2.1
   have hwd:∀ t∈Q9 (J2 a.2),t.2.length=n:=fun t ht=>by have:=oa.wide t ht;omega
   have la:(Q9 (J2 a.2)).length≤64:=by unfold Q9;rw [ah];exact oa.len
   have hsl2:(ss.map ZB).length=n:=by rw [ah];exact hn
   have hvm:∀ t∈Q9 (J2 a.2),∀ i,i≤n→W8 (V7 (t.1,t.1) (ss.map ZB) t.2 i) 722425:=fun t ht i hi=>by
    have h1:=qU (c:=(t.1,t.1)) ⟨oa.sz t ht,oa.sz t ht⟩ hxs (hpk t ht) i (by omega) (by rw [hwd t ht];exact hi)
    have h2:i*28801≤25*28801:=aE _ (by omega)
    exact h1.mono (by omega)
   have hev:∀ l:List Tm,(∀ t∈l,t∈Q9 (J2 a.2))→l.length≤64→W8 (X4 (ss.map ZB) l) 50000000:=fun l hl h64=>by
    have h1:=RH (bs:=ss.map ZB) (B:=722425) l (0,0) 1 ⟨by decide,by decide⟩ fun t ht=>hvm t (hl t ht) _ (eZ (hwd t (hl t ht)))
    have h3:l.length*722426≤64*722426:=aE _ h64
    unfold X4
    exact h1.mono (by omega)
   refine QO<|QC<|QG<|QB ?_
   refine QH rfl (fun w F hF h9=>po hF (by omega) (by omega)) (fun x28=>?_)
   refine QH rfl (fun w F hF ⟨⟨⟨⟨hGl,hR,hA,hS⟩,_⟩,_⟩,⟨h28,h28_⟩⟩=>Kb hF (x:=x28) (ps:=[]) ⟨by assumption,by assumption⟩ (Q6.nil F _ _) (fun p hp=>absurd hp (aA)) rfl (by omega) ⟨by decide,fun p hp=>absurd hp (aA)⟩) (fun c29=>?_)
   refine Qg ZU (fun b8=>?_)
   refine QR (vs:=[_,_,_,_,_,_,_,_]) rfl rfl rfl Jq rfl .here .h8 wR<|wC<|QG<|wE<|wA rfl ?_
   refine QH rfl (fun w F hF h9=>Vd hF h9.1.1.1.1.1 (a:=a) h9.1.1.1.1.2.1 h9.1.1.1.1.2.2.1 ht oa (by omega)) (fun c31=>?_)
   refine JO _ (fun w F hF h=>aH h.2.2.2.1 (aH h.2.len (aH h.2.2.2.2.2 (fun t ht=>(h.2.2.1 t ht).2.2.1)))) (fun h31p=>?_)
   obtain ⟨e31,l31,m31,r31⟩:=h31p
   have hsub:∀ k,∀ t∈JG (c31.2.take k),t∈Q9 (J2 a.2):=fun k t ht=>by
    rw [← e31]
    unfold JG at ht ⊢
    obtain ⟨y,hy,rfl⟩:=List.mem_map.1 ht
    exact af (eE hy)
   refine QA (Qj rfl J6)<|wA rfl<|wC<|QX ?_
   refine Jz (ι:=EsO c31.2.length) [(1,_),(4,_),(8,_),(31,_),(32,_)] (fun i=>[(33,.int .i64 ((i.i:Nat):Int))]) (fun i=>[(b8,.cells (yG i.x).toArray 138 (0,0)),(b4,.cells [tx [],tx []].toArray 24 (0,0))]) (fun i F=>ZO F i.x (X4 (ss.map ZB) (JG (c31.2.take i.i)))) (fun i=>c31.2.length - i.i) (⟨0,c29,ai _⟩) wO wK wG (fun _ h=>h.1.2) (fun i=>?_)
   simp only [ae,ab]
   have hi:=i.le
   have hes:=hev (JG (c31.2.take i.i)) (fun t ht=>hsub _ t ht) (by rw [KD,aB];omega)
   refine wE<|QA (QU rfl rfl rfl)<|wC<|QG ?_
   refine QQ rfl (fun hc=>?_) (fun hc=>?_)
   ·
    have hlt:i.i<c31.2.length:=by have:=wI hc;omega
    have htm:=JK hlt
    have htA:(el c31.2 i.i).t∈Q9 (J2 a.2):=e31 ▸ af htm
    have hw1:=hwd _ htA
    have hpw:=hpa _ htA
    have hl1000:=hpw.2
    have hrl:=r31 _ htm
    have hct:=oa.sz _ htA
    refine QO<|QC<|QG<|QX<|wE<|QA (JH (n:=c31.1.n) (i.i) (fun F h9=>(h9.1.2).1) rfl rfl J6 Je (by omega))<|QA (Xd (n:=c31.1.n) (vs:=[.int .i64 (el c31.2 (i.i)).x.n.s,.slice (el c31.2 (i.i)).x.n.q (el c31.2 (i.i)).x.n.n (el c31.2 (i.i)).x.n.cap,.int .i64 (el c31.2 (i.i)).x.d.s,.slice (el c31.2 (i.i)).x.d.q (el c31.2 (i.i)).x.d.n (el c31.2 (i.i)).x.d.cap,.slice (el c31.2 (i.i)).r.q (el c31.2 (i.i)).r.n (el c31.2 (i.i)).r.cap]) ((i.i)*5) (fun F h9=>(h9.1.2).1) (by omega) rfl Je rfl (fun j v hv=>Jy (f:=Ym) (l:=c31.2) YP (by omega) hv)) ?_
    refine Qg Zl (fun b10=>?_)
    refine QR (vs:=[_,_,_,_,_]) rfl rfl rfl Je rfl .here .h5 wO<|wC<|wE<|QA (QI rfl Z0 Qe)<|QA (QJ (vs:=[_,_,_,_]) rfl Qe .here .h4 rfl) ?_
    refine QH rfl (fun w F hF h9=>Kb hF (x:=(el c31.2 i.i).x) (ps:=[]) ((h9.1.2.2.1 _ htm).1) (Q6.nil F _ _) (fun p hp=>absurd hp (aA)) rfl (by omega) ⟨by omega,fun p hp=>absurd hp (aA)⟩) (fun c39=>?_)
    refine Qg ZU (fun b11=>?_)
    refine QR (vs:=[_,_,_,_,_,_,_,_]) rfl rfl rfl Jq rfl .here .h8 wR<|wC<|QG<|wE<|QA (QI rfl X8 Qv)<|QA (Qm rfl Qv .u1 (.skip (.skip (.skip (.skip .h1)))))<|QA (Qj rfl Qf)<|wA rfl<|wC<|QX ?_
    refine Jz (ι:=EsI (el c31.2 i.i).t.2.length) [(1,_),(4,_),(8,_),(11,_),(31,_),(32,_),(33,_),(41,_),(42,_)] (fun i2=>[(43,.int .i64 ((i2.j:Nat):Int))]) (fun i2=>[(b11,.cells (yG i2.y).toArray 138 (0,0)),(b10,.cells (Ym (el c31.2 i.i)).toArray 165 (0,0)),(b8,.cells (yG i.x).toArray 138 (0,0)),(b4,.cells [tx [],tx []].toArray 24 (0,0))]) (fun i2 F=>ZO F i2.y (V7 ((el c31.2 i.i).t.1,(el c31.2 i.i).t.1) (ss.map ZB) (el c31.2 i.i).t.2 i2.j)) (fun i2=>(el c31.2 i.i).t.2.length - i2.j) (⟨0,c39,ai _⟩) wS wK wG (fun _ h=>h.2) (fun i2=>?_)
    simp only [ae,ab]
    have hj:=i2.le
    have hvs:=hvm _ htA i2.j (by omega)
    refine wE<|QA (QU rfl rfl rfl)<|wC<|QG ?_
    refine QQ rfl (fun hc=>?_) (fun hc=>?_)
    ·
     have hlt2:i2.j<(el c31.2 i.i).t.2.length:=by have:=wI hc;omega
     have hls:i2.j<ss.length:=by omega
     have hem:=JK hls
     have hck:=YT (hcs _ hem)
     have hlh:=hl _ hem
     have hbx:=hss _ hem
     have hk12:0≤Qa (el c31.2 i.i).t.2 i2.j∧Qa (el c31.2 i.i).t.2 i2.j≤12:=by rw [Xy hlt2];exact hpk _ htA _ (JK hlt2)
     have hpz:=TV hbx hk12.2
     refine QO<|QC<|QG<|QX<|wF rfl<|QA (JH (n:=(el c31.2 i.i).r.n) (i2.j) (fun F h9=>((h9.1.1.1.2.2.1 _ htm).2).1) rfl rfl Qf Qp (by omega))<|QA (JQ (n:=(el c31.2 i.i).r.n) ((i2.j)*1) (fun F h9=>((h9.1.1.1.2.2.1 _ htm).2).1) (by omega) rfl Qp (JJ (o:=(el c31.2 i.i).t.2) (by omega)))<|wB rfl<|wD rfl<|wF rfl<|QA (QU rfl rfl rfl)<|QE<|QC ?_
     refine QQ rfl (fun hc=>?_) (fun hc=>?_)
     ·
      have hpos:Qa (el c31.2 i.i).t.2 i2.j>0:=wI hc
      refine Xr 9 wG mixed (by kernel_rfl) (by kernel_rfl) ?_
      simp only [bM,bK,bO,ef]
      refine QK (QJ (vs:=[_,_,_,_,_,_,_,_]) rfl Jq .here .h8 rfl)<|QK (QD rfl)<|QK (QD rfl)<|QK (JH (n:=n) (i2.j) (fun F h9=>h9.1.1.1.1.1.1.1.1.2.2.2) rfl rfl GC JU (by omega))<|QK (Xd (n:=n) (vs:=[tx (el ss (i2.j)).1,tx (el ss (i2.j)).2]) ((i2.j)*2) (fun F h9=>h9.1.1.1.1.1.1.1.1.2.2.2) (by omega) rfl JU rfl (fun j v hv=>Jy (f:=PJ) (l:=ss) (fun _=>rfl) (by omega) hv)) ?_
      refine Qd rfl (fun w F hF h9=>KK hF h9.1.1.1.1.1.1.1.1.1 hck.1 hck.2.1 hlh) (fun c55=>?_)
      refine QK (QD rfl) ?_
      refine Qd rfl (fun w F hF h9=>TB (x:=c55) (a:=ZB (el ss i2.j)) (n:=Qa (el c31.2 i.i).t.2 i2.j) hF h9.2 hk12 ⟨aa hbx.1 (by decide),aa hbx.2 (by decide)⟩) (fun c57=>?_)
      refine Qd rfl (fun w F hF h9=>TA (x:=i2.y) (y:=c57) hF h9.1.1.2 h9.2 ⟨aa hvs.1 (by omega),aa hvs.2 (by omega)⟩ ⟨aa hpz.1 (by decide),aa hpz.2 (by decide)⟩) (fun c58=>?_)
      refine VF<|QR (vs:=[_,_,_,_,_,_,_,_]) rfl rfl rfl Jq rfl .here .h8 wR<|QE<|Qk<|QC<|QB<|QA (Qs rfl rfl (by omega))<|wA rfl<|QE ?_
      exact Qo (⟨i2.j+1,c58,hlt2⟩) (by show(el c31.2 i.i).t.2.length - (i2.j+1)<(el c31.2 i.i).t.2.length - i2.j;omega) wT wG (fun F h9=>⟨h9.1.1.1.1,by show ZO F c58 (V7 _ (ss.map ZB) _ (i2.j+1));rw [Vj,if_pos hpos,I2 hls];exact h9.2⟩)
     ·
      have hpos:¬ Qa (el c31.2 i.i).t.2 i2.j>0:=wJ hc
      refine QO<|Qk<|QC<|QB<|QA (Qs rfl rfl (by omega))<|wA rfl<|QE ?_
      exact Qo (⟨i2.j+1,i2.y,hlt2⟩) (by show(el c31.2 i.i).t.2.length - (i2.j+1)<(el c31.2 i.i).t.2.length - i2.j;omega) wT wG (fun F h9=>⟨h9.1,by show ZO F i2.y (V7 _ (ss.map ZB) _ (i2.j+1));rw [Vj,if_neg hpos];exact h9.2⟩)
    ·
     have hge2:i2.j=(el c31.2 i.i).t.2.length:=by have:=wJ hc;omega
     refine Qz ?_
     repeat (first | refine Qb ?_ | refine QV (by rfl) ?_)
     refine Qc<|QC<|QB<|QA (QJ (vs:=[_,_,_,_,_,_,_,_]) rfl Jq .u2 .h8 rfl)<|QA (QJ (vs:=[_,_,_,_,_,_,_,_]) rfl Jq .here .h8 rfl) ?_
     refine QH rfl (fun w F hF h9=>qd (x:=i.x) (y:=i2.y) hF h9.1.1.2 h9.2 ⟨aa hes.1 (by decide),aa hes.2 (by decide)⟩ ⟨aa hvs.1 (by omega),aa hvs.2 (by omega)⟩) (fun c62=>?_)
     refine QR (vs:=[_,_,_,_,_,_,_,_]) rfl rfl rfl Jq rfl .u2 .h8 wR<|QE<|Qk<|QC<|QB<|QA (Qs rfl rfl (by omega))<|wA rfl<|QE ?_
     exact Qo (⟨i.i+1,c62,hlt⟩) (by show c31.2.length - (i.i+1)<c31.2.length - i.i;omega) wP (.cons _ (.cons _ wG)) (fun F h9=>⟨h9.1.1.1.1,by show ZO F c62 (X4 _ (JG (c31.2.take (i.i+1))));rw [Ak hlt,← hge2];exact h9.2⟩)
   ·
    have hge:i.i=c31.2.length:=by have:=wJ hc;omega
    refine Qz ?_
    repeat (first | refine Qb ?_ | refine QV (by rfl) ?_)
    refine Qc<|QC<|wE<|QA (QJ (vs:=[_,_,_,_,_,_,_,_]) rfl Jq .here .h8 rfl) ?_
    refine QH rfl (fun w F hF h9=>E8 hF h9.1.1.1.1.1.1.1 (x:=i.x) h9.2 ⟨aa hes.1 (by decide),aa hes.2 (by decide)⟩) (fun _=>?_)
    rw [hge,aq,e31]
    refine QA (QM rfl rfl)<|QA (QM rfl rfl)<|QR (vs:=[_,_]) rfl rfl rfl JU rfl .u1 .h2 wL<|wD rfl<|QS ?_
    exact Ja (()) rfl (.Jd (c:=[_,_]) rfl JU .u1 (.tmp rfl .nil)) (by unfold zT;rw [hn,if_pos hc0,if_pos hd0];rfl) (fun F h9=>trivial)
def KC (f:List UInt8) (b:Nat) (k:List Int):V5:=⟨f,⟨some ⟨b,0,none⟩,k.length,k.length⟩,k⟩
def NS (b:Nat) (ts:List V5):KG:=(⟨some ⟨b,0,none⟩,ts.length,ts.length⟩,ts)
theorem XA {F:Gs} {b:Nat} {k:List Int} {T:aK} (h:F b=some ((k.map Qy).toArray,T)):JR F ⟨some ⟨b,0,none⟩,k.length,k.length⟩ k:=⟨Q6.of h (by simp),rfl,ax _⟩
theorem CA {b:Nat} {ts:List V5} (h:∀ t∈ts,t.f.length≤1000000∧t.k.length≤1000000) (hl:ts.length≤1000000):VX (NS b ts):=⟨rfl,h,hl⟩
theorem YR.yE {F:Gs} {s:Sr} {ts:List V5} {p:Pt} (h:YR F s ts p) (hp:∀ e∈p,e.1.length≤1000000∧e.2.length≤1000000) (hl:p.length≤1000000):VX (s,ts):=by
 refine⟨h.2.2.2.2,fun t ht=>?_,?_⟩
 ·have:(t.f,t.k)∈J2 ts:=List.mem_map.2 ⟨t,ht,rfl⟩
  rw [h.2.2.1] at this
  exact hp _ this
 ·have:=congrArg ba h.2.2.1
  simp only [J2,ah] at this
  show ts.length≤_
  omega
theorem Ti {w:ag} {F:Gs} {a b:KG} {v:Int} {P Q R:Pt} (hF:Fits F w) (hGl:JB F) (hA:YW F [a,b]) (ht:∀ e∈[a,b],VX e) (hP:J2 a.2=P) (hQ:J2 b.2=Q) (hc:Zr v=0) (h1:XZ P v=0) (h2:XZ Q v=0) (h3:GL (Jp (JM (Q9 P) (Q9 Q)))=0) (h4:H8 (Jp (JM (Q9 P) (Q9 Q)))=R) :
  QT Tryz.prog 40 [a.1.v,b.1.v,.int .i64 v] w F (fun(c:KG)=>.tuple #[c.1.v,.int .i64 0]) (fun c F=>YR F c.1 c.2 R):=by
 have h:=Ik hF hGl hA ht (v:=v)
 have e:WM [a,b] v=0:=by simp [WM,hc,hP,hQ,h1,h2,Ql]
 rw [uP,uO,if_pos e,if_pos e,hP,hQ,h3,h4] at h
 exact h
theorem Nr {w:ag} {F:Gs} {a:KG} {n v:Int} {P R:Pt} (hF:Fits F w) (hGl:JB F) (hA:YW F [a]) (ht:∀ e∈[a],VX e) (hP:J2 a.2=P) (hc:Zr n=0) (h1:XZ P n=0) (hv:vE v n=0) (h3:GL (Jp (ZT v.toNat (Q9 P)))=0) (h4:H8 (Jp (ZT v.toNat (Q9 P)))=R) :
  QT Tryz.prog 41 [a.1.v,.int .i64 n,.int .i64 v] w F (fun(c:KG)=>.tuple #[c.1.v,.int .i64 0]) (fun c F=>YR F c.1 c.2 R):=by
 have h:=Sc hF hGl hA ht (n:=n) (v:=v)
 have e:Ql [WM [a] n,vE v n]=0:=by simp [WM,hc,hP,h1,hv,Ql]
 rw [gB,gA,if_pos e,if_pos e,hP,h3,h4] at h
 exact h
theorem UO {w:ag} {F:Gs} {a:KG} {q:Option Addr} {n cap:Nat} {ls:List KG} {v u:Int} {P R:Pt} {Ws:List Pt} (hF:Fits F w) (hGl:JB F) (hA:YW F [a]) (hta:VX a) (hR:Q6 F q n 1 (ls.map fun e=>e.1.v)) (hL:YW F ls) (hn:ls.length=n) (ht:∀ e∈ls,VX e) (hP:J2 a.2=P) (hW:(ls.map fun e=>J2 e.2)=Ws)
  (hv:0≤v∧v≤24) (hu:0≤u∧u≤24) (ha:XZ P v=0) (hnv:(n:Int)=v+1) (hall:Ql (Ws.map fun e=>XZ e u)=0) (ho:IB (Ws.map Q9) (u+1).toNat (Q9 P)) (h3:GL (Yg (Ws.map Q9) (u+1).toNat (Q9 P))=0) (h4:H8 (Yg (Ws.map Q9) (u+1).toNat (Q9 P))=R) :
  QT Tryz.prog 44 [a.1.v,.int .i64 v,.slice q n cap,.int .i64 u] w F (fun(c:KG)=>.tuple #[c.1.v,.int .i64 0]) (fun c F=>YR F c.1 c.2 R):=by
 have e1:FG ls=Ws.map Q9:=by rw [← hW,bH];rfl
 have e2:WM ls u=0:=by
  unfold WM
  rw [if_pos ((Kj u).2 hu),← hall,← hW,bH];rfl
 have h:=LA hF hGl hA hta hR hL hn ht hv hu (by rw [hP];exact ha) hnv e2 (by rw [e1,hP];exact ho) (q:=q) (cap:=cap)
 rw [e1,hP,h3,h4] at h
 exact h
structure Bd (p:List Tm) (k c z:Nat) (d:Int):Prop where
 can:Canon p
 wd:Zm k p
 nn:∀ t∈p,(∀ x∈t.2,0≤x)∧t.2.sum≤d
 ln:p.length≤c
 sz:∀ t∈p,JL t.1≤z
theorem Ek:∀ {l:List Int},(∀ x∈l,0≤x)→0≤l.sum
 |[],_=>bm _
 |a::l,h=>by
  have h1:=Ek (l:=l) fun x hx=>h x (av _ hx)
  have h2:=h a aw
  rw [aO];omega
theorem Pl:∀ k,(aR k (0:Int)).sum=0
 |0=>rfl
 |k+1=>by rw [List.replicate_succ,aO,Pl k];rfl
theorem Tq {l:List Int} (h:∀ x∈l,0≤x):∀ x∈l,x≤l.sum:=by
 induction l with
 |nil=>intro x hx;cases hx
 |cons a l ih =>
  intro x hx
  have h0:0≤l.sum:=Ek (fun y hy=>h y (av _ hy))
  have ha:=h a aw
  rw [aO]
  rcases List.mem_cons.1 hx with rfl | hx
  ·omega
  ·have:=ih (fun y hy=>h y (av _ hy)) x hx;omega
theorem Bd.pw {p:List Tm} {k c z:Nat} {d:Int} (h:Bd p k c z d) (hk:k≤1000) (hd:d≤1000000):∀ t∈p,PW t.2:=fun t ht=>by
 obtain ⟨h1,h2⟩:=h.nn t ht
 exact⟨fun x hx=>⟨h1 x hx,by have:=Tq h1 x hx;omega⟩,by rw [h.wd t ht];exact hk⟩
theorem Bd.mono {p:List Tm} {k c z c' z':Nat} {d d':Int} (h:Bd p k c z d) (hc:c≤c') (hz:z≤z') (hd:d≤d'):Bd p k c' z' d' :=
 ⟨h.can,h.wd,fun t ht=>⟨(h.nn t ht).1,Int.le_trans (h.nn t ht).2 hd⟩,aa h.ln hc,fun t ht=>aa (h.sz t ht) hz⟩
theorem WQ {q:List Tm} (hq:Canon q) {z:Nat} (hz:∀ t∈q,JL t.1≤z) (h1:1≤z) (x:List Int):JL (Jh q x)≤z:=by
 by_cases h:∃ t∈q,t.2=x
 ·obtain ⟨t,ht,rfl⟩:=h
  rw [V1 hq ht];exact hz t ht
 ·rw [Y6 fun t ht e=>h ⟨t,ht,e⟩]
  exact aa (by decide) h1
theorem DD {n z1 z2:Nat} {q:List Tm} (hq:Canon q) (hwq:Zm n q) (hz:∀ t∈q,JL t.1≤z2) (h1:1≤z2) (x:List Int):∀ (p:List Tm),Zm n p→(∀ t∈p,JL t.1≤z1)→JL (Jh (JM p q) x)≤p.length*(z1+z2+1)+1
 |[],_,_=>by show JL (0:Rat)≤_;exact aa (by decide) (Nat.le_add_left 1 _)
 |s::p,hw,hs=>by
  have ih:=DD hq hwq hz h1 x p hw.tail fun t ht=>hs t (av _ ht)
  rw [X2,Z7,EX (hw s aw) hwq,ar,aT,fb]
  split
  ·have h2:=Vc (s.1*Jh q (U9 x s.2)) (Jh (JM p q) x)
   have h3:=J9 s.1 (Jh q (U9 x s.2))
   have h4:=WQ hq hz h1 (U9 x s.2)
   have h5:=hs s aw
   omega
  ·rw [eY];omega
theorem F4 {a b:List Int} (h:a.length=b.length) (ha:∀ x∈a,0≤x) (hb:∀ x∈b,0≤x):(∀ x∈J4 a b,0≤x)∧(J4 a b).sum=a.sum+b.sum:=by
 induction a generalizing b with
 |nil=>cases b with
  |nil=>exact⟨fun x hx=>(by cases hx),rfl⟩
  |cons y b=>simp at h
 |cons x a ih=>cases b with
  |nil=>simp at h
  |cons y b =>
   have:=ih (b:=b) (by simpa using h) (fun x hx=>ha x (av _ hx)) (fun x hx=>hb x (av _ hx))
   have h1:=ha x aw
   have h2:=hb y aw
   show(∀ z∈(x+y)::J4 a b,0≤z)∧((x+y)::J4 a b).sum=_
   refine⟨fun z hz=>?_,?_⟩
   ·rcases List.mem_cons.1 hz with rfl | hz
    ·omega
    ·exact this.1 z hz
   ·rw [aO,this.2,aO,aO];omega
theorem Bd.yR {p q:List Tm} {k c1 z1 c2 z2:Nat} {d1 d2:Int} (hp:Bd p k c1 z1 d1) (hq:Bd q k c2 z2 d2):∀ t∈JM p q,t.2.length=k∧(∀ x∈t.2,0≤x)∧t.2.sum≤d1+d2:=fun t ht=>by
 obtain ⟨s,hs,u,hu,e⟩:=P7 ht
 have h1:=hp.wd s hs
 have h2:=hq.wd u hu
 obtain ⟨h3,h4⟩:=F4 (by omega) (hp.nn s hs).1 (hq.nn u hu).1
 rw [e]
 have h5:=(hp.nn s hs).2
 have h6:=(hq.nn u hu).2
 exact⟨by rw [KA (by omega)];exact h1,h3,by omega⟩
theorem Bd.mul {p q:List Tm} {k c1 z1 c2 z2:Nat} {d1 d2:Int} (hp:Bd p k c1 z1 d1) (hq:Bd q k c2 z2 d2) (h2:1≤z2):Bd (Jp (JM p q)) k (c1*c2) (c1*(z1+z2+1)+1) (d1+d2) where
 can:=ZF _
 wd:=(hp.wd.JM hq.wd).Jp
 nn:=fun t ht=>by
  obtain ⟨y,hy,e⟩:=Wx ht
  rw [← e];exact(hp.yR hq y hy).2
 ln:=by
  have h1:=Vl (JM p q)
  rw [WZ] at h1
  exact aa h1 (bc hp.ln hq.ln)
 sz:=fun t ht=>by
  rw [← V1 (ZF _) ht,KM]
  have h1:=DD hq.can hq.wd hq.sz h2 t.2 p hp.wd hp.sz
  have h3:p.length*(z1+z2+1)≤c1*(z1+z2+1):=aE _ hp.ln
  omega
theorem Bd.Zh {p:List Tm} {k c z:Nat} {d:Int} (h:Bd p k c z d):YtknegjaeoffnbaaGreatDoor.Zh p≤c*(z+1):=aa (H4 h.sz) (aE _ h.ln)
theorem Bd.zB {p q:List Tm} {k c1 z1 c2 z2:Nat} {d1 d2:Int} (hp:Bd p k c1 z1 d1) (hq:Bd q k c2 z2 d2) (hk:k≤1000) (h1:c1≤10000) (h2:c2≤10000) (hd:d1+d2≤1000000) (hd1:d1≤1000000) (hd2:d2≤1000000) (hs1:c1*(z1+1)≤20000000) (hs2:c2*(z2+1)≤20000000) (hs:c1*c2*(z1+z2+1)≤40000000):DK p q k where
 wp:=hp.wd
 wq:=hq.wd
 lp:=aa hp.ln h1
 lq:=aa hq.ln h2
 pp:=hp.pw hk hd1
 pq:=hq.pw hk hd2
 pm:=fun s hs t ht=>by
  have h1:=hp.wd s hs
  have h2:=hq.wd t ht
  obtain ⟨h3,h4⟩:=F4 (by omega) (hp.nn s hs).1 (hq.nn t ht).1
  have h5:=(hp.nn s hs).2
  have h6:=(hq.nn t ht).2
  exact⟨fun x hx=>⟨h3 x hx,by have:=Tq h3 x hx;omega⟩,by rw [KA (by omega),h1];exact hk⟩
 zp:=aa hp.Zh hs1
 zq:=aa hq.Zh hs2
 zm:=by
  have h3:=H4 (l:=JM p q) (k:=z1+z2) fun t ht=>by
   unfold JM Jw at ht
   obtain ⟨s,hs,h1⟩:=List.mem_flatMap.1 ht
   obtain ⟨u,hu,rfl⟩:=List.mem_map.1 h1
   have:=J9 s.1 u.1
   have:=hp.sz s hs
   have:=hq.sz u hu
   show JL (s.1*u.1)≤_
   omega
  rw [WZ] at h3
  have h4:p.length*q.length≤c1*c2:=bc hp.ln hq.ln
  have h5:p.length*q.length*(z1+z2+1)≤c1*c2*(z1+z2+1):=aE _ h4
  omega
theorem Bd.const (a:Rat) (k:Nat):Bd (Ka a k) k 1 (JL a) 0:=by
 unfold Ka
 by_cases h:a=0
 ·rw [if_pos h]
  exact⟨Canon.nil,fun _ h=>(by cases h),fun _ h=>(by cases h),ai _,fun _ h=>(by cases h)⟩
 ·rw [if_neg h]
  refine⟨⟨by simp,fun t ht=>by rw [List.mem_singleton.1 ht];exact h⟩,fun t ht=>by rw [List.mem_singleton.1 ht];simp,fun t ht=>?_,by simp,fun t ht=>by rw [List.mem_singleton.1 ht];exact ax _⟩
  rw [List.mem_singleton.1 ht]
  refine⟨fun x hx=>?_,?_⟩
  ·rw [List.eq_of_mem_replicate hx];exact bm _
  ·show(aR k (0:Int)).sum≤0
   rw [Pl];exact bm _
theorem Nz:∀ (a:List Int),J4 a (aR a.length 0)=a
 |[]=>rfl
 |x::a=>by
  show(x+0)::J4 a (aR a.length 0)=_
  rw [Nz a,Int.add_zero]
theorem Og {p:List Tm} {k:Nat} (hw:Zm k p):JM p (Ka 1 k)=p:=by
 rw [show Ka 1 k=[(1,aR k 0)] from by unfold Ka;rw [if_neg (by decide)]]
 induction p with
 |nil=>rfl
 |cons t p ih =>
  rw [X2,ih hw.tail]
  have:=hw t aw
  show [(t.1*1,J4 t.2 (aR k 0))]++p=_
  rw [Rat.mul_one,← this,Nz];rfl
theorem Bd.pow {w:List Tm} {k z:Nat} (h:Bd w k 3 z 2) (hz:1≤z):Bd (WC w k 0) k 1 1 0∧Bd (WC w k 1) k 3 (z+4) 2∧Bd (WC w k 2) k 9 (6*z+20) 4:=by
 have h0:Bd (WC w k 0) k 1 1 0:=(Bd.const 1 k).mono (ax _) (by decide) (bm _)
 have h1:Bd (WC w k 1) k 3 (z+4) 2:=(h0.mul h hz).mono (by omega) (by omega) (by omega)
 exact⟨h0,h1,(h1.mul h hz).mono (by omega) (by omega) (by omega)⟩
def Se:Nat→Nat
 |0=>1
 |1=>3
 |_=>9
def IN (z:Nat):Nat→Nat
 |0=>z
 |1=>2*z+6
 |_=>9*z+34
theorem GQ {l:List Int} (h:∀ x∈l,0≤x) (j:Nat):0≤(l.take j).sum∧(l.take j).sum≤l.sum:=by
 have h1:(l.take j).sum+(l.drop j).sum=l.sum:=by rw [← eO,aG]
 have h2:=Ek (l:=l.take j) fun x hx=>h x (eE hx)
 have h3:=Ek (l:=l.drop j) fun x hx=>h x (List.mem_of_mem_drop hx)
 omega
section
variable {c:Rat} {ws:List (List Tm)} {ks:List Int} {k z:Nat}
theorem Uk (hn:∀ x∈ks,0≤x) (h2:ks.sum≤2) (hw:∀ i,i<ks.length→Bd (el ws i) k 3 z 2) (hc:JL c≤z) (hz:1≤z):∀ j,j≤ks.length→Bd (Vq c ws ks k j) k (Se (ks.take j).sum.toNat) (IN z (ks.take j).sum.toNat) (2*(ks.take j).sum)
 |0,_=>(Bd.const c k).mono (ax _) hc (bm _)
 |j+1,hj=>by
  have ih:=Uk hn h2 hw hc hz j (by omega)
  obtain ⟨p0,p1,p2⟩:=(hw j (by omega)).pow hz
  have hs:=GQ hn j
  have hs1:=GQ hn (j+1)
  have hst:=Hn (l:=ks) (i:=j) (by omega)
  have hd:0≤Qa ks j:=by rw [Xy (by omega)];exact hn _ (JK (by omega))
  obtain ⟨s,hse⟩:∃ s:Nat,(ks.take j).sum=(s:Int):=⟨_,(bz hs.1).symm⟩
  obtain ⟨d,hde⟩:∃ d:Nat,Qa ks j=(d:Int):=⟨_,(bz hd).symm⟩
  rw [hse] at ih hst
  rw [hst,hde]
  have hsd:s+d≤2:=by omega
  have e1:((s:Int)+(d:Int)).toNat=s+d:=by omega
  rw [e1]
  rw [show((s:Int)).toNat=s from rfl] at ih
  show Bd (Jp (JM (Vq c ws ks k j) (WC (el ws j) k (Qa ks j).toNat))) k _ _ _
  rw [hde,show((d:Int)).toNat=d from rfl]
  match s,d,hsd with
  |s,0,_ =>
   rw [show WC (el ws j) k 0=Ka 1 k from rfl,Og ih.wd,WE ih.can]
   exact ih.mono (ax _) (ax _) (by omega)
  |0,1,_=>exact(ih.mul p1 (by omega)).mono (by simp [Se]) (by simp [Se,IN];omega) (by omega)
  |1,1,_=>exact(ih.mul p1 (by omega)).mono (by simp [Se]) (by simp [Se,IN];omega) (by omega)
  |0,2,_=>exact(ih.mul p2 (by omega)).mono (by simp [Se]) (by simp [Se,IN];omega) (by omega)
theorem kI (s:Nat):Se s≤9:=by unfold Se;split<;>omega
theorem yH {z:Nat} (s:Nat):IN z s≤9*z+34:=by unfold IN;split<;>omega
theorem Ns (hn:∀ x∈ks,0≤x) (h2:ks.sum≤2) (hw:∀ i,i<ks.length→Bd (el ws i) k 3 z 2) (hc:JL c≤z) (hz:1≤z) {j:Nat} (hj:j≤ks.length):Bd (Vq c ws ks k j) k 9 (9*z+34) 4 :=
 (Uk hn h2 hw hc hz j hj).mono (kI _) (yH _) (by have:=GQ hn j;omega)
theorem FZ {w:List Tm} (h:Bd w k 3 z 2) (hz:1≤z) {d:Nat} (hd:d≤2):Bd (WC w k d) k 9 (6*z+20) 4:=by
 obtain ⟨p0,p1,p2⟩:=h.pow hz
 match d,hd with
 |0,_=>exact p0.mono (by omega) (by omega) (by omega)
 |1,_=>exact p1.mono (by omega) (by omega) (by omega)
 |2,_=>exact p2
end
theorem Bd.add {p q:List Tm} {k c1 z1 c2 z2:Nat} {d:Int} (hp:Bd p k c1 z1 d) (hq:Bd q k c2 z2 d) (h1:1≤z1) (h2:1≤z2):Bd (Jp (p++q)) k (c1+c2) (z1+z2+1) d where
 can:=ZF _
 wd:=(hp.wd.append hq.wd).Jp
 nn:=fun t ht=>by
  obtain ⟨y,hy,e⟩:=Wx ht
  rw [← e]
  rcases List.mem_append.1 hy with hy | hy
  ·exact hp.nn y hy
  ·exact hq.nn y hy
 ln:=by
  have h3:=Vl (p++q)
  rw [ao] at h3
  have:=hp.ln
  have:=hq.ln
  omega
 sz:=fun t ht=>by
  rw [← V1 (ZF _) ht,KM,Z7]
  have h3:=Vc (Jh p t.2) (Jh q t.2)
  have h4:=WQ hp.can hp.sz h1 t.2
  have h5:=WQ hq.can hq.sz h2 t.2
  omega
structure gM (ws:List (List Tm)) (k z:Nat) (l:List Tm):Prop where
 ln:l.length≤6
 nn:∀ t∈l,(∀ x∈t.2,0≤x)∧t.2.sum≤2
 wl:∀ t∈l,t.2.length≤ws.length
 sz:∀ t∈l,JL t.1≤z
 ws:∀ w∈ws,Bd w k 3 z 2
theorem Uj {ws:List (List Tm)} {k z:Nat} {l:List Tm} (h:gM ws k z l) (hz:1≤z):∀ i,i≤l.length→Bd (Yg ws k (l.take i)) k (9*i) (1+i*(9*z+35)) 4
 |0,_=>⟨Canon.nil,fun _ h=>(by cases h),fun _ h=>(by cases h),ai _,fun _ h=>(by cases h)⟩
 |i+1,hi=>by
  have ih:=Uj h hz i (by omega)
  have hm:=JK (show i<l.length by omega)
  have hn:=h.nn _ hm
  have e:Yg ws k (l.take (i+1))=Jp (Yg ws k (l.take i)++Vq (el l i).1 ws (el l i).2 k (el l i).2.length):=by
   unfold Yg;rw [X7 (show i<l.length by omega),bE];rfl
  rw [e]
  have hw:∀ j,j<(el l i).2.length→Bd (el ws j) k 3 z 2:=fun j hj=>h.ws _ (JK (bB hj (h.wl _ hm)))
  have ht:=Ns (k:=k) hn.1 hn.2 hw (h.sz _ hm) hz (ax _)
  exact(ih.add ht (by omega) (by omega)).mono (by omega) (by rw [aT];omega) (by omega)
theorem kJ {ws:List (List Tm)} {k z:Nat} {l:List Tm} (h:gM ws k z l) (hz:1≤z) (hz2:z≤2400) (hk:k≤1000):IB ws k l:=by
 have hp:∀ i,i≤l.length→Bd (Yg ws k (l.take i)) k 54 130000 4:=fun i hi=>by
  have h1:=Uj h hz i hi
  have h2:=h.ln
  have h3:i*(9*z+35)≤6*21635:=bc (by omega) (by omega)
  exact h1.mono (by omega) (by omega) (bm _)
 have hw:∀ t∈l,∀ j,j<t.2.length→Bd (el ws j) k 3 z 2:=fun t ht j hj=>h.ws _ (JK (bB hj (h.wl _ ht)))
 have hfull:=hp l.length (ax _)
 rw [aq] at hfull
 refine⟨fun t ht j hj=>?_,fun i hi=>?_,hfull.pw hk (by omega),fun t ht=>aa (hfull.sz t ht) (by omega),aa hfull.ln (by omega)⟩
 ·have hn:=h.nn t ht
  have hb:=hw t ht j hj
  have hd:0≤Qa t.2 j∧Qa t.2 j≤2:=by
   rw [Xy hj]
   have:=Tq hn.1 _ (JK hj)
   exact⟨hn.1 _ (JK hj),by omega⟩
  have hm:=Ns (k:=k) hn.1 hn.2 (hw t ht) (h.sz t ht) hz (Nat.le_of_lt hj)
  have hpw:=FZ hb hz (d:=(Qa t.2 j).toNat) (by omega)
  refine⟨hm.zB hpw hk (by omega) (by omega) (by omega) (by omega) (by omega) (by omega) (by omega) (by omega),fun i hi=>?_⟩
  have hpi:=FZ hb hz (d:=i) (by omega)
  exact hpi.zB hb hk (by omega) (by omega) (by omega) (by omega) (by omega) (by omega) (by omega) (by omega)
 ·have hm:=JK hi
  have hn:=h.nn _ hm
  have h1:=hp i (by omega)
  have h2:=Ns (k:=k) hn.1 hn.2 (hw _ hm) (h.sz _ hm) hz (ax _)
  refine⟨h1.pw hk (by omega),h2.pw hk (by omega),aa h1.ln (by omega),aa h2.ln (by omega),?_⟩
  rw [Xc]
  have:=h1.Zh
  have:=h2.Zh
  omega
section
theorem Ol {p:Pt} {u:Int} {z:Nat} (h:Yv p u) (hu:0≤u) (hl:p.length≤3) (hd:∀ e∈p,e.2.sum≤2) (hz:∀ t∈Q9 p,JL t.1≤z):Bd (Q9 p) (u+1).toNat 3 z 2 where
 can:=h.can
 wd:=fun t ht=>by have:=h.wide t ht;omega
 nn:=fun t ht=>by
  refine⟨fun x hx=>(h.small t ht x hx).1,?_⟩
  unfold Q9 at ht
  obtain ⟨e,he,rfl⟩:=List.mem_map.1 ht
  exact hd e he
 ln:=by unfold Q9;rw [ah];exact hl
 sz:=hz
theorem KQ {F:Gs} {b:Nat} {ts:List V5} {T:aK} (h:F b=some ((ts.flatMap Kl).toArray,T)):Q6 F (NS b ts).1.q (NS b ts).1.n 2 ((NS b ts).2.flatMap Kl) :=
 Q6.of h (I0 (f:=Kl) Yb ts)
theorem Mz {b:Nat} {ts:List V5} (P:Pt) (hP:J2 ts=P) (hp:∀ e∈P,e.1.length≤1000000∧e.2.length≤1000000) (hl:P.length≤1000000):VX (NS b ts):=by
 refine CA (fun t ht=>?_) ?_
 ·have:(t.f,t.k)∈J2 ts:=List.mem_map.2 ⟨t,ht,rfl⟩
  rw [hP] at this;exact hp _ this
 ·have:=congrArg ba hP
  simp only [J2,ah] at this;omega
theorem tm1 {a:KG} (h:VX a):∀ e∈[a],VX e:=fun e he=>by rw [List.mem_singleton.1 he];exact h
theorem tm2 {a b:KG} (h:VX a) (k:VX b):∀ e∈[a,b],VX e:=fun e he=>by
 rcases List.mem_cons.1 he with rfl | he
 ·exact h
 ·exact tm1 k e he
theorem dR (a:List UInt8):Cg .neq (tx a) (tx a)=some (.bool false):=by simp [Cg,tx]
theorem PV {F:Gs} {t:V5} (h:JR F t.r t.k):Zx F [t]:=fun x hx=>by rw [List.mem_singleton.1 hx];exact h
theorem Nw {F:Gs} {t:V5} {ts:List V5} (h:JR F t.r t.k) (hs:Zx F ts):Zx F (t::ts):=fun x hx=>by
 rcases List.mem_cons.1 hx with rfl | hx
 ·exact h
 ·exact hs x hx
theorem j5 {F:Gs} {a:KG} (h1:Q6 F a.1.q a.1.n 2 (a.2.flatMap Kl)) (h2:Zx F a.2):YW F [a]:=fun x hx=>by rw [List.mem_singleton.1 hx];exact⟨h1,h2⟩
theorem pJ {F:Gs} {a:KG} {l:List KG} (h1:Q6 F a.1.q a.1.n 2 (a.2.flatMap Kl)) (h2:Zx F a.2) (hs:YW F l):YW F (a::l):=fun x hx=>by
 rcases List.mem_cons.1 hx with rfl | hx
 ·exact⟨h1,h2⟩
 ·exact hs x hx
section
variable [Dr] [df:Df] {N:Nat} {m:Sl} {S:ag→Prop} {ty:aK}
theorem Gz {yT:aK} {x y:bF} {a b c d:List UInt8} (hx:ev m x=some (.agg #[tx a,tx b])) (hy:ev m y=some (.agg #[tx c,tx d])) (h1:a=c) (h2:b=d):Qt Tryz.prog N m S (.binOp .neq 24 x y yT) ty (.bool false):=by
 have h:=OZ (N:=N) (m:=m) (S:=S) (ty:=ty) (yT:=yT) hx hy
 rw [h1,h2] at h
 simpa using h
end
theorem M6 {w:ag} {F:Gs} {a b:KG} {P:Pt} (hF:Fits F w) (hA:YR F a.1 a.2 P) (hB:Q6 F b.1.q b.1.n 2 (b.2.flatMap Kl)) (hB2:Zx F b.2) (hl:b.2.length=b.1.n) (hP:J2 b.2=P) (hp:∀ e∈P,e.1.length≤1000000∧e.2.length≤1000000) (hpl:P.length≤1000000) :
  QZ Tryz.prog 43 [a.1.v,b.1.v] w F (.bool true):=by
 have ht:=hA.yE hp hpl
 have h:=EE (q:=a.1.q) (n:=a.1.n) (cap:=a.1.cap) (q2:=b.1.q) (n2:=b.1.n) (cap2:=b.1.cap) (a:=a.2) (b:=b.2) hF hA.1 hA.2.1 hB hB2 hA.2.2.2.2 hl (fun t h=>(ht.2.1 t h).2) ht.2.2
 rw [decide_eq_true (hA.2.2.1.trans hP.symm)] at h
 exact h
variable {w:ag} {F:Gs}
theorem aw1 (hF:Fits F w) (hGl:JB F):QZ Tryz.prog 71 [tx [49,50,46,53,48]] w F (.tuple #[tx [50,53,47,50],.int .i64 0]):=by
 have h:=Ow (s:=[49,50,46,53,48]) hF hGl (by decide)
 rw [show R4 [49,50,46,53,48]=([50,53,47,50],0) from by decide +kernel] at h
 exact h
theorem aw2 (hF:Fits F w) (hGl:JB F):QZ Tryz.prog 17 [tx [45,51,47,56],.int .i64 2] w F (.tuple #[tx [45,49,47,52],.int .i64 0]):=by
 have h:=Ii (s:=[45,51,47,56]) (b:=2) hF hGl (by decide)
 rw [show Th [45,51,47,56] 2=([45,49,47,52],0) from by decide +kernel] at h
 exact h
theorem aw3 (hF:Fits F w) (hGl:JB F):QZ Tryz.prog 18 [.agg #[tx [49,47,51],tx [50,47,51]],.int .i64 2] w F (.tuple #[.agg #[tx [49,47,52],tx [51,47,52]],.int .i64 0]):=by
 have h:=Ue (lo:=[49,47,51]) (hi:=[50,47,51]) (b:=2) hF hGl (by decide)
 rw [show AT [49,47,51] [50,47,51] 2=(([49,47,52],[51,47,52]),0) from by decide +kernel] at h
 exact h
theorem aw4 (hF:Fits F w) (hGl:JB F):QZ Tryz.prog 47 [.agg #[tx [45,49],tx [50]],.agg #[tx [45,51],tx [49]]] w F (.tuple #[.agg #[tx [45,54],tx [51]],.int .i64 0]):=by
 have h:=AX (a:=([45,49],[50])) (b:=([45,51],[49])) hF hGl (by unfold short;decide) (by unfold short;decide)
 rw [show Bk YK ([45,49],[50]) ([45,51],[49])=(([45,54],[51]),0) from by decide +kernel] at h
 exact h
theorem aw5 (hF:Fits F w) (hGl:JB F):QZ Tryz.prog 48 [.agg #[tx [45,49],tx [50]],.int .i64 2] w F (.tuple #[.agg #[tx [48],tx [52]],.int .i64 0]):=by
 have h:=TT (lo:=[45,49]) (hi:=[50]) (n:=2) hF hGl (by decide)
 rw [show IW [45,49] [50] 2=(([48],[52]),0) from by decide +kernel] at h
 exact h
theorem PS {a:KG} {q:Option Addr} {n cap:Nat} {ss:List (List UInt8×List UInt8)} {P:Pt} {lo hi:List UInt8} (hF:Fits F w) (hGl:JB F) (hR:Q6 F a.1.q a.1.n 2 (a.2.flatMap Kl)) (hA:Zx F a.2) (ht:VX a) (hS:Q6 F q n 2 (ss.flatMap PJ)) (hn:ss.length=n) (hl:∀ s∈ss,s.1.length≤1000000∧s.2.length≤1000000) (hnb:n≤1000000) (hP:J2 a.2=P) (h:zT P ss=((lo,hi),0)) :
  QZ Tryz.prog 81 [a.1.v,.slice q n cap] w F (.tuple #[.agg #[tx lo,tx hi],.int .i64 0]):=by
 have h1:=PB (cap:=cap) hF hGl hR hA ht hS hn hl hnb
 rw [hP,h] at h1
 exact h1
theorem QAA (hF:Fits F w):QZ Tryz.prog 66 [tx [120,95,49]] w F (.bool true):=by
 have h:=T4 (s:=[120,95,49]) hF (by decide)
 rw [show P5 [120,95,49]=true from by decide +kernel] at h
 exact h
theorem c9 (hF:Fits F w):QZ Tryz.prog 66 [tx [49,120]] w F (.bool false):=by
 have h:=T4 (s:=[49,120]) hF (by decide)
 rw [show P5 [49,120]=false from by decide +kernel] at h
 exact h
theorem kQ:IB ([[([49],[0])],[([49],[1]),([45,49],[0])]].map Q9) ((0:Int)+1).toNat (Q9 [([49],[0,2]),([49],[1,0])]):=by
 refine kJ (z:=2400) ⟨by decide +kernel,by decide +kernel,by decide +kernel,by decide +kernel,fun w hw=>?_⟩ (by decide) (by decide) (by decide)
 simp only [aC,bw,aP,aA,or_false] at hw
 rcases hw with rfl | rfl
 ·exact Ol (KU (v:=0) (by decide +kernel)) (by decide) (by decide) (by decide) (by decide +kernel)
 ·exact Ol (KU (v:=0) (by decide +kernel)) (by decide) (by decide) (by decide) (by decide +kernel)
theorem j3 (hF:Fits F w) (hGl:JB F):QZ Tryz.prog 16 [] w F (.bool true):=by
 refine QT.intro (G:=fun F=>JB F) Tryz.func16 rfl (by rfl) rfl rfl hF (fun F' hF'=>hGl.le hF')<|wE<|wD rfl<|wE<|QH rfl (fun w F hF hGl=>aw1 hF hGl) (fun _=>wA rfl<|QA (QM rfl rfl)<|QA (QM rfl rfl)<|wB rfl<|wD rfl<|wE<|QH rfl (fun w F hF h9=>aw2 hF h9.1) (fun _=>wA rfl<|QA (QM rfl rfl)<|QA (QM rfl rfl)<|wB rfl<|wB rfl<|QE ?_))
 refine QC<|wE<|QA (Q7 rfl Y8 Zy (.cons (vs:=[_]) rfl rfl rfl .h1 (.cons (vs:=[_]) rfl rfl rfl (.skip .h1) .nil)))<|QH rfl (fun w F hF h9=>aw3 hF h9.1.1) (fun _=>wA rfl<|QA (QM rfl rfl)<|QA (QM rfl rfl)<|Qg Zy (fun b5=>QR (vs:=[_,_]) rfl rfl rfl JU rfl .here .h2 wL<|wD rfl<|wE<|QA (Q7 rfl Y8 Zy (.cons (vs:=[_]) rfl rfl rfl .h1 (.cons (vs:=[_]) rfl rfl rfl (.skip .h1) .nil)))<|QA (Q7 rfl Y8 Zy (.cons (vs:=[_]) rfl rfl rfl .h1 (.cons (vs:=[_]) rfl rfl rfl (.skip .h1) .nil)))<|QH rfl (fun w F hF h9=>aw4 hF h9.1.1.1) (fun _=>wA rfl<|QA (QM rfl rfl)<|QA (QM rfl rfl)<|Qg Zy (fun b7=>QR (vs:=[_,_]) rfl rfl rfl JU rfl .here .h2 wL<|wB rfl<|QE ?_))))
 refine QC<|wE<|QA (Q7 rfl Y8 Zy (.cons (vs:=[_]) rfl rfl rfl .h1 (.cons (vs:=[_]) rfl rfl rfl (.skip .h1) .nil)))<|QH rfl (fun w F hF h9=>aw5 hF h9.1.1.1.1) (fun _=>wA rfl<|QA (QM rfl rfl)<|QA (QM rfl rfl)<|Qg Zy (fun b9=>QR (vs:=[_,_]) rfl rfl rfl JU rfl .here .h2 wL<|wD rfl<|wE<|QW rfl (Q8 Qf) Qp Vv rfl rfl (fun b44=>QA (Q7 rfl ZW Xm (.cons (vs:=[_]) rfl rfl rfl .h1 (.cons (vs:=[_]) rfl rfl rfl (.skip .h1) .nil)))<|QW rfl (Q8 Qf) Qp Vv rfl rfl (fun b46=>QA (Q7 rfl ZW Xm (.cons (vs:=[_]) rfl rfl rfl .h1 (.cons (vs:=[_]) rfl rfl rfl (.skip .h1) .nil)))<|QW rfl (Q8 Xq) XT Xm rfl rfl (fun b48=>wD rfl<|QG<|QB ?_)))))
 refine wA rfl<|wA rfl<|QH rfl (fun w F hF h9=>Ti (a:=(NS b48 [KC [49] b44 [1,0],KC [49] b46 [0,1]])) (b:=(NS b48 [KC [49] b44 [1,0],KC [49] b46 [0,1]])) (P:=[([49],[1,0]),([49],[0,1])]) (Q:=[([49],[1,0]),([49],[0,1])]) (R:=[([49],[2,0]),([50],[1,1]),([49],[0,2])]) hF h9.1.1.1.1.1.1.1.1 (pJ (a:=(NS b48 [KC [49] b44 [1,0],KC [49] b46 [0,1]])) (KQ (ts:=[KC [49] b44 [1,0],KC [49] b46 [0,1]]) h9.2) (Nw (XA (k:=[1,0]) h9.1.1.2) (PV (XA (k:=[0,1]) h9.1.2))) (j5 (a:=(NS b48 [KC [49] b44 [1,0],KC [49] b46 [0,1]])) (KQ (ts:=[KC [49] b44 [1,0],KC [49] b46 [0,1]]) h9.2) (Nw (XA (k:=[1,0]) h9.1.1.2) (PV (XA (k:=[0,1]) h9.1.2))))) (tm2 (Mz [([49],[1,0]),([49],[0,1])] rfl (by decide) (by decide)) (Mz [([49],[1,0]),([49],[0,1])] rfl (by decide) (by decide))) rfl rfl (by decide +kernel) (by decide +kernel) (by decide +kernel) (by decide +kernel) (by decide +kernel)) (fun c52=>wA rfl<|QA (QM rfl rfl)<|QA (QM rfl rfl)<|wB rfl<|wD rfl<|wE<|QW rfl (Q8 Qf) Qp Vv rfl rfl (fun b56=>QA (Q7 rfl ZW Xm (.cons (vs:=[_]) rfl rfl rfl .h1 (.cons (vs:=[_]) rfl rfl rfl (.skip .h1) .nil)))<|QW rfl (Q8 Qf) Qp Vv rfl rfl (fun b58=>QA (Q7 rfl ZW Xm (.cons (vs:=[_]) rfl rfl rfl .h1 (.cons (vs:=[_]) rfl rfl rfl (.skip .h1) .nil)))<|QW rfl (Q8 Qf) Qp Vv rfl rfl (fun b60=>QA (Q7 rfl ZW Xm (.cons (vs:=[_]) rfl rfl rfl .h1 (.cons (vs:=[_]) rfl rfl rfl (.skip .h1) .nil)))<|QW rfl (Q8 Xq) XT Xm rfl rfl (fun b62=>QH rfl (fun w F hF h9=>Nr (a:=(NS b62 [KC [50] b56 [0,2],KC [45,51] b58 [1,0],KC [49] b60 [0,0]])) (P:=[([50],[0,2]),([45,51],[1,0]),([49],[0,0])]) (R:=[([52],[0,1])]) hF h9.1.1.1.1.1.1.1.1.1.1.1.1.1 (j5 (a:=(NS b62 [KC [50] b56 [0,2],KC [45,51] b58 [1,0],KC [49] b60 [0,0]])) (KQ (ts:=[KC [50] b56 [0,2],KC [45,51] b58 [1,0],KC [49] b60 [0,0]]) h9.2) (Nw (XA (k:=[0,2]) h9.1.1.1.2) (Nw (XA (k:=[1,0]) h9.1.1.2) (PV (XA (k:=[0,0]) h9.1.2))))) (tm1 (Mz [([50],[0,2]),([45,51],[1,0]),([49],[0,0])] rfl (by decide) (by decide))) rfl (by decide +kernel) (by decide +kernel) (by decide +kernel) (by decide +kernel) (by decide +kernel)) (fun c63=>wA rfl<|QA (QM rfl rfl)<|QA (QM rfl rfl)<|wB rfl<|wB rfl ?_))))))
 refine wC<|wE<|QW rfl (Q8 Qf) Qp Vv rfl rfl (fun b67=>QA (Q7 rfl ZW Xm (.cons (vs:=[_]) rfl rfl rfl .h1 (.cons (vs:=[_]) rfl rfl rfl (.skip .h1) .nil)))<|QW rfl (Q8 Qf) Qp Vv rfl rfl (fun b69=>QA (Q7 rfl ZW Xm (.cons (vs:=[_]) rfl rfl rfl .h1 (.cons (vs:=[_]) rfl rfl rfl (.skip .h1) .nil)))<|QW rfl (Q8 Xq) XT Xm rfl rfl (fun b71=>QA (Q7 rfl Y8 Zy (.cons (vs:=[_]) rfl rfl rfl .h1 (.cons (vs:=[_]) rfl rfl rfl (.skip .h1) .nil)))<|QA (Q7 rfl Y8 Zy (.cons (vs:=[_]) rfl rfl rfl .h1 (.cons (vs:=[_]) rfl rfl rfl (.skip .h1) .nil)))<|QW rfl (Q8 GC) JU Zy rfl rfl (fun b74=>QH rfl (fun w F hF h9=>PS (a:=(NS b71 [KC [49] b67 [0,2],KC [45,49] b69 [0,1]])) (ss:=[([48],[57]),([48],[49])]) (P:=[([49],[0,2]),([45,49],[0,1])]) (lo:=[45,49]) (hi:=[49]) hF h9.1.1.1.1.1.1.1.1.1.1.1.1.1.1.1.1.1.1 (KQ (ts:=[KC [49] b67 [0,2],KC [45,49] b69 [0,1]]) h9.1.2) (Nw (XA (k:=[0,2]) h9.1.1.1.2) (PV (XA (k:=[0,1]) h9.1.1.2))) (Mz [([49],[0,2]),([45,49],[0,1])] rfl (by decide) (by decide)) (Q6.of (n:=2) (sz:=2) (cs:=[([48],[57]),([48],[49])].flatMap PJ) h9.2 rfl) rfl (by decide) (by decide) rfl (by decide +kernel)) (fun _=>wA rfl<|QA (QM rfl rfl)<|QA (QM rfl rfl)<|Qg Zy (fun b16=>QR (vs:=[_,_]) rfl rfl rfl JU rfl .here .h2 wL<|wD rfl<|wE<|QW rfl (Q8 Qf) Qp Vv rfl rfl (fun b79=>QA (Q7 rfl ZW Xm (.cons (vs:=[_]) rfl rfl rfl .h1 (.cons (vs:=[_]) rfl rfl rfl (.skip .h1) .nil))) ?_)))))))
 refine QW rfl (Q8 Qf) Qp Vv rfl rfl (fun b81=>QA (Q7 rfl ZW Xm (.cons (vs:=[_]) rfl rfl rfl .h1 (.cons (vs:=[_]) rfl rfl rfl (.skip .h1) .nil)))<|QW rfl (Q8 Xq) XT Xm rfl rfl (fun b83=>QW rfl (Q8 Qf) Qp Vv rfl rfl (fun b84=>QA (Q7 rfl ZW Xm (.cons (vs:=[_]) rfl rfl rfl .h1 (.cons (vs:=[_]) rfl rfl rfl (.skip .h1) .nil)))<|QW rfl (Q8 Xq) XT Xm rfl rfl (fun b86=>QW rfl (Q8 Qf) Qp Vv rfl rfl (fun b87=>QA (Q7 rfl ZW Xm (.cons (vs:=[_]) rfl rfl rfl .h1 (.cons (vs:=[_]) rfl rfl rfl (.skip .h1) .nil)))<|QW rfl (Q8 Qf) Qp Vv rfl rfl (fun b89=>QA (Q7 rfl ZW Xm (.cons (vs:=[_]) rfl rfl rfl .h1 (.cons (vs:=[_]) rfl rfl rfl (.skip .h1) .nil)))<|QW rfl (Q8 Xq) XT Xm rfl rfl (fun b91=>QW rfl (Q8 D9) Mt zz rfl rfl (fun b92=>QH rfl (fun w F hF h9=>UO (a:=(NS b83 [KC [49] b79 [0,2],KC [49] b81 [1,0]])) (ls:=[(NS b86 [KC [49] b84 [0]]),(NS b91 [KC [49] b87 [1],KC [45,49] b89 [0]])]) (P:=[([49],[0,2]),([49],[1,0])]) (Ws:=[[([49],[0])],[([49],[1]),([45,49],[0])]]) (R:=[([49],[2]),([45,50],[1]),([50],[0])]) hF h9.1.1.1.1.1.1.1.1.1.1.1.1.1.1.1.1.1.1.1.1.1.1.1.1.1.1.1.1 (j5 (a:=(NS b83 [KC [49] b79 [0,2],KC [49] b81 [1,0]])) (KQ (ts:=[KC [49] b79 [0,2],KC [49] b81 [1,0]]) h9.1.1.1.1.1.1.2) (Nw (XA (k:=[0,2]) h9.1.1.1.1.1.1.1.1.2) (PV (XA (k:=[1,0]) h9.1.1.1.1.1.1.1.2)))) (Mz [([49],[0,2]),([49],[1,0])] rfl (by decide) (by decide)) (Q6.of (n:=2) (sz:=1) (cs:=[(NS b86 [KC [49] b84 [0]]),(NS b91 [KC [49] b87 [1],KC [45,49] b89 [0]])].map fun e=>e.1.v) h9.2 rfl) (pJ (a:=(NS b86 [KC [49] b84 [0]])) (KQ (ts:=[KC [49] b84 [0]]) h9.1.1.1.1.2) (PV (XA (k:=[0]) h9.1.1.1.1.1.2)) (j5 (a:=(NS b91 [KC [49] b87 [1],KC [45,49] b89 [0]])) (KQ (ts:=[KC [49] b87 [1],KC [45,49] b89 [0]]) h9.1.2) (Nw (XA (k:=[1]) h9.1.1.1.2) (PV (XA (k:=[0]) h9.1.1.2))))) rfl (tm2 (Mz [([49],[0])] rfl (by decide) (by decide)) (Mz [([49],[1]),([45,49],[0])] rfl (by decide) (by decide))) rfl rfl (by decide) (by decide) (by decide +kernel) (by decide) (by decide +kernel) kQ (by decide +kernel) (by decide +kernel)) (fun c93=>wA rfl<|QA (QM rfl rfl)<|QA (QM rfl rfl)<|wB rfl<|wD rfl<|QG<|wF rfl<|wA rfl ?_)))))))))
 refine QA (Qs rfl rfl (by omega))<|wA rfl<|QA (Qs rfl rfl (by omega))<|wA rfl<|QA (Qs rfl rfl (by omega))<|wA rfl<|QA (Qs rfl rfl (by omega))<|wA rfl<|QA (Qs rfl rfl (by omega))<|wA rfl<|QA (Qs rfl rfl (by omega))<|wA rfl<|QA (Qs rfl rfl (by omega))<|wA rfl<|QA (Qs rfl rfl (by omega))<|QA (QU (v:=.bool false) rfl rfl rfl)<|wA rfl<|QL rfl rfl<|wA rfl<|QL rfl rfl<|QA (QU (v:=.bool false) rfl rfl (dR _))<|QA (Qh rfl rfl rfl)<|wA rfl<|QL rfl rfl<|wA rfl ?_
 refine QL rfl rfl<|QA (QU (v:=.bool false) rfl rfl (dR _))<|QA (Qh rfl rfl rfl)<|wA rfl<|QL rfl rfl<|QA (QJ (vs:=[_,_]) rfl JU .u3 .h2 rfl)<|QL rfl rfl<|QA (Q7 rfl Y8 Zy (.cons (vs:=[_]) rfl rfl rfl .h1 (.cons (vs:=[_]) rfl rfl rfl (.skip .h1) .nil)))<|QL rfl rfl<|QA (Gz rfl rfl rfl rfl)<|QA (Qh rfl rfl rfl)<|wA rfl<|QL rfl rfl<|QA (QJ (vs:=[_,_]) rfl JU .u2 .h2 rfl)<|QL rfl rfl<|QA (Q7 rfl Y8 Zy (.cons (vs:=[_]) rfl rfl rfl .h1 (.cons (vs:=[_]) rfl rfl rfl (.skip .h1) .nil)))<|QL rfl rfl<|QA (Gz rfl rfl rfl rfl)<|QA (Qh rfl rfl rfl)<|wA rfl<|QL rfl rfl<|QA (QJ (vs:=[_,_]) rfl JU .u1 .h2 rfl)<|QL rfl rfl<|QA (Q7 rfl Y8 Zy (.cons (vs:=[_]) rfl rfl rfl .h1 (.cons (vs:=[_]) rfl rfl rfl (.skip .h1) .nil)))<|QL rfl rfl ?_
 refine QA (Gz rfl rfl rfl rfl)<|QA (Qh rfl rfl rfl)<|wA rfl<|QL rfl rfl<|QA (QJ (vs:=[_,_]) rfl JU .here .h2 rfl)<|QL rfl rfl<|QA (Q7 rfl Y8 Zy (.cons (vs:=[_]) rfl rfl rfl .h1 (.cons (vs:=[_]) rfl rfl rfl (.skip .h1) .nil)))<|QL rfl rfl<|QA (Gz rfl rfl rfl rfl)<|QA (Qh rfl rfl rfl)<|wC<|YQ rfl<|QO<|QC<|QG<|wF rfl<|QW rfl (Q8 Qf) Qp Vv rfl rfl (fun b143=>QA (Q7 rfl ZW Xm (.cons (vs:=[_]) rfl rfl rfl .h1 (.cons (vs:=[_]) rfl rfl rfl (.skip .h1) .nil)))<|QW rfl (Q8 Qf) Qp Vv rfl rfl (fun b145=>QA (Q7 rfl ZW Xm (.cons (vs:=[_]) rfl rfl rfl .h1 (.cons (vs:=[_]) rfl rfl rfl (.skip .h1) .nil)))<|QW rfl (Q8 Qf) Qp Vv rfl rfl (fun b147=>QA (Q7 rfl ZW Xm (.cons (vs:=[_]) rfl rfl rfl .h1 (.cons (vs:=[_]) rfl rfl rfl (.skip .h1) .nil))) ?_)))
 refine QW rfl (Q8 Xq) XT Xm rfl rfl (fun b149=>QH rfl (fun w F hF h9=>M6 (a:=c52) (b:=(NS b149 [KC [49] b143 [2,0],KC [50] b145 [1,1],KC [49] b147 [0,2]])) (P:=[([49],[2,0]),([50],[1,1]),([49],[0,2])]) hF h9.1.1.1.1.1.1.1.1.1.1.1.1.1.1.1.1.1.1.1.1.1.1.1.1.2 (KQ (ts:=[KC [49] b143 [2,0],KC [50] b145 [1,1],KC [49] b147 [0,2]]) h9.2) (Nw (XA (k:=[2,0]) h9.1.1.1.2) (Nw (XA (k:=[1,1]) h9.1.1.2) (PV (XA (k:=[0,2]) h9.1.2)))) rfl rfl (by decide) (by decide)) (fun _=>QA (Yc rfl)<|wA rfl<|QL rfl rfl<|wA rfl<|QL rfl rfl<|QW rfl (Q8 Qf) Qp Vv rfl rfl (fun b154=>QL rfl rfl<|QA (Q7 rfl ZW Xm (.cons (vs:=[_]) rfl rfl rfl .h1 (.cons (vs:=[_]) rfl rfl rfl (.skip .h1) .nil)))<|QL rfl rfl<|QW rfl (Q8 Xq) XT Xm rfl rfl (fun b156=>QL rfl rfl<|QH rfl (fun w F hF h9=>M6 (a:=c63) (b:=(NS b156 [KC [52] b154 [0,1]])) (P:=[([52],[0,1])]) hF h9.1.1.1.1.1.1.1.1.1.1.1.1.1.1.1.1.1.1.1.1.1.1.2 (KQ (ts:=[KC [52] b154 [0,1]]) h9.2) (PV (XA (k:=[0,1]) h9.1.2)) rfl rfl (by decide) (by decide)) (fun _=>QL rfl rfl<|QA (Yc rfl)<|QA (Qh rfl rfl rfl)<|wC<|YQ rfl<|QO<|QC<|wE<|wA rfl ?_)))))
 refine QW rfl (Q8 Qf) Qp Vv rfl rfl (fun b161=>QA (Q7 rfl ZW Xm (.cons (vs:=[_]) rfl rfl rfl .h1 (.cons (vs:=[_]) rfl rfl rfl (.skip .h1) .nil)))<|QW rfl (Q8 Qf) Qp Vv rfl rfl (fun b163=>QA (Q7 rfl ZW Xm (.cons (vs:=[_]) rfl rfl rfl .h1 (.cons (vs:=[_]) rfl rfl rfl (.skip .h1) .nil)))<|QW rfl (Q8 Qf) Qp Vv rfl rfl (fun b165=>QA (Q7 rfl ZW Xm (.cons (vs:=[_]) rfl rfl rfl .h1 (.cons (vs:=[_]) rfl rfl rfl (.skip .h1) .nil)))<|QW rfl (Q8 Xq) XT Xm rfl rfl (fun b167=>QH rfl (fun w F hF h9=>M6 (a:=c93) (b:=(NS b167 [KC [49] b161 [2],KC [45,50] b163 [1],KC [50] b165 [0]])) (P:=[([49],[2]),([45,50],[1]),([50],[0])]) hF h9.1.1.1.1.1.1.1.1.1.1.1.1.2 (KQ (ts:=[KC [49] b161 [2],KC [45,50] b163 [1],KC [50] b165 [0]]) h9.2) (Nw (XA (k:=[2]) h9.1.1.1.2) (Nw (XA (k:=[1]) h9.1.1.2) (PV (XA (k:=[0]) h9.1.2)))) rfl rfl (by decide) (by decide)) (fun _=>wA rfl<|QL rfl rfl<|QH rfl (fun w F hF h9=>QAA hF) (fun _=>QA (Qi rfl rfl rfl)<|wA rfl<|QL rfl rfl<|QH rfl (fun w F hF h9=>c9 hF) (fun _=>QL rfl rfl<|QA (Yc rfl)<|QA (Qi rfl rfl rfl)<|wD rfl<|QS ?_)))))))
 exact wH rfl rfl (rfl) (fun F h9=>trivial)
end
end Go.Proofs.YtknegjaeoffnbaaGreatDoor
