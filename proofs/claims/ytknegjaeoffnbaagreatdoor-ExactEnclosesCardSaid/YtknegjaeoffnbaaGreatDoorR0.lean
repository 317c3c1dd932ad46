/- Steps of the proof of the theorem in the last file. -/
import Derived.WalkKit
import Derived.WalkSpells
import Derived.WalkLawsBesides
import Derived.Lib.Hide
import Derived.Deep.RegionHeld3
import Derived.StillTail
import Derived.Deep.LoopGhost
import Derived.IntWalk
import Derived.Test.YtknegjaeoffnbaaGreatDoorProg
import Derived.KernelRfl
import Derived.Deep.QuietTactic
import Derived.BigQuiet
import Derived.Laws.Externs
import Derived.Shelf.Strings.Builder1
import Derived.Shelf.Strings.Builder2
import Derived.Shelf.Small.Bits
import Derived.Shelf.Small.Wraps
import Derived.Shelf.Strconv.Atoi
import Derived.Shelf.Strconv.Itoa0
import Derived.Shelf.Strconv.Itoa1
import Derived.Shelf.LaysM
import Derived.Shelf.Strconv.Itoa2
import Derived.Shelf.Strconv.Itoa3
import Derived.Shelf.Strings.Search1
import Derived.Shelf.Strings.Search2
import Derived.Shelf.Strings.Cut
import Derived.Shelf.Strings.Prefix
import Derived.Shelf.Bits.Mul64
import Derived.Shelf.Strings.Repeat
import Derived.Ground.Names2Prog
import Derived.Shelf.Slices.Clone
import Derived.Shelf.Slices.SearchI
import Derived.Ground.SlgnProg
import Derived.Shelf.SlicesE.Clone
set_option linter.all false
set_option maxHeartbeats 4000000
open Go renaming Value → aa,World → ab,TypeId → ae,Operand → af,Program → au
open Go.Lib renaming hid → ag,bitLen → bg,run_eql_slice_nil → bY,trimPrefix → fF,hasPrefix → fK,pow10Tab → fR,cut → fS
open Array renaming getElem?_eq_none → ah,getElem?_setIfInBounds_ne → aD,getElem?_modify → aL,replicate → bE,ext_getElem? → bH,ext' → bV,foldl_toList → ei,range → eS
open List renaming take_of_length_le → ai,length_take → aq,replicate → az,length_append → aK,getElem?_eq_none → aM,length_cons → aP,map_append → bm,getD → bn,sublist_cons_self → bw,getElem?_drop → bI,drop_eq_getElem_cons → bJ,map_cons → bL,take_length → bP,nil_append → bW,getElem?_append → bZ,replicate_succ → eb,append_assoc → ep,foldl_cons → eC,range → eG,mapM_cons → eH,drop_eq_nil_of_le → eM,take_append_drop → eQ,replicate_zero → eW,mem_map_of_mem → eX,nodup_append → fb,length_drop → fg,getElem_mem → fh,cons_append → fi,append_nil → fq,take_zero → fv,drop_zero → fy,range' → fO
open Go.Region renaming wanted → aj,ready → aC,binds → aI,Mode → aZ,waitsFor → bj,chainB → eI,sinkB → eL,waitsFor_spec → eN,seqB → fD
open Int renaming mul_le_mul_of_nonneg_left → ak,eq_ofNat_of_zero_le → av,mul_le_mul_of_nonneg_right → aE,pow_succ → aO,mul_nonneg → aQ,natCast_pow → aW,natCast_mul → aX,le_refl → bM,emod_eq_of_lt → bN,natCast_emod → bR,natCast_ediv → bS,toNat_natCast → eu,le_of_lt → ew,lt_trichotomy → fj,ediv_nonneg → fz,mul_le_mul → fC,mul_comm → fP,add_comm → fQ,pow_add → fV,one_mul → fW,mul_add → fX
open Option.some renaming injEq → ao,inj → aB
open Go.Sem renaming run_bind → ar,run_pure → aJ
open Go.Result renaming andThen_ok → aw
open Go.Shelf renaming Ren → ax
open Nat renaming lt_or_ge → ay,le_refl → aA,mul_comm → aF,add_mul → aH,min_eq_left → aU,div_add_mod → aV,div_lt_iff_lt_mul → aY,mul_le_mul_right → bc,beq → bh,zero_add → bA,mod_eq_of_lt → bD,div_mul_le_self → bF,zero_le → cb,mod_lt → ej,add_right_comm → ek,le_trans → er,pow_add → eB,two_pow_pos → eE,sub_self → eO,add_zero → eP,le_of_ble_eq_true → eT,mul_le_mul_left → eZ,lt_of_lt_of_le → e8,eq_zero_or_pos → e9,lt_trichotomy → ff,strongRecOn → fu,mul_le_mul → fB,mul_assoc → fH,add_assoc → fI,sub_zero → fM,ble → fN,one_mul → fT,mul_add → fU
open Go.Builtin renaming zeroCells → aG,append_ → bQ,lenOf → eF,firstCells → eR
open Go.Oper renaming upon → aN,wp → bG,apart_spec → eD
open BitVec renaming ofInt → aR
open Option renaming map_some → aS
open Go.RowKit.Below renaming setCell → aT,heap_setCell → ee,heap_alloc → ey
open Go.Instr renaming sureAddr → ba,loadAt → bT,fill → bU,buildSlice → fc,slice → fL
open Go.Value renaming int → bf
open Go.IntWalk renaming i64_in → bt
open Go.Exit renaming inBlock → bz
open Go.Act renaming put_comm → bB,eval → eY,put → fp
open Bool renaming and_eq_true → bC,false_or → fG
open Go.World renaming setCell → bK,cell? → bX,frozen? → eK
open Go.IntKind renaming bits → bO
open Go.Calls renaming mono → ef
open Ne renaming symm → ez
open List.Sublist renaming refl → eJ
open Go.Code renaming region → eU
open Go.Addr renaming add → eV
open Go.Ending renaming returned → fe
open Go.Rows renaming mono → fk
open Go.Op renaming intBits → fm,shift → fJ
namespace Go.Proofs.YtknegjaeoffnbaaGreatDoor
open Go.RowKit
structure Hj (α:Type) where
 val:α→aa
 ty:ae
instance {α:Type}:CoeFun (Hj α) (fun _=>α→aa):=⟨Hj.val⟩
def Jc:Hj Int:=⟨fun x=>.int .u64 x,248⟩
def QBG:Hj Int:=⟨fun x=>.int .i64 x,3⟩
def Kg (w:ab) (b:Nat) (E:ae):Prop:=∃ c fr,w.heap[b]?=some (.cells c E fr)
theorem Kg.lt {w:ab} {b E:Nat} (h:Kg w b E):b<w.heap.size:=by
 obtain ⟨c,fr,h⟩:=h
 rcases ay b w.heap.size with g | g
 ·exact g
 ·rw [ah g] at h;cases h
theorem Kg.uniq {w:ab} {b E E':Nat} (h:Kg w b E) (h':Kg w b E'):E=E':=by
 obtain ⟨c,fr,h⟩:=h;obtain ⟨c',fr',h'⟩:=h'
 rw [h] at h';cases h';rfl
def Row {α:Type} [Inhabited α] (w:ab) (b off:Nat) (enc:Hj α) (l:List α):Prop:=∀ i,i<l.length→w.cell? ⟨b,off+i,none⟩=some (enc (l.getD i default))
abbrev Ext (w w':ab):Prop:=Below w.heap.size w w'
theorem Ext.refl (w:ab):Ext w w:=Below.refl _ _
theorem Ext.trans {a b c:ab} (h:Ext a b) (k:Ext b c):Ext a c:=Below.trans h (Below.mono k h.size)
theorem Ext.yA {a w w':ab} (h:Ext a w) (h1:w'.os=w.os) (h2:w'.tape=w.tape) (h3:w'.output=w.output) (h4:w.heap.size≤w'.heap.size) (h5:∀ i,i<a.heap.size→w'.heap[i]?=w.heap[i]?):Ext a w' :=
 ⟨h1.trans h.os,h2.trans h.tape,h3.trans h.output,er h.size h4,fun i hi=>(h5 i hi).trans (h.block i hi)⟩
theorem Ext.alloc {a w:ab} (h:Ext a w) (o:Obj):Ext a (w.alloc o):=Below.alloc h h.size o
theorem Ext.drew {a w:ab} (h:Ext a w):Ext a w.drew:=Below.drew h
theorem Ext.drewN {a w:ab} (h:Ext a w) (n:Nat):Ext a (w.drewN n):=⟨h.os,h.tape,h.output,h.size,h.block⟩
theorem Ext.cell {w w':ab} (h:Ext w w') {p:Addr} {v:aa} (hv:w.cell? p=some v):w'.cell? p=some v:=by
 rw [Below.cell h (World.block_lt_of_cell? w p hv)];exact hv
theorem Ext.Xn {a w:ab} (h:Ext a w) {p:Addr} (hp:a.heap.size≤p.block) (u:aa):Ext a (w.setCell p u):=aT h hp u
theorem Kg.ext {w w':ab} {b E:Nat} (h:Kg w b E) (k:Below w.heap.size w w'):Kg w' b E:=by
 obtain ⟨c,fr,e⟩:=id h
 exact⟨c,fr,by rw [k.block b h.lt];exact e⟩
theorem Ext.of_eq {w w':ab} (h:w=w'):Ext w w':=h ▸ Ext.refl w
def Cells {α:Type} [Inhabited α] (w:ab) (q:Option Addr) (enc:Hj α) (l:List α):Prop :=
 ∀ i,i<l.length→∃ b off,q=some ⟨b,off,none⟩∧Kg w b enc.ty∧w.cell? ⟨b,off+i,none⟩=some (enc (l.getD i default))
theorem Xe {w:ab} {b o b' o':Nat} {v u:aa} (h:b≠b') (hc:w.cell? ⟨b,o,none⟩=some u):(w.setCell ⟨b',o',none⟩ v).cell? ⟨b,o,none⟩=some u:=by
 rw [World.cell?_setCell_other _ _ _ _ (fun e=>h (congrArg Addr.block e).symm)];exact hc
theorem Ext.rules {W w:ab} (h:Ext W w):(∀ b o,b<W.heap.size→w.cell? ⟨b,o,none⟩=W.cell? ⟨b,o,none⟩)∧(∀ b o,b<W.heap.size→w.frozen? ⟨b,o,none⟩=W.frozen? ⟨b,o,none⟩)∧W.heap.size≤w.heap.size :=
 ⟨fun b o hb=>Below.cell h (p:=⟨b,o,none⟩) hb,fun b o hb=>Below.frozen h (p:=⟨b,o,none⟩) hb,h.size⟩
def SL {α:Type} [Inhabited α] (w:ab) (v:aa) (enc:Hj α) (l:List α):Prop :=
 ∃ q cap,v = .slice q l.length cap∧l.length≤cap∧(cap:Int)≤9223372036854775807∧Cells w q enc l
theorem Row.ext {α:Type} [Inhabited α] {w w':ab} (h:Ext w w') {b off:Nat} {enc:Hj α} {l:List α} (hr:Row w b off enc l):Row w' b off enc l :=
 fun i hi=>h.cell (hr i hi)
theorem Cells.ext {α:Type} [Inhabited α] {w w':ab} (h:Ext w w') {q:Option Addr} {enc:Hj α} {l:List α} (hr:Cells w q enc l):Cells w' q enc l:=by
 intro i hi;obtain ⟨b,off,h1,h2,h3⟩:=hr i hi
 exact⟨b,off,h1,h2.ext h,h.cell h3⟩
theorem SL.ext {α:Type} [Inhabited α] {w w':ab} (h:Ext w w') {v:aa} {enc:Hj α} {l:List α} (hs:SL w v enc l):SL w' v enc l:=by
 obtain ⟨q,cap,h1,h2,h3,h4⟩:=hs
 exact⟨q,cap,h1,h2,h3,h4.ext h⟩
theorem SL.nil {α:Type} [Inhabited α] (w:ab) (enc:Hj α):SL w (.slice none 0 0) enc ([]:List α) :=
 ⟨none,0,rfl,aA _,by decide,fun i hi=>by cases hi⟩
theorem Cells.take {α:Type} [Inhabited α] {w:ab} {q:Option Addr} {enc:Hj α} {l:List α} (hr:Cells w q enc l) (n:Nat):Cells w q enc (l.take n):=by
 intro i hi
 have h1:i<l.length:=by rw [aq] at hi;omega
 have h2:i<n:=by rw [aq] at hi;omega
 have e:(l.take n).getD i default=l.getD i default:=by simp [bn,h2]
 rw [e];exact hr i h1
theorem Row.cells {α:Type} [Inhabited α] {w:ab} {b off:Nat} {enc:Hj α} {l:List α} (hr:Row w b off enc l) (hb:Kg w b enc.ty):Cells w (some ⟨b,off,none⟩) enc l :=
 fun i hi=>⟨b,off,rfl,hb,hr i hi⟩
theorem Row.take {α:Type} [Inhabited α] {w:ab} {b off:Nat} {enc:Hj α} {l:List α} (hr:Row w b off enc l) (n:Nat):Row w b off enc (l.take n):=by
 intro i hi
 have h1:i<l.length:=by rw [aq] at hi;omega
 have h2:i<n:=by rw [aq] at hi;omega
 have e:(l.take n).getD i default=l.getD i default:=by simp [bn,h2]
 rw [e];exact hr i h1
theorem Row.drop {α:Type} [Inhabited α] {w:ab} {b off:Nat} {enc:Hj α} {l:List α} (hr:Row w b off enc l) (n:Nat):Row w b (off+n) enc (l.drop n):=by
 intro i hi
 have h1:n+i<l.length:=by rw [fg] at hi;omega
 have e:(l.drop n).getD i default=l.getD (n+i) default:=by simp [bn,bI]
 rw [e,fI];exact hr _ h1
def YO {α:Type} (w:ab) (b:Nat) (E:ae) (enc:Hj α) (l:List α):Prop:=w.heap[b]?=some (.cells (l.map enc.val).toArray E (0,0))
theorem YO.cell {α:Type} [Inhabited α] {w:ab} {b E:Nat} {enc:Hj α} {l:List α} (h:YO w b E enc l) {i:Nat} (hi:i<l.length):w.cell? ⟨b,i,none⟩=some (enc (l.getD i default)):=by
 have h':w.heap[b]?=some (.cells (l.map enc.val).toArray E (0,0)):=h
 simp [bX,h',hi,bn]
theorem YO.frozen {α:Type} {w:ab} {b E:Nat} {enc:Hj α} {l:List α} (h:YO w b E enc l) (i:Nat):w.frozen? ⟨b,i,none⟩=false:=by
 have h':w.heap[b]?=some (.cells (l.map enc.val).toArray E (0,0)):=h
 simp [eK,h']
theorem YO.lt {α:Type} {w:ab} {b E:Nat} {enc:Hj α} {l:List α} (h:YO w b E enc l):b<w.heap.size:=by
 have h':w.heap[b]?=some (.cells (l.map enc.val).toArray E (0,0)):=h
 rcases ay b w.heap.size with g | g
 ·exact g
 ·rw [ah g] at h';cases h'
theorem YO.set {α:Type} {w:ab} {b E:Nat} {enc:Hj α} {l:List α} (h:YO w b E enc l) (i:Nat) (x:α):YO (w.setCell ⟨b,i,none⟩ (enc x)) b E enc (l.set i x):=by
 have h':w.heap[b]?=some (.cells (l.map enc.val).toArray E (0,0)):=h
 have hs:(l.set i x).map enc.val=(l.map enc.val).set i (enc x):=List.map_set
 unfold YO bK
 simp [aL,h',hs]
theorem YO.ext {α:Type} {w w':ab} {b E:Nat} {enc:Hj α} {l:List α} (h:YO w b E enc l) (k:Ext w w'):YO w' b E enc l:=by
 have:=k.block b h.lt
 unfold YO;rw [this];exact h
theorem YO.row {α:Type} [Inhabited α] {w:ab} {b E:Nat} {enc:Hj α} {l:List α} (h:YO w b E enc l):Row w b 0 enc l:=by
 intro i hi;rw [bA];exact h.cell hi
theorem YO.new {α:Type} (w:ab) (E:Nat) (enc:Hj α) (l:List α) (c:Array aa) (hc:c=(l.map enc.val).toArray):YO (w.alloc (.cells c E)) w.heap.size E enc l:=by
 subst hc;show(w.heap.push _)[w.heap.size]?=_;simp
theorem YO.cX {α:Type} (w:ab) (b E:Nat) (enc:Hj α) (l:List α) (c:Array aa) (hc:c=(l.map enc.val).toArray) (hb:b=w.heap.size):YO (w.alloc (.cells c E)) b E enc l:=by
 subst hb;exact YO.new w E enc l c hc
theorem YO.drew {α:Type} {w:ab} {b E:Nat} {enc:Hj α} {l:List α} (h:YO w b E enc l):YO w.drew b E enc l:=h
theorem YO.drewN {α:Type} {w:ab} {b E:Nat} {enc:Hj α} {l:List α} (h:YO w b E enc l) (n:Nat):YO (w.drewN n) b E enc l:=h
theorem YO.made {α:Type} (w:ab) (E:Nat) (enc:Hj α) (x:α) (n:Nat) (z:aa) (hz:z=enc x):YO (w.alloc (.cells (madeCells #[z] n) E)) w.heap.size E enc (az n x):=by
 refine YO.new w E enc _ _ ?_
 subst hz
 apply Array.ext
 ·simp [madeCells]
 ·intro i h1 h2;simp [madeCells,Nat.mod_one]
theorem YO.Nb {α:Type} {w:ab} {b E:Nat} {enc:Hj α} {l:List α} (h:YO w b E enc l):Kg w b E:=⟨_,_,h⟩
theorem SL.Ga {α:Type} [Inhabited α] {w:ab} {b:Nat} {enc:Hj α} {l:List α} (h:YO w b enc.ty enc l) (n:Nat) (hn:n≤l.length) (hm:(l.length:Int)≤9223372036854775807) :
  SL w (.slice (some ⟨b,0,none⟩) n l.length) enc (l.take n) :=
 ⟨_,l.length,by rw [aq,aU hn],by rw [aq];omega,hm,(h.row.cells h.Nb).take n⟩
def Bx (w:ab) (b:Nat) (T:ae) (cs:List aa):Prop:=w.heap[b]?=some (.cells cs.toArray T (0,0))
theorem Bx.new (w:ab) (T:ae) (c:Array aa):Bx (w.alloc (.cells c T)) w.heap.size T c.toList:=by
 show(w.heap.push _)[w.heap.size]?=_;simp
theorem Bx.lt {w:ab} {b T:Nat} {cs:List aa} (h:Bx w b T cs):b<w.heap.size:=by
 have h':w.heap[b]?=some (.cells cs.toArray T (0,0)):=h
 rcases ay b w.heap.size with g | g
 ·exact g
 ·rw [ah g] at h';cases h'
theorem Bx.ext {w w':ab} {b T:Nat} {cs:List aa} (h:Bx w b T cs) (k:Ext w w'):Bx w' b T cs:=by
 unfold Bx;rw [k.block b h.lt];exact h
theorem Bx.alloc {w:ab} {b T:Nat} {cs:List aa} (h:Bx w b T cs) (o:Obj):Bx (w.alloc o) b T cs:=h.ext ((Ext.refl w).alloc o)
theorem Bx.drew {w:ab} {b T:Nat} {cs:List aa} (h:Bx w b T cs):Bx w.drew b T cs:=h
theorem Bx.drewN {w:ab} {b T:Nat} {cs:List aa} (h:Bx w b T cs) (n:Nat):Bx (w.drewN n) b T cs:=h
theorem Bx.at {w:ab} {b T:Nat} {cs:List aa} (h:Bx w b T cs) (i:Nat) (c:aa) (hi:cs[i]?=some c):w.cell? ⟨b,i,none⟩=some c:=by
 have h':w.heap[b]?=some (.cells cs.toArray T (0,0)):=h
 simp [bX,h',hi]
theorem Bx.free {w:ab} {b T:Nat} {cs:List aa} (h:Bx w b T cs) (i:Nat):w.frozen? ⟨b,i,none⟩=false:=by
 have h':w.heap[b]?=some (.cells cs.toArray T (0,0)):=h
 simp [eK,h']
theorem Bx.one {w:ab} {b T:Nat} {c0:aa} (h:Bx w b T [c0]):w.cell? ⟨b,0,none⟩=some c0∧w.frozen? ⟨b,0,none⟩=false :=
 ⟨h.at 0 c0 rfl,h.free 0⟩
theorem Bx.two {w:ab} {b T:Nat} {c0 c1:aa} (h:Bx w b T [c0,c1]):w.cell? ⟨b,0,none⟩=some c0∧w.cell? ⟨b,1,none⟩=some c1∧w.frozen? ⟨b,0,none⟩=false∧w.frozen? ⟨b,1,none⟩=false :=
 ⟨h.at 0 c0 rfl,h.at 1 c1 rfl,h.free 0,h.free 1⟩
theorem Bx.set {w:ab} {b T:Nat} {cs:List aa} (h:Bx w b T cs) (i:Nat) (c:aa):Bx (w.setCell ⟨b,i,none⟩ c) b T (cs.set i c):=by
 have h':w.heap[b]?=some (.cells cs.toArray T (0,0)):=h
 unfold Bx bK;simp [aL,h']
theorem Bx.H7 {w:ab} {b T b' o:Nat} {cs:List aa} {v:aa} (h:Bx w b T cs) (hb:b≠b'):Bx (w.setCell ⟨b',o,none⟩ v) b T cs:=by
 unfold Bx;rw [ee _ _ _ _ hb];exact h
theorem Bx.Nb {w:ab} {b T:Nat} {cs:List aa} (h:Bx w b T cs):Kg w b T:=⟨_,_,h⟩
def DT (E:ae):Prop:=E=248∨E=3
instance (E:ae):Decidable (DT E):=by unfold DT;infer_instance
structure Kp (w w':ab):Prop where
 size:w.heap.size≤w'.heap.size
 block:∀ b E,Kg w b E→DT E→w'.heap[b]?=w.heap[b]?
theorem Kp.refl (w:ab):Kp w w:=⟨aA _,fun _ _ _ _=>rfl⟩
theorem Kp.AU {w w':ab} (h:Ext w w'):Kp w w':=⟨h.size,fun b _ hb _=>h.block b hb.lt⟩
theorem Kp.trans {a b c:ab} (h:Kp a b) (k:Kp b c):Kp a c :=
 ⟨er h.size k.size,fun i E hi hE=>by
  have e:=h.block i E hi hE
  have hi':Kg b i E:=by obtain ⟨x,fr,hx⟩:=hi;exact⟨x,fr,by rw [e];exact hx⟩
  exact(k.block i E hi' hE).trans e⟩
theorem Kp.ext {a b c:ab} (h:Kp a b) (k:Ext b c):Kp a c:=h.trans (Kp.AU k)
theorem Kp.drew {a b:ab} (h:Kp a b):Kp a b.drew:=⟨h.size,h.block⟩
theorem Kp.drewN {a b:ab} (h:Kp a b) (n:Nat):Kp a (b.drewN n):=⟨h.size,h.block⟩
theorem Kp.set {a w:ab} (h:Kp a w) {R T:Nat} (hT:Kg w R T) (hD:¬ DT T) (i:Nat) (v:aa):Kp a (w.setCell ⟨R,i,none⟩ v) :=
 h.trans ⟨by simp [bK],fun b E hb hE=>ee _ _ _ _ (by rintro rfl;exact hD ((hb.uniq hT) ▸ hE))⟩
theorem Kg.set {w:ab} {b T:Nat} (h:Kg w b T) (R i:Nat) (v:aa):Kg (w.setCell ⟨R,i,none⟩ v) b T:=by
 obtain ⟨c,fr,h⟩:=h
 by_cases e:b=R
 ·subst e;exact⟨_,_,by unfold bK;simp [aL,h];exact⟨rfl,rfl⟩⟩
 ·exact⟨c,fr,by rw [ee _ _ _ _ e];exact h⟩
theorem Kg.kp {w w':ab} {b E:Nat} (h:Kg w b E) (k:Kp w w') (hE:DT E):Kg w' b E:=by
 obtain ⟨c,fr,e⟩:=id h
 exact⟨c,fr,by rw [k.block b E h hE];exact e⟩
theorem Cells.kp {α:Type} [Inhabited α] {w w':ab} (k:Kp w w') {q:Option Addr} {enc:Hj α} (hE:DT enc.ty) {l:List α} (hr:Cells w q enc l):Cells w' q enc l:=by
 intro i hi;obtain ⟨b,off,h1,h2,h3⟩:=hr i hi
 exact⟨b,off,h1,h2.kp k hE,by rw [World.cell?_of_block (w:=w) (k.block b _ h2 hE)];exact h3⟩
open Go
section
variable {P:au} {md:aZ}
def KW (md:aZ) (ops:Array Oper) (n:Nat):Bool :=
 (eG n).all fun i=>match ops[i]? with
  |some o=>o.after.all fun e=>!Region.binds md e||decide (e.on<i)
  |none=>false
theorem Xt {ops:Array Oper} {n:Nat} (h:KW md ops n=true) {i:Nat} (hi:i<n):∃ o,ops[i]?=some o∧∀ e∈o.after,aI md e=true→e.on<i:=by
 have h1:=List.all_eq_true.1 h i (List.mem_range.2 hi)
 cases ho:ops[i]? with
 |none=>rw [ho] at h1;cases h1
 |some o =>
  rw [ho] at h1
  refine⟨o,rfl,fun e he hb=>?_⟩
  have h2:=Array.all_eq_true_iff_forall_mem.1 h1 e he
  simpa [hb] using h2
def Z4 (n m:Nat):Array Bool:=(eS m).map fun i=>decide (i<n)
theorem EP {n m:Nat} {listed:Array Bool} (hs:listed.size=m) (h1:∀ i,i<n→i<m→listed.getD i false=true) (h2:∀ i,n≤i→i<m→listed.getD i false=false):listed=Z4 n m:=by
 apply Array.ext
 ·simp [Z4,hs]
 ·intro i hi hj
  have him:i<m:=by omega
  by_cases h:i<n
  ·have:=h1 i h him
   simp [hi] at this
   simp [Z4,h,this]
  ·have:=h2 i (by omega) him
   simp [hi] at this
   simp [Z4,h,this]
def S7 (P:au) (ops:Array Oper) (Q:Exit→Act→ab→Prop) (tl:List Oper):Exit→Act→ab→Prop
 |.normal,a,w=>wpList P ops Q tl a w
 |e,a,w=>Q e a w
theorem Sz {o:Oper} {ops:Array Oper} {Q:Exit→Act→ab→Prop} {tl:List Oper} {a:Act} {w:ab} {K K':Act→ab→Prop} (h:∀ a w,K a w→K' a w)
  (hh:o.wp P a w K (S7 P ops Q tl)):o.wp P a w K' Q:=by
 unfold bG at *
 generalize (execOp a.eval o).run P w=r at *
 cases r with
 |ok n w' =>
  cases n<;>simp only [aN] at hh ⊢ <;>
   first
    |exact h _ _ hh
    |exact ef hh (fun e w'' he=>by cases e<;>first | exact h _ _ he | exact he)
    |exact fk hh (fun _ _ he=>h _ _ he)
 |halt x w'=>cases x<;>simp only [aN] at hh ⊢<;>exact hh
theorem Gd {l:List Oper} {n i:Nat} (hi:i<n):(l.take n).toArray[i]?=l.toArray[i]?:=by
 simp [hi]
theorem WW {l:List Oper} {n:Nat} {lh la:Array Bool} (hn:n<l.length) (hs:eL md l.toArray n=true) (hc:eI md l.toArray n=true) (ho:KW md l.toArray n=true)
  (inv:HeadInv md l.toArray n la) (hsz:lh.size=n) (hrel:∀ i,i<n→la.getD i true=lh.getD i true) {k:Nat} (hk:k<n) (hun:lh.getD k true=false) :
  (∀ i,i∈aC md l.toArray la↔i∈aC md (l.take n).toArray lh)∧aC md (l.take n).toArray lh≠[]:=by
 have hrel2:∀ i,i<n→la.getD i false=lh.getD i false:=by
  intro i hi
  have h:=hrel i hi
  have h1:i<la.size:=by rw [inv.size];simp;omega
  have h2:i<lh.size:=by omega
  simp [h1,h2] at h ⊢;exact h
 have hhead:∀ i,i<n→(i∈aC md l.toArray la↔i∈aC md (l.take n).toArray lh):=by
  intro i hi
  rw [mem_ready,mem_ready,hrel i hi,Gd hi]
  refine and_congr_right fun _=>exists_congr fun o=>and_congr_right fun hoi=>?_
  obtain ⟨o',ho',hed⟩:=Xt ho hi
  have:o'=o:=aB (ho'.symm.trans hoi)
  subst this
  refine forall_congr' fun e=>forall_congr' fun he=>forall_congr' fun hb=>?_
  rw [hrel2 e.on (by have:=hed e he hb;omega)]
 have hex:∃ i,i<n∧lh.getD i true=false∧∀ j,j<i→lh.getD j true=true:=by
  clear hhead hrel hrel2
  induction k using fu with
  |_ k ih =>
   by_cases h:∃ j,j<k∧lh.getD j true=false
   ·obtain ⟨j,hj,hj2⟩:=h;exact ih j hj (by omega) hj2
   ·exact⟨k,hk,hun,fun j hj=>by
     cases hv:lh.getD j true with
     |true=>rfl
     |false=>exact absurd ⟨j,hj,hv⟩ h⟩
 refine⟨fun i=>?_,?_⟩
 ·by_cases hi:i<n
  ·exact hhead i hi
  ·constructor
   ·intro h
    exact absurd h (tail_waits hs hc (by simpa using hn) inv _ k rfl hk (by rw [hrel k hk];exact hun) i (by omega))
   ·intro h
    obtain ⟨_,o,ho',_⟩:=mem_ready.1 h
    have:=(Array.getElem?_eq_some_iff.1 ho').1
    simp at this;omega
 ·obtain ⟨i,hi,h1,h2⟩:=hex
  intro hnil
  have:i∈aC md (l.take n).toArray lh:=by
   rw [mem_ready]
   obtain ⟨o',ho',hed⟩:=Xt ho hi
   refine⟨h1,o',by rw [Gd hi];exact ho',fun e he hb=>?_⟩
   have h3:=h2 e.on (hed e he hb)
   have h4:e.on<lh.size:=by have:=hed e he hb;omega
   simp [h4] at h3 ⊢;exact h3
  rw [hnil] at this;cases this
theorem Ms {ops:Array Oper} {Q:Exit→Act→ab→Prop}:∀ (f:Nat) (listed:Array Bool) (a:Act) (w:ab),wpAny P md ops Q f listed a w→wpAny P md ops Q (f+1) listed a w
 |0,listed,a,w,h=>⟨fun _=>h.2,fun i hi=>(by rw [h.1] at hi;cases hi)⟩
 |f+1,listed,a,w,h=>⟨h.1,fun i hi=>wpOp_mono (fun a' w' h'=>Ms f _ a' w' h') (h.2 i hi)⟩
theorem S3 {ops:Array Oper} {Q:Exit→Act→ab→Prop} (f:Nat) (listed:Array Bool) (a:Act) (w:ab) (g:Nat) (h:wpAny P md ops Q g listed a w):wpAny P md ops Q (f+g) listed a w:=by
 induction f with
 |zero=>rw [bA];exact h
 |succ f ih=>rw [show f+1+g=(f+g)+1 by omega];exact Ms _ _ _ _ ih
theorem PQ {ops:Array Oper} {Q:Exit→Act→ab→Prop} {tl:List Oper} (h:LetsOut (S7 P ops Q tl)):LetsOut Q:=by
 obtain ⟨a,w,h⟩:=h;exact⟨a,w,h⟩
def By (ops:Array Oper) (n:Nat):Bool :=
 (eG n).all fun i=>match ops[i]? with
  |some o=>(match o.guard with | none=>true | some (g,_)=>decide (g<n))
  |none=>false
theorem BR {l:List Oper} {n g:Nat} (hg:g<n) (t:Array aa):yielded (l.take n).toArray t g=yielded l.toArray t g:=by
 unfold yielded;rw [Gd hg]
theorem IE {l:List Oper} {n i:Nat} {Q:Exit→Act→ab→Prop} {tl:List Oper} {K:Act→ab→Prop} {a:Act} {w:ab} (hi:i<n) (hgd:By l.toArray n=true)
  (h:wpOp P (l.take n).toArray (S7 P l.toArray Q tl) i K a w):wpOp P l.toArray Q i K a w:=by
 unfold wpOp at *
 rw [Gd hi] at h
 cases ho:l.toArray[i]? with
 |none=>simp only [ho] at h ⊢;exact h
 |some o =>
  simp only [ho] at h ⊢
  have hw:aj o (yielded (l.take n).toArray a.tmps)=aj o (yielded l.toArray a.tmps):=by
   have h1:=List.all_eq_true.1 hgd i (List.mem_range.2 hi)
   rw [ho] at h1
   unfold aj
   cases hg:o.guard with
   |none=>rfl
   |some gw =>
    obtain ⟨g,want⟩:=gw
    simp only [hg] at h1
    simp only [BR (l:=l) (by simpa using h1)]
  rw [hw] at h
  split
  ·rename_i hw2
   rw [if_pos hw2] at h
   rcases h with h | ⟨h1,h2⟩
   ·exact .inl (Sz (fun _ _ h=>h) h)
   ·exact .inr ⟨h1,PQ h2⟩
  ·rename_i hw2
   rw [if_neg hw2] at h;exact h
theorem S2 {l:List Oper} {n:Nat} {Q:Exit→Act→ab→Prop} (hn:n<l.length) (hs:eL md l.toArray n=true) (hc:eI md l.toArray n=true) (ho:KW md l.toArray n=true)
  (hgd:By l.toArray n=true) (hseq:fD md l.toArray (l.length - n) n (Z4 n l.length)=true) :
  ∀ (f:Nat) (lh la:Array Bool) (a:Act) (w:ab),HeadInv md l.toArray n la→lh.size=n→(∀ i,i<n→la.getD i true=lh.getD i true) →
   wpAny P md (l.take n).toArray (S7 P l.toArray Q (l.drop n)) f lh a w→wpAny P md l.toArray Q (f+(l.length - n)) la a w:=by
 have fin:∀ (f:Nat) (lh la:Array Bool) (a:Act) (w:ab),HeadInv md l.toArray n la→lh.size=n→(∀ i,i<n→la.getD i true=lh.getD i true) →
   aC md (l.take n).toArray lh=[]→wpList P l.toArray Q (l.drop n) a w→wpAny P md l.toArray Q (f+(l.length - n)) la a w:=by
  intro f lh la a w inv hsz hrel hr h
  have hall:∀ i,i<n→lh.getD i true=true:=by
   intro i hi
   cases hv:lh.getD i true with
   |true=>rfl
   |false=>exact absurd hr (WW hn hs hc ho inv hsz hrel hi hv).2
  have hla:la=Z4 n l.length:=by
   refine EP (by simpa using inv.size) (fun i hi hi2=>?_) (fun i hi hi2=>?_)
   ·have h1:=(hrel i hi).trans (hall i hi)
    have h2:i<la.size:=by rw [inv.size];simpa using hi2
    simp [h2] at h1 ⊢;exact h1
   ·exact getD_both (inv.tail i hi (by simpa using hi2))
  subst hla
  refine S3 f _ _ _ _ ?_
  have:=wpAny_of_seq (P:=P) (Q':=Q) (l.drop n) n (Z4 n l.length) a w (fun j=>by simp [bI]) (by simpa using hseq) h
  simpa using this
 intro f
 induction f with
 |zero=>intro lh la a w inv hsz hrel h;exact fin 0 lh la a w inv hsz hrel h.1 h.2
 |succ f ih =>
  intro lh la a w inv hsz hrel h
  by_cases hr:aC md (l.take n).toArray lh=[]
  ·exact fin (f+1) lh la a w inv hsz hrel hr (h.1 hr)
  ·obtain ⟨k,hk⟩:=List.exists_mem_of_ne_nil _ hr
   have hk2:=(mem_ready.1 hk)
   have hkn:k<n:=by
    obtain ⟨_,o,ho',_⟩:=hk2
    have:=(Array.getElem?_eq_some_iff.1 ho').1
    simp at this;omega
   have hiff:=(WW hn hs hc ho inv hsz hrel hkn hk2.1).1
   rw [show f+1+(l.length - n)=(f+(l.length - n))+1 by omega]
   refine⟨fun h0=>absurd ((hiff k).2 hk) (by rw [h0];simp),fun i hi=>?_⟩
   have hi':=(hiff i).1 hi
   have hin:i<n:=by
    obtain ⟨_,o,ho',_⟩:=mem_ready.1 hi'
    have:=(Array.getElem?_eq_some_iff.1 ho').1
    simp at this;omega
   have h2:=IE hin hgd (h.2 i hi')
   refine wpOp_mono (fun a' w' h3=>ih _ _ a' w' (inv.set hi hin) (by simpa using hsz) (fun j hj=>?_) h3) h2
   by_cases hij:i=j
   ·subst hij
    have h1:i<la.size:=by rw [inv.size];simp;omega
    have h2:i<lh.size:=by omega
    simp [h1,h2]
   ·rw [getD_set_ne true hij,getD_set_ne true hij];exact hrel j hj
def H6 (l:List Oper) (n:Nat):Bool :=
 decide (n<l.length)&&eL .any l.toArray n&&eI .any l.toArray n&&KW .any l.toArray n&&By l.toArray n&&fD .any l.toArray (l.length - n) n (Z4 n l.length)
theorem Ej {id:Nat} {Q:Exit→Act→ab→Prop} {a:Act} {w:ab} {l:List Oper} (n:Nat) (hm:P.follows .mixedOrders=true) (hB:H6 l n=true)
  (h:wpAny P .any (l.take n).toArray (S7 P l.toArray Q (l.drop n)) n (bE n false) a { w with drawn:=w.drawn+1 }):(eU id l.toArray true).wp P Q a w:=by
 simp only [H6,bC,decide_eq_true_eq] at hB
 obtain ⟨⟨⟨⟨⟨hn,hs⟩,hc⟩,ho⟩,hg⟩,hseq⟩:=hB
 refine wp_region_any hm ?_
 have inv0:HeadInv .any l.toArray n (bE l.toArray.size false) :=
  ⟨by simp,fun j oj _ hl=>(by rw [getD_replicate_false] at hl;cases hl),fun t _ ht=>getD_in (by simpa using ht) (getD_replicate_false _ _)⟩
 have:=S2 (P:=P) (md:=.any) (Q:=Q) hn hs hc ho hg hseq n (bE n false) (bE l.toArray.size false) a { w with drawn:=w.drawn+1 } inv0 (by simp)
  (fun i hi=>by
   have h1:i<l.length:=(by omega)
   simp [hi,h1]) h
 rw [show n+(l.length - n)=l.toArray.size by simp;omega] at this
 exact this
def Jt:Op→Bool
 |.move _ | .assign _ | .pick .. | .nilCheck _ | .binOp .. | .unOp .. | .convert .. | .fieldAddr .. | .field .. | .indexAddr .. | .index .. | .extract .. | .slice .. | .build .. | .load .. | .makeFunc .. | .lookup ..=>true
 |.call { callee:=.builtin b,.. }=>match b with | .len | .cap | .min | .max=>true | _=>false
 |_=>false
section
variable {ops:Array Oper} {Q:Exit→Act→ab→Prop} {S:ab→Prop}
def PO (P:au) (ops:Array Oper) (Q:Exit→Act→ab→Prop) (S:ab→Prop):List Nat→Act→ab→Prop
  | [],a,w=>Q .normal a w
  | i::r,a,w=>∃ o,ops[i]?=some o ∧
      ((Jt o.op=true∧∃ v,YieldsIf P ops S o v a∧PO P ops Q S r (a.put o.dst v) w) ∨
       (Jt o.op=false∧wpOp P ops (fun _ _ _=>False) i (fun a' w'=>S w'∧PO P ops Q S r a' w') a w))
theorem qT {i:Nat} {o:Oper} {K:Act→ab→Prop} {a:Act} {w:ab} (hi:ops[i]?=some o) (h:wpOp P ops (fun _ _ _=>False) i K a w) :
  ∃ u w' d,K ({ a with defers:=d }.put o.dst u) w':=by
 unfold wpOp at h
 simp only [hi] at h
 split at h
 ·rcases h with h | ⟨_,_,_,h⟩
  ·unfold bG at h
   generalize (execOp a.eval o).run P w=r at *
   cases r with
   |ok n w' =>
    cases n<;>simp only [aN] at h
    case value u=>exact⟨u,w',a.defers,h⟩
    case skip=>exact⟨undef,w',a.defers,h⟩
    case defer d=>exact⟨undef,w',d::a.defers,h⟩
    case enter f args =>
     obtain ⟨e,w'',fr,hR,_⟩:=h []
     cases e with
     |returned u=>exact⟨u,w'',a.defers,hR⟩
     |panicked c=>exact hR.elim
     |outgrown=>obtain ⟨_,_,h⟩:=hR;exact h.elim
    case row row args =>
     obtain ⟨u,w'',hR,_⟩:=h default []
     exact⟨u,w'',a.defers,hR⟩
    all_goals exact h.elim
   |halt x w'=>cases x<;>simp only [aN] at h<;>exact h.elim
  ·exact h.elim
 ·exact⟨undef,w,a.defers,h⟩
theorem S0 {j:Nat} {oi oj:Oper} {v:aa} (hj:ops[j]?=some oj) (hap:oi.apart ops oj=true) (hsj:∀ cs b,oj.op≠.select cs b)
  {K:Act→ab→Prop} {a:Act} {w:ab} (h:wpOp P ops (fun _ _ _=>False) j (fun a' w'=>K (a'.put oi.dst v) w') a w) :
  wpOp P ops (fun _ _ _=>False) j K (a.put oi.dst v) w:=by
 obtain ⟨h1,h2,h3⟩:=eD hap
 unfold wpOp at *
 simp only [hj] at *
 rw [wanted_put oj a oi.dst v h1]
 split
 ·rename_i hw
  simp only [hw,if_true] at h
  rcases h with h | ⟨hasks,hlets⟩
  case inr=>exact .inr ⟨by unfold Oper.asks at *;rw [execOp_put oj hsj a oi.dst v h1];exact hasks,hlets⟩
  refine .inl ?_
  unfold bG at *
  rw [execOp_put oj hsj a oi.dst v h1]
  generalize (execOp a.eval oj).run P w=r at *
  cases r with
  |ok n w' =>
   cases n<;>simp only [aN] at h ⊢
   case value u=>rw [bB a v u h2];exact h
   case skip=>rw [bB a v undef h2];exact h
   case defer d=>rw [Act.put_defers,bB _ v undef h2];exact h
   case enter f args =>
    refine ef h fun e w'' he=>?_
    cases e with
    |returned u=>show K _ _;rw [bB a v u h2];exact he
    |panicked c=>exact he
    |outgrown=>exact he
   case row row args=>exact fk h fun u w'' he=>(by rw [bB a v u h2];exact he)
  |halt x w'=>cases x<;>simp only [aN] at h ⊢
 ·rename_i hw
  simp only [hw] at h
  rw [bB a v undef h2];exact h
theorem YieldsIf.uniq {o:Oper} {v v':aa} {a:Act} {w:ab} (hS:S w) (h:YieldsIf P ops S o v a) (h':YieldsIf P ops S o v' a):v=v':=by
 rcases h with ⟨h1,h2⟩ | ⟨h1,h2⟩<;>rcases h' with ⟨g1,g2⟩ | ⟨g1,g2⟩
 ·have:=(h2 w hS).symm.trans (g2 w hS)
  simpa using this
 ·rw [h1] at g1;cases g1
 ·rw [h1] at g1;cases g1
 ·rw [h2,g2]
theorem Ny {x y:Oper} (h:x.apart ops y=true):y.apart ops x=true:=by
 obtain ⟨h1,h2,h3⟩:=eD h
 unfold Oper.apart
 cases hx:x.dst with
 |none=>cases hy:y.dst with
  |none=>rfl
  |some e=>simpa using h3 e hy
 |some d =>
  have g1:=h1 d hx
  have g2:=h2 d hx
  cases hy:y.dst with
  |none=>simpa using g1
  |some e =>
   have g3:=h3 e hy
   rw [hy] at g2
   simp only [ne_eq,ao] at g2
   simp [g3,g1]
   exact fun h=>g2 h.symm
theorem BE {j:Nat} {oj:Oper} {post:List Nat} (hoj:ops[j]?=some oj) (hq:Jt oj.op=true) (hsel:∀ (j:Nat) (o:Oper) cs b,ops[j]?=some o→o.op≠.select cs b) :
  ∀ (pre:List Nat) (a:Act) (w:ab),(∀ k∈pre,∀ ok,ops[k]?=some ok→oj.apart ops ok=true)→PO P ops Q S (pre++j::post) a w →
   ∃ v,YieldsIf P ops S oj v a∧PO P ops Q S (pre++post) (a.put oj.dst v) w
 |[],a,w,_,h=>by
  obtain ⟨o,ho,h⟩:=h
  have:o=oj:=aB (ho.symm.trans hoj)
  subst this
  rcases h with ⟨_,v,h1,h2⟩ | ⟨h1,_⟩
  ·exact⟨v,h1,h2⟩
  ·rw [hq] at h1;cases h1
 |k::pre,a,w,hap,h=>by
  obtain ⟨ok,hok,h⟩:=h
  have hk:=hap k (by simp) ok hok
  obtain ⟨p1,p2,p3⟩:=eD hk
  rcases h with ⟨hqk,vk,hyk,h⟩ | ⟨hqk,h⟩
  ·obtain ⟨v,hy,h⟩:=BE hoj hq hsel pre _ w (fun i hi=>hap i (by simp [hi])) h
   have hy':YieldsIf P ops S oj v a:=by
    refine hy.of_same ?_ ?_
    ·exact(execOp_put oj (fun cs b=>hsel j oj cs b hoj) a ok.dst vk p3).symm
    ·exact(wanted_put oj a ok.dst vk p3).symm
   refine⟨v,hy',ok,hok,.inl ⟨hqk,vk,?_,?_⟩⟩
   ·refine hyk.of_same ?_ ?_
    ·exact execOp_put ok (fun cs b=>hsel k ok cs b hok) a oj.dst v p1
    ·exact wanted_put ok a oj.dst v p1
   ·rw [bB a v vk p2];exact h
  ·have h2:=wpOp_mono (fun a' w' (h:S w'∧PO P ops Q S (pre++j::post) a' w')=>(⟨h.1,BE hoj hq hsel pre a' w' (fun i hi=>hap i (by simp [hi])) h.2⟩ :
    S w'∧∃ v,YieldsIf P ops S oj v a'∧PO P ops Q S (pre++post) (a'.put oj.dst v) w')) h
   obtain ⟨u,w1,d,hS1,v0,hy0,_⟩:=qT hok h2
   have back:∀ (d:List Deferred) (u v:aa),YieldsIf P ops S oj v ({ a with defers:=d }.put ok.dst u)→YieldsIf P ops S oj v a:=fun d u v hy=>by
    refine hy.of_same ?_ ?_
    ·rw [execOp_put oj (fun cs b=>hsel j oj cs b hoj) _ ok.dst u p3];rfl
    ·rw [wanted_put oj _ ok.dst u p3]
   have hya:=back d u v0 hy0
   refine⟨v0,hya,ok,hok,.inr ⟨hqk,?_⟩⟩
   refine S0 hok hk (fun cs b=>hsel k ok cs b hok) ?_
   have h3:wpOp P ops (fun _ _ _=>False) k (fun a' w'=>(YieldsIf P ops S oj v0 a')∧(S w'∧∃ v,YieldsIf P ops S oj v a'∧PO P ops Q S (pre++post) (a'.put oj.dst v) w')) a w:=by
    have LY:∀ (u:aa),YieldsIf P ops S oj v0 (a.put ok.dst u):=fun u=>by
     refine hya.of_same ?_ ?_
     ·exact execOp_put oj (fun cs b=>hsel j oj cs b hoj) a ok.dst u p3
     ·exact wanted_put oj a ok.dst u p3
    have keepd:∀ (d:Deferred) (u:aa),YieldsIf P ops S oj v0 ({ a with defers:=d::a.defers }.put ok.dst u):=fun d u=>by
     refine hya.of_same ?_ ?_
     ·rw [execOp_put oj (fun cs b=>hsel j oj cs b hoj) _ ok.dst u p3];rfl
     ·rw [wanted_put oj _ ok.dst u p3]
    clear h
    unfold wpOp at h2 ⊢
    simp only [hok] at h2 ⊢
    split
    ·rename_i hw
     simp only [hw,if_true] at h2
     rcases h2 with h2 | h2
     case inr=>exact .inr h2
     refine .inl ?_
     unfold bG at *
     generalize (execOp a.eval ok).run P w=r at *
     cases r with
     |ok n w' =>
      cases n<;>simp only [aN] at h2 ⊢
      case value u=>exact⟨LY u,h2⟩
      case skip=>exact⟨LY _,h2⟩
      case defer d=>exact⟨keepd d _,h2⟩
      case enter f args =>
       refine ef h2 fun e w'' he=>?_
       cases e with
       |returned u=>exact⟨LY u,he⟩
       |panicked c=>exact he
       |outgrown=>exact he
      case row row args=>exact fk h2 fun u w'' he=>⟨LY u,he⟩
     |halt x w'=>cases x<;>simp only [aN] at h2 ⊢
    ·rename_i hw
     simp only [hw] at h2
     exact⟨LY _,h2⟩
   refine wpOp_mono (fun a' w' h=>?_) h3
   obtain ⟨hy,hS,v,hy2,hl⟩:=h
   have:v=v0:=YieldsIf.uniq hS hy2 hy
   subst this
   exact⟨hS,hl⟩
end
section
variable {ops:Array Oper} {Q:Exit→Act→ab→Prop} {S:ab→Prop}
theorem S1 {i:Nat} {K:Act→ab→Prop} {a:Act} {w:ab} (h:wpOp P ops (fun _ _ _=>False) i K a w):wpOp P ops Q i K a w:=by
 unfold wpOp at *
 cases ho:ops[i]? with
 |none=>simp only [ho] at h ⊢;exact h
 |some o =>
  simp only [ho] at h ⊢
  split
  ·rename_i hw
   rw [if_pos hw] at h
   rcases h with h | ⟨_,_,_,h⟩
   ·refine .inl ?_
    unfold bG at *
    generalize (execOp a.eval o).run P w=r at *
    cases r with
    |ok n w' =>
     cases n<;>simp only [aN] at h ⊢
     all_goals first
      |exact h
      |exact ef h fun e w'' he=>by
        cases e with
        |returned u=>exact he
        |panicked c=>exact he.elim
        |outgrown=>obtain ⟨_,_,h⟩:=he;exact h.elim
    |halt x w'=>cases x<;>simp only [aN] at h ⊢
   ·exact h.elim
  ·rename_i hw
   rw [if_neg hw] at h;exact h
def BC (md:aZ) (acc:List Nat) (o:Oper):Nat:=o.after.foldl (fun s e=>if aI md e then s ||| 2^e.on ||| acc.getD e.on 0 else s) 0
def NU (md:aZ) (ops:List Oper):List Nat:=ops.foldl (fun acc o=>acc++[BC md acc o]) []
theorem Ng {md:aZ} {acc:List Nat} {i:Nat}:∀ (l:List Edge) (s:Nat),(l.foldl (fun s e=>if aI md e then s ||| 2^e.on ||| acc.getD e.on 0 else s) s).testBit i=true →
  s.testBit i=true∨∃ e∈l,aI md e=true∧(i=e.on∨(acc.getD e.on 0).testBit i=true)
 |[],s,h=>.inl h
 |e::l,s,h=>by
  rw [eC] at h
  rcases Ng l _ h with h | ⟨e',he',h⟩
  ·split at h
   ·rename_i hb
    rw [Nat.testBit_or,Nat.testBit_or,Nat.testBit_two_pow] at h
    simp only [Bool.or_eq_true,decide_eq_true_eq] at h
    rcases h with (h | h) | h
    ·exact .inl h
    ·exact .inr ⟨e,by simp,hb,.inl h.symm⟩
    ·exact .inr ⟨e,by simp,hb,.inr h⟩
   ·exact .inl h
  ·exact .inr ⟨e',by simp [he'],h⟩
theorem Tl {md:aZ} {acc:List Nat} {o:Oper} {i:Nat} (h:(BC md acc o).testBit i=true):∃ e∈o.after,aI md e=true∧(i=e.on∨(acc.getD e.on 0).testBit i=true):=by
 unfold BC at h
 rw [← ei] at h
 rcases Ng _ _ h with h | ⟨e,he,h⟩
 ·simp at h
 ·exact⟨e,by simpa using he,h⟩
theorem P8 (md:aZ):∀ (l:List Oper) (acc:List Nat),∃ r,l.foldl (fun acc o=>acc++[BC md acc o]) acc=acc++r∧r.length=l.length ∧
  ∀ k o,l[k]?=some o→r[k]?=some (BC md (acc++r.take k) o)
 |[],acc=>⟨[],by simp,rfl,fun k o h=>by simp at h⟩
 |o::l,acc=>by
  obtain ⟨r,h1,h2,h3⟩:=P8 md l (acc++[BC md acc o])
  refine⟨BC md acc o::r,by simp [h1],by simp [h2],fun k o' h=>?_⟩
  cases k with
  |zero=>simp at h;subst h;simp
  |succ k =>
   simp at h
   have:=h3 k o' h
   simpa using this
theorem Ab {md:aZ} {l:List Oper} {k i:Nat} {o:Oper} (ho:l[k]?=some o) (hord:∀ e∈o.after,aI md e=true→e.on<k) (h:((NU md l).getD k 0).testBit i=true) :
  ∃ e∈o.after,aI md e=true∧(i=e.on∨((NU md l).getD e.on 0).testBit i=true):=by
 obtain ⟨r,h1,h2,h3⟩:=P8 md l []
 have e1:NU md l=r:=by unfold NU;rw [h1];simp
 rw [e1] at h ⊢
 have h4:=h3 k o ho
 rw [bn,h4] at h
 obtain ⟨e,he,hb,hi⟩:=Tl h
 refine⟨e,he,hb,hi.imp id fun hi=>?_⟩
 have hlt:=hord e he hb
 have hk:k<r.length:=by rcases ay k r.length with g | g;exact g;rw [aM g] at h4;cases h4
 have e2:([]++r.take k).getD e.on 0=r.getD e.on 0:=by simp [bn,hlt]
 rw [e2] at hi;exact hi
def lexB (md:aZ) (l:List Oper):Bool :=
 let ms:=NU md l
 Region.noSelect l.toArray&&KW md l.toArray l.length&&(eG l.length).all fun j=>match l[j]? with
  |none=>false
  |some oj=>(eG j).all fun i=>match l[i]? with
   |none=>false
   |some oi=>if Jt oi.op||Jt oj.op then(bj md l.toArray j i||oi.apart l.toArray oj) else(ms.getD j 0).testBit i
theorem Dg {l:List Oper} (h:lexB md l=true) {i j:Nat} (hij:i<j) {oi oj:Oper} (hi:l[i]?=some oi) (hj:l[j]?=some oj) :
  if Jt oi.op||Jt oj.op then(bj md l.toArray j i||oi.apart l.toArray oj)=true else((NU md l).getD j 0).testBit i=true:=by
 simp only [lexB,bC] at h
 have hjl:j<l.length:=by rcases ay j l.length with g | g;exact g;rw [aM g] at hj;cases hj
 have h1:=List.all_eq_true.1 h.2 j (List.mem_range.2 hjl)
 rw [hj] at h1
 have h2:=List.all_eq_true.1 h1 i (List.mem_range.2 hij)
 rw [hi] at h2
 simp only at h2
 split
 ·rename_i g;rw [if_pos g] at h2;exact h2
 ·rename_i g;rw [if_neg g] at h2;exact h2
theorem Tk {l:List Oper} {listed:Array Bool} (hord:KW md l.toArray l.length=true) (hcl:∀ j oj,l.toArray[j]?=some oj→listed.getD j false=true→∀ e∈oj.after,aI md e=true→listed.getD e.on false=true) :
  ∀ (k:Nat) (o:Oper),l[k]?=some o→(∀ e∈o.after,aI md e=true→listed.getD e.on false=true)→∀ i,((NU md l).getD k 0).testBit i=true→listed.getD i false=true:=by
 intro k
 induction k using fu with
 |_ k ih =>
  intro o ho hd i hi
  have hk:k<l.length:=by rcases ay k l.length with g | g;exact g;rw [aM g] at ho;cases ho
  obtain ⟨o',ho',hed⟩:=Xt hord hk
  have:o'=o:=aB (ho'.symm.trans (by simpa using ho))
  subst this
  obtain ⟨e,he,hb,h⟩:=Ab ho hed hi
  have h1:=hd e he hb
  rcases h with rfl | h
  ·exact h1
  ·have hlt:=hed e he hb
   obtain ⟨oe,hoe,_⟩:=Xt hord (Nat.lt_trans hlt hk)
   exact ih e.on hlt oe (by simpa using hoe) (hcl e.on oe hoe h1) i h
theorem jP {l:List Oper} (hB:lexB md l=true) (hQ:∀ c a d v w,Q (.panic c) (fp a d v) w→Q (.panic c) a w) :
  ∀ (m:Nat) (r:List Nat) (listed:Array Bool) (a:Act) (w:ab),r.length=m→r.Pairwise (·<·)→(∀ i,i∈r↔i<l.length∧listed.getD i true=false)→listed.size=l.length →
   (∀ j oj,l.toArray[j]?=some oj→listed.getD j false=true→∀ e∈oj.after,aI md e=true→listed.getD e.on false=true)→S w→PO P l.toArray Q S r a w→wpAnyH P md l.toArray Q S m listed a w:=by
 have hB':=hB
 simp only [lexB,bC] at hB'
 obtain ⟨⟨hns,hord⟩,_⟩:=hB'
 have hsel:=Region.noSelect_spec hns
 intro m
 induction m with
 |zero =>
  intro r listed a w hm hs hr hsz hcl hS h
  have:r=[]:=List.length_eq_zero_iff.1 hm
  subst this
  refine⟨?_,h⟩
  rw [List.eq_nil_iff_forall_not_mem]
  intro i hi
  obtain ⟨h1,o,ho,_⟩:=mem_ready.1 hi
  have hlt:i<l.length:=by have:=(Array.getElem?_eq_some_iff.1 ho).1;simpa using this
  have:=(hr i).2 ⟨hlt,h1⟩
  cases this
 |succ m ih =>
  intro r listed a w hm hs hr hsz hcl hS h
  match r,hm,hs,hr,h with
  |i::r,hm,hs,hr,h =>
  have hil:=(hr i).1 (by simp)
  have hmin:∀ j,j<i→listed.getD j false=true:=by
   intro j hj
   cases hv:listed.getD j false with
   |true=>rfl
   |false =>
    have hjl:j<l.length:=by omega
    have:=(hr j).2 ⟨hjl,getD_in (by omega) hv⟩
    rcases List.mem_cons.1 this with e | e
    ·omega
    ·have:=(List.pairwise_cons.1 hs).1 j e;omega
  obtain ⟨oi,hoi,hed⟩:=Xt hord hil.1
  have hri:i∈aC md l.toArray listed:=mem_ready.2 ⟨hil.2,oi,hoi,fun e he hb=>hmin _ (hed e he hb)⟩
  have next:∀ j,j∈aC md l.toArray listed→j∈(i::r)→∀ a' w',S w'→PO P l.toArray Q S ((i::r).erase j) a' w'→wpAnyH P md l.toArray Q S m (listed.setIfInBounds j true) a' w':=by
   intro j hj hjr a' w' hS' h'
   have hjsz:j<listed.size:=by rw [hsz];exact((hr j).1 hjr).1
   refine ih ((i::r).erase j) _ a' w' (by rw [List.length_erase_of_mem hjr];simp at hm ⊢;omega) (hs.sublist List.erase_sublist) (fun k=>?_) (by simpa using hsz) (fun k ok hk hl e he hb=>?_) hS' h'
   ·rw [List.Nodup.mem_erase_iff (hs.imp (fun h=>Nat.ne_of_lt h)),hr k]
    by_cases hjk:j=k
    ·subst hjk;simp [hjsz]
    ·rw [getD_set_ne true hjk];simp [ez hjk]
   ·by_cases hjk:j=k
    ·subst hjk
     obtain ⟨_,oj,hoj,hall⟩:=mem_ready.1 hj
     have:ok=oj:=aB (hk.symm.trans hoj)
     subst this
     exact getD_set_true (hall e he hb)
    ·rw [getD_set_ne false hjk] at hl
     exact getD_set_true (hcl k ok hk hl e he hb)
  have take:∀ j oj,j∈aC md l.toArray listed→l.toArray[j]?=some oj→Jt oj.op=true→j∈(i::r)→wpAnyH P md l.toArray Q S (m+1) listed a w:=by
   intro j oj hj hoj hq hjr
   obtain ⟨pre,post,hpp⟩:=List.append_of_mem hjr
   have hjs:=mem_ready.1 hj
   have happ:∀ k ok,l.toArray[k]?=some ok→k≠j→listed.getD k true=false→(∀ e∈ok.after,aI md e=true→e.on≠j)→oj.apart l.toArray ok=true:=by
    intro k ok hok hkj hun hno
    have hnw:bj md l.toArray k j=false:=by
     cases hv:bj md l.toArray k j with
     |false=>rfl
     |true =>
      obtain ⟨o',ho',e,he,hb,hon⟩:=eN hv
      have:o'=ok:=aB (ho'.symm.trans hok)
      subst this
      exact absurd hon (hno e he hb)
    have hnw2:bj md l.toArray j k=false:=by
     cases hv:bj md l.toArray j k with
     |false=>rfl
     |true =>
      obtain ⟨o',ho',e,he,hb,hon⟩:=eN hv
      obtain ⟨_,o2,ho2,hall⟩:=hjs
      have:o'=o2:=aB (ho'.symm.trans ho2)
      subst this
      have:=hall e he hb
      rw [hon,getD_both hun] at this;cases this
    rcases Nat.lt_or_gt_of_ne hkj with hlt | hgt
    ·have:=Dg hB hlt (by simpa using hok) (by simpa using hoj)
     rw [if_pos (by simp [hq]),hnw2] at this
     exact Ny (by simpa using this)
    ·have:=Dg hB hgt (by simpa using hoj) (by simpa using hok)
     rw [if_pos (by simp [hq]),hnw] at this
     simpa using this
   have hfront:=BE (P:=P) (Q:=Q) (S:=S) hoj hq hsel pre a w (post:=post) (fun k hk ok hok=>by
    have hkr:k∈(i::r):=by rw [hpp];simp [hk]
    have hkj:k<j:=by
     rw [hpp] at hs
     exact(List.pairwise_append.1 hs).2.2 k hk j (by simp)
    refine happ k ok hok (by omega) ((hr k).1 hkr).2 (fun e he hb heq=>?_)
    obtain ⟨o',ho',hed'⟩:=Xt hord ((hr k).1 hkr).1
    have:o'=ok:=aB (ho'.symm.trans hok)
    subst this
    have:=hed' e he hb;omega) (by rw [← hpp];exact h)
   obtain ⟨v,hy,h'⟩:=hfront
   have herase:(i::r).erase j=pre++post:=by
    rw [hpp,List.erase_append_right,List.erase_cons_head]
    intro hmem
    rw [hpp] at hs
    have:=(List.pairwise_append.1 hs).2.2 j hmem j (by simp)
    omega
   exact wpAnyH_first hoj hsel (fun c a w h=>hQ c a _ v w h) m listed a w happ hj hy hS (next j hj hjr _ w hS (by rw [herase];exact h'))
  by_cases hex:∃ j oj,j∈aC md l.toArray listed∧l.toArray[j]?=some oj∧Jt oj.op=true
  ·obtain ⟨j,oj,hj,hoj,hq⟩:=hex
   have hjl:j<l.length:=by have:=(Array.getElem?_eq_some_iff.1 hoj).1;simpa using this
   exact take j oj hj hoj hq ((hr j).2 ⟨hjl,(mem_ready.1 hj).1⟩)
  ·
   have hone:∀ j∈aC md l.toArray listed,j=i:=by
    intro j hj
    obtain ⟨hjun,oj,hoj,hall⟩:=mem_ready.1 hj
    have hjl:j<l.length:=by have:=(Array.getElem?_eq_some_iff.1 hoj).1;simpa using this
    have hjr:=(hr j).2 ⟨hjl,hjun⟩
    rcases List.mem_cons.1 hjr with e | e
    ·exact e
    ·have hlt:=(List.pairwise_cons.1 hs).1 j e
     have hqj:Jt oj.op=false:=by
      cases hv:Jt oj.op with
      |false=>rfl
      |true=>exact absurd ⟨j,oj,hj,hoj,hv⟩ hex
     have hqi:Jt oi.op=false:=by
      cases hv:Jt oi.op with
      |false=>rfl
      |true=>exact absurd ⟨i,oi,hri,hoi,hv⟩ hex
     have:=Dg hB hlt (by simpa using hoi) (by simpa using hoj)
     rw [if_neg (by simp [hqi,hqj])] at this
     have:=Tk hord hcl j oj (by simpa using hoj) hall i this
     rw [getD_both hil.2] at this;cases this
   refine⟨fun h0=>(by rw [h0] at hri;cases hri),fun j hj=>?_⟩
   have:=hone j hj
   subst this
   obtain ⟨o,ho,h⟩:=h
   have:o=oi:=aB (ho.symm.trans hoi)
   subst this
   rcases h with ⟨hq,_⟩ | ⟨_,h⟩
   ·exact absurd ⟨j,o,hri,ho,hq⟩ hex
   ·refine S1 (wpOp_mono (fun a' w' h=>⟨h.1,?_⟩) h)
    exact next j hri (by simp) a' w' h.1 (by rw [List.erase_cons_head];exact h.2)
end
section
variable {Q:Exit→Act→ab→Prop} {S:ab→Prop}
def To (P:au) (ops:Array Oper) (Q:Exit→Act→ab→Prop) (S:ab→Prop):List Oper→Act→ab→Prop
  | [],a,w=>Q .normal a w
  | o::r,a,w =>
      (Jt o.op=true∧∃ v,YieldsIf P ops S o v a∧To P ops Q S r (a.put o.dst v) w) ∨
       (Jt o.op=false∧if aj o (yielded ops a.tmps) then o.wp P a w (fun a' w'=>S w'∧To P ops Q S r a' w') (fun _ _ _=>False) else S w∧To P ops Q S r (a.put o.dst undef) w)
theorem K6 {ops:Array Oper}:∀ (l:List Oper) (k:Nat) (a:Act) (w:ab),(∀ j,j<l.length→l[j]?=ops[k+j]?)→To P ops Q S l a w→PO P ops Q S (fO k l.length) a w
 |[],k,a,w,_,h=>h
 |o::l,k,a,w,hl,h=>by
  have h0:ops[k]?=some o:=by simpa using (hl 0 (by simp)).symm
  have hl':∀ j,j<l.length→l[j]?=ops[k+1+j]?:=fun j hj=>by
   have:=hl (j+1) (by simp;omega)
   rw [show k+1+j=k+(j+1) by omega,← this];simp
  rw [aP,List.range'_succ]
  refine⟨o,h0,?_⟩
  rcases h with ⟨h1,v,h2,h3⟩ | ⟨h1,h2⟩
  ·exact .inl ⟨h1,v,h2,K6 l (k+1) _ w hl' h3⟩
  ·refine .inr ⟨h1,?_⟩
   unfold wpOp
   simp only [h0]
   split
   ·rename_i hw
    rw [if_pos hw] at h2
    exact .inl (Oper.wp_mono (fun a' w' h=>⟨h.1,K6 l (k+1) a' w' hl' h.2⟩) h2)
   ·rename_i hw
    rw [if_neg hw] at h2
    exact⟨h2.1,K6 l (k+1) _ w hl' h2.2⟩
theorem Vx {l:List Oper} {Q':Exit→Act→ab→Prop} (hB:lexB .any l=true) (hQ:∀ c a w,¬ Q' (.panic c) a w) {a:Act} {w:ab} (hS:S w) (h:To P l.toArray Q' S l a w) :
  wpAny P .any l.toArray Q' l.length (bE l.length false) a w:=by
 refine wpAny_of_held _ _ _ _ (jP hB (fun c a d v w h=>absurd h (hQ c _ w)) l.length (fO 0 l.length) _ a w (by simp) List.pairwise_lt_range' (fun i=>?_) (by simp) (fun j oj _ hl=>(by rw [getD_replicate_false] at hl;cases hl)) hS (K6 l 0 a w (fun j _=>by simp) h))
 rw [List.mem_range'_1]
 constructor
 ·intro h
  have:i<l.length:=by omega
  simp [this]
 ·intro h;omega
def Xl (K:Act→ab→Prop):Exit→Act→ab→Prop
 |.normal,a,w=>K a w
 |_,_,_=>False
theorem Oper.Lr {o:Oper} {a:Act} {w:ab} {K:Act→ab→Prop} {Q Q':Exit→Act→ab→Prop} (hq:∀ e a w,Q e a w→Q' e a w) (h:o.wp P a w K Q):o.wp P a w K Q':=by
 unfold bG at *
 generalize (execOp a.eval o).run P w=r at *
 cases r with
 |ok n w' =>
  cases n<;>simp only [aN] at h ⊢
  all_goals first
   |exact h
   |exact ef h fun e w'' he=>by
     cases e with
     |returned u=>exact he
     |panicked c=>exact hq _ _ _ he
     |outgrown=>obtain ⟨a,w,h⟩:=he;exact⟨a,w,hq _ _ _ h⟩
 |halt x w'=>cases x<;>simp only [aN] at h ⊢;exact hq _ _ _ h
theorem Uw {ops:Array Oper} {i:Nat} {K:Act→ab→Prop} {Q Q':Exit→Act→ab→Prop} {a:Act} {w:ab} (hq:∀ e a w,Q e a w→Q' e a w) (h:wpOp P ops Q i K a w):wpOp P ops Q' i K a w:=by
 unfold wpOp at *
 cases ho:ops[i]? with
 |none=>simp only [ho] at h ⊢;exact h
 |some o =>
  simp only [ho] at h ⊢
  split
  ·rename_i hw
   rw [if_pos hw] at h
   exact h.imp (Oper.Lr hq) (fun⟨h1,a,w,h2⟩=>⟨h1,a,w,hq _ _ _ h2⟩)
  ·rename_i hw;rw [if_neg hw] at h;exact h
theorem Vm {ops:Array Oper} {Q Q':Exit→Act→ab→Prop} (hq:∀ e a w,Q e a w→Q' e a w):∀ (f:Nat) (listed:Array Bool) (a:Act) (w:ab),wpAny P md ops Q f listed a w→wpAny P md ops Q' f listed a w
 |0,_,_,_,h=>⟨h.1,hq _ _ _ h.2⟩
 |f+1,_,_,_,h=>⟨fun h0=>hq _ _ _ (h.1 h0),fun i hi=>Uw hq (wpOp_mono (fun a' w' h'=>Vm hq f _ a' w' h') (h.2 i hi))⟩
theorem PE {id:Nat} {a:Act} {w:ab} {l:List Oper} (hm:P.follows .mixedOrders=true) (hB:lexB .any l=true) (hS:S { w with drawn:=w.drawn+1 })
  (h:To P l.toArray (Xl (Q .normal)) S l a { w with drawn:=w.drawn+1 }):(eU id l.toArray true).wp P Q a w:=by
 refine wp_region_any hm ?_
 have:=Vx (P:=P) (Q':=Xl (Q .normal)) hB (fun c a w h=>h) hS h
 simpa using Vm (Q':=Q) (fun e a w h=>by cases e<;>first | exact h | exact h.elim) _ _ _ _ this
theorem Hc {id:Nat} {a:Act} {w:ab} {l:List Oper} (n:Nat) (hm:P.follows .mixedOrders=true) (hB:H6 l n=true) (hB2:lexB .any (l.take n)=true) (hS:S { w with drawn:=w.drawn+1 })
  (h:To P (l.take n).toArray (Xl (fun a w=>wpList P l.toArray Q (l.drop n) a w)) S (l.take n) a { w with drawn:=w.drawn+1 }):(eU id l.toArray true).wp P Q a w:=by
 refine Ej n hm hB ?_
 have hn:n<l.length:=by simp only [H6,bC,decide_eq_true_eq] at hB;exact hB.1.1.1.1.1
 have:=Vx (P:=P) hB2 (fun c a w h=>h) hS h
 have e:(l.take n).length=n:=by simp;omega
 rw [e] at this
 exact Vm (fun e a w h=>by cases e<;>first | exact h | exact h.elim) _ _ _ _ this
end
end
abbrev Gs:=Nat→Option (Array aa×ae)
def Gs.le (F F':Gs):Prop:=∀ b x,F b=some x→F' b=some x
theorem Gs.le_refl (F:Gs):Gs.le F F:=fun _ _ h=>h
theorem Gs.le_trans {F F' F'':Gs} (h:Gs.le F F') (k:Gs.le F' F''):Gs.le F F'':=fun b x hx=>k b x (h b x hx)
class Dr where
 on:Prop
instance (priority:=10) QBE:Dr:=⟨False⟩
class Df where
 ds:List Deferred
instance (priority:=10) VJ:Df:=⟨[]⟩
structure PZ [Dr] (w w':ab):Prop extends Below w.heap.size w w' where
 dr:Dr.on→w.drawn≤w'.drawn
section
variable [Dr]
theorem PZ.refl (w:ab):PZ w w:=⟨Ext.refl w,fun _=>aA _⟩
theorem PZ.trans {a b c:ab} (h:PZ a b) (k:PZ b c):PZ a c:=⟨Ext.trans h.toBelow k.toBelow,fun d=>er (h.dr d) (k.dr d)⟩
theorem PZ.alloc {a w:ab} (h:PZ a w) (o:Obj):PZ a (w.alloc o):=⟨Ext.alloc h.toBelow o,h.dr⟩
theorem PZ.drew {a w:ab} (h:PZ a w):PZ a w.drew:=⟨Ext.drew h.toBelow,fun d=>Nat.le_succ_of_le (h.dr d)⟩
end
theorem PZ.of {w w':ab} (h:Ext w w'):PZ w w':=⟨h,fun d=>d.elim⟩
section
variable [Dr] [df:Df]
structure Fits (F:Gs) (w:ab):Prop where
 row:∀ b c T,F b=some (c,T)→∃ fr,w.heap[b]?=some (.cells c T fr)
 all:∀ b c fr,w.heap[b]?=some (.cells c 248 fr)→F b=some (c,248)
theorem Fits.drew {F:Gs} {w:ab} (h:Fits F w):Fits F w.drew:=⟨h.row,h.all⟩
theorem Fits.lt {F:Gs} {w:ab} (h:Fits F w) {b:Nat} {x:Array aa×ae} (hb:F b=some x):b<w.heap.size:=by
 obtain ⟨fr,h⟩:=h.row b x.1 x.2 hb
 rcases ay b w.heap.size with g | g
 ·exact g
 ·rw [ah g] at h;cases h
theorem Fits.none {F:Gs} {w:ab} (h:Fits F w) {b:Nat} (hb:w.heap.size≤b):F b=none:=by
 cases hv:F b with
 |none=>rfl
 |some x=>have:=h.lt hv;omega
abbrev Sl:=List (Nat×aa)
def look:Sl→Nat→Option aa
 |[],_=>none
 |(k,v)::r,t=>bif bh k t then some v else look r t
def p4 (m:Sl):Option Tmp→aa→Sl
 |some d,v=>(d,v)::m
 |none,_=>m
def ev (m:Sl):af→Option aa
 |.tmp t=>look m t
 |.const v=>some v
 |.global g=>some (.pointer (some ⟨g,0,none⟩))
 |.func f=>some (.func (.func f) #[] #[])
def Ep (m:Sl):List af→Option (List aa)
 |[]=>some []
 |x::r=>match ev m x,Ep m r with
  |some v,some l=>some (v::l)
  |_,_=>none
def J5 (N:Nat) (d:Option Tmp):Bool:=match d with | some d=>Nat.blt d N | none=>true
structure Jx (N:Nat) (m:Sl) (a:Act):Prop where
 size:a.tmps.size=N
 df:a.defers=Df.ds
 get:∀ t v,look m t=some v→a.tmps[t]?=some v
theorem Jx.ev {N:Nat} {m:Sl} {a:Act} (h:Jx N m a) {x:af} {v:aa} (hx:ev m x=some v):a.eval x=v:=by
 cases x with
 |tmp t=>have:=h.get t v hx;simp [eY,this]
 |const v'=>simpa [YtknegjaeoffnbaaGreatDoor.ev,eY] using hx
 |global g=>simpa [YtknegjaeoffnbaaGreatDoor.ev,eY] using hx
 |func f=>simpa [YtknegjaeoffnbaaGreatDoor.ev,eY] using hx
theorem Jx.Ep {N:Nat} {m:Sl} {a:Act} (h:Jx N m a):∀ {l:List af} {vs:List aa},Ep m l=some vs→l.map a.eval=vs
 |[],vs,e=>by simpa [YtknegjaeoffnbaaGreatDoor.Ep] using e
 |x::l,vs,e=>by
  unfold YtknegjaeoffnbaaGreatDoor.Ep at e
  cases hx:YtknegjaeoffnbaaGreatDoor.ev m x with
  |none=>rw [hx] at e;simp at e
  |some v =>
   cases hl:YtknegjaeoffnbaaGreatDoor.Ep m l with
   |none=>rw [hx,hl] at e;simp at e
   |some r =>
    rw [hx,hl] at e
    simp only [ao] at e
    subst e
    rw [bL,h.ev hx,h.Ep hl]
theorem Jx.put {N:Nat} {m:Sl} {a:Act} (h:Jx N m a) {d:Option Tmp} (hd:J5 N d=true) (v:aa):Jx N (p4 m d v) (a.put d v):=by
 cases d with
 |none=>exact h
 |some d =>
  have hd':d<N:=by simpa [J5] using hd
  refine⟨by simp [fp,h.size],h.df,fun t u ht=>?_⟩
  simp only [p4,look] at ht
  cases hb:bh d t with
  |true =>
   rw [hb] at ht
   have:d=t:=by simpa using hb
   subst this
   have:v=u:=by simpa using ht
   subst this
   simp [fp,h.size,hd']
  |false =>
   rw [hb] at ht
   have hne:d≠t:=by intro e;subst e;simp at hb
   have:=h.get t u (by simpa using ht)
   simp [fp,aD hne,this]
def KE (m:Sl):Sl→Prop
 |[]=>True
 |(t,v)::r=>look m t=some v∧KE m r
theorem Jx.sub {N:Nat} {m:Sl} {a:Act} (h:Jx N m a):∀ {m':Sl},KE m m'→Jx N m' a
 |[],_=>⟨h.size,h.df,fun t v e=>by simp [look] at e⟩
 |(k,u)::r,⟨h1,h2⟩=>by
  refine⟨h.size,h.df,fun t v e=>?_⟩
  simp only [look] at e
  cases hb:bh k t with
  |true =>
   rw [hb] at e
   have:k=t:=by simpa using hb
   subst this
   have:u=v:=by simpa using e
   subst this
   exact h.get _ _ h1
  |false=>rw [hb] at e;exact(h.sub h2).get t v (by simpa using e)
structure Env where
 w0:ab
 F0:Gs
 bs:List (Nat×Obj)
 G:Gs→Prop
structure Lc (E:Env) (w:ab) (F:Gs):Prop where
 le:Gs.le E.F0 F
 old:∀ b,b<E.w0.heap.size→F b=E.F0 b
 fits:Fits F w
 ext:PZ E.w0 w
 bx:∀ k∈E.bs,w.heap[k.1]?=some k.2∧E.w0.heap.size≤k.1∧F k.1=none
 nd:(E.bs.map (·.1)).Nodup
 g:∀ F',Gs.le F F'→E.G F'
def St (E:Env) (w:ab):Prop:=∃ F,Lc E w F
theorem Lc.drew {E:Env} {w:ab} {F:Gs} (h:Lc E w F):Lc E w.drew F:=⟨h.le,h.old,h.fits.drew,h.ext.drew,h.bx,h.nd,h.g⟩
theorem St.drew {E:Env} {w:ab} (h:St E w):St E w.drew:=h.imp fun _ h=>h.drew
theorem Lc.hG {E:Env} {w:ab} {F:Gs} (h:Lc E w F):E.G F:=h.g F (Gs.le_refl F)
theorem St.start {w:ab} {F:Gs} (hf:Fits F w) {G:Gs→Prop} (hg:∀ F',Gs.le F F'→G F'):St ⟨w,F,[],G⟩ w :=
 ⟨F,Gs.le_refl F,fun _ _=>rfl,hf,PZ.refl w,fun _ h=>(by cases h),List.nodup_nil,hg⟩
theorem St.imp {w0:ab} {F0:Gs} {bs bs':List (Nat×Obj)} {G G':Gs→Prop} {w:ab} (h:St ⟨w0,F0,bs,G⟩ w) (hb:bs'.Sublist bs) (hg:∀ F,G F→G' F):St ⟨w0,F0,bs',G'⟩ w:=by
 obtain ⟨F,h⟩:=h
 exact⟨F,h.le,h.old,h.fits,h.ext,fun k hk=>h.bx k (hb.subset hk),(hb.map _).nodup h.nd,fun F' hF'=>hg F' (h.g F' hF')⟩
theorem St.Bu {w0:ab} {F0:Gs} {bs:List (Nat×Obj)} {G G':Gs→Prop} {w:ab} (h:St ⟨w0,F0,bs,G⟩ w) (hg:∀ F,G F→G' F):St ⟨w0,F0,bs,G'⟩ w:=h.imp (eJ _) hg
theorem P2 {α:Type} {x:α} {l r:List α} (h:(l++x::r).Nodup):x∉l++r∧(l++r).Nodup:=by
 have h1:=h
 rw [fb] at h1
 obtain ⟨a,b,c⟩:=h1
 obtain ⟨d,e⟩:=List.nodup_cons.1 b
 refine⟨fun hx=>?_,?_⟩
 ·rcases List.mem_append.1 hx with hx | hx
  ·exact c x hx x (by simp) rfl
  ·exact d hx
 ·rw [fb]
  exact⟨a,e,fun y hy z hz=>c y hy z (by simp [hz])⟩
theorem St.alloc {w0:ab} {F0:Gs} {bs:List (Nat×Obj)} {G:Gs→Prop} {w:ab} (h:St ⟨w0,F0,bs,G⟩ w) (o:Obj) (ho:∀ c fr,o≠.cells c 248 fr):St ⟨w0,F0,(w.heap.size,o)::bs,G⟩ (w.alloc o):=by
 obtain ⟨F,h⟩:=h
 have hne:∀ k∈bs,k.1≠w.heap.size:=fun k hk e=>by
  have:=(h.bx k hk).1
  rw [e,ah (aA _)] at this;cases this
 refine⟨F,⟨h.le,h.old,⟨fun b c T hb=>?_,fun b c fr hb=>?_⟩,h.ext.alloc o,fun k hk=>?_,?_,h.g⟩⟩
 ·obtain ⟨fr,e⟩:=h.fits.row b c T hb
  exact⟨fr,by rw [ey _ _ _ (h.fits.lt hb)];exact e⟩
 ·rcases ay b w.heap.size with g | g
  ·rw [ey _ _ _ g] at hb;exact h.fits.all b c fr hb
  ·have hb':(w.heap.push o)[b]?=some (.cells c 248 fr):=hb
   rw [Array.getElem?_push] at hb'
   split at hb'
   ·exact absurd (aB hb') (ho c fr)
   ·rw [ah g] at hb';cases hb'
 ·rcases List.mem_cons.1 hk with rfl | hk
  ·exact⟨by show(w.heap.push o)[w.heap.size]?=_;simp,h.ext.size,h.fits.none (aA _)⟩
  ·obtain ⟨h1,h2,h3⟩:=h.bx k hk
   have hlt:k.1<w.heap.size:=by
    rcases ay k.1 w.heap.size with g | g
    ·exact g
    ·rw [ah g] at h1;cases h1
   exact⟨by rw [ey _ _ _ hlt];exact h1,h2,h3⟩
 ·show(w.heap.size::bs.map (·.1)).Nodup
  refine List.nodup_cons.2 ⟨fun hm=>?_,h.nd⟩
  obtain ⟨k,hk,e⟩:=List.mem_map.1 hm
  exact hne k hk e
theorem Lc.freeze {w0:ab} {F0:Gs} {pre post:List (Nat×Obj)} {b:Nat} {c:Array aa} {T:ae} {fr:Nat×Nat} {G:Gs→Prop} {w:ab} {F:Gs} (h:Lc ⟨w0,F0,pre++(b,.cells c T fr)::post,G⟩ w F) :
  Lc ⟨w0,F0,pre++post,G⟩ w (fun i=>if i=b then some (c,T) else F i)∧Gs.le F (fun i=>if i=b then some (c,T) else F i):=by
 obtain ⟨h1,h2,h3⟩:=h.bx (b,.cells c T fr) (by simp)
 have hle:Gs.le F (fun i=>if i=b then some (c,T) else F i):=fun i x hx=>by
  by_cases e:i=b
  ·subst e;rw [h3] at hx;cases hx
  ·show(if i=b then _ else _)=_
   rw [if_neg e];exact hx
 have hnd:=h.nd
 simp only [bm,bL] at hnd
 have hnd2:=(P2 hnd)
 refine⟨⟨Gs.le_trans h.le hle,fun i hi=>?_,⟨fun i c' T' hi=>?_,fun i c' fr' hi=>?_⟩,h.ext,fun k hk=>?_,?_,fun F' hF'=>h.g F' (Gs.le_trans hle hF')⟩,hle⟩
 ·have:i≠b:=by rintro rfl;exact absurd hi (Nat.not_lt.2 h2)
  rw [if_neg this];exact h.old i hi
 ·by_cases e:i=b
  ·subst e
   rw [if_pos rfl] at hi
   cases hi
   exact⟨fr,h1⟩
  ·rw [if_neg e] at hi;exact h.fits.row i c' T' hi
 ·by_cases e:i=b
  ·subst e
   have:=h1.symm.trans hi
   cases this
   rw [if_pos rfl]
  ·rw [if_neg e];exact h.fits.all i c' fr' hi
 ·obtain ⟨g1,g2,g3⟩:=h.bx k (by
   rcases List.mem_append.1 hk with h | h
   ·simp [h]
   ·simp [h])
  refine⟨g1,g2,?_⟩
  have hkb:k.1≠b:=by
   rintro rfl
   refine hnd2.1 ?_
   rw [← bm];exact eX hk
  rw [if_neg hkb];exact g3
 ·show((pre++post).map (·.1)).Nodup
  rw [bm];exact hnd2.2
theorem St.freeze {w0:ab} {F0:Gs} (pre:List (Nat×Obj)) {post:List (Nat×Obj)} {b:Nat} {c:Array aa} {T:ae} {fr:Nat×Nat} {G:Gs→Prop} {w:ab} (h:St ⟨w0,F0,pre++(b,.cells c T fr)::post,G⟩ w) :
  St ⟨w0,F0,pre++post,fun F=>G F∧F b=some (c,T)⟩ w:=by
 obtain ⟨F,h⟩:=h
 obtain ⟨h1,hle⟩:=h.freeze
 exact⟨_,h1.le,h1.old,h1.fits,h1.ext,h1.bx,h1.nd,fun F' hF'=>⟨h1.g F' hF',hF' b _ (by show(if b=b then _ else _)=_;rw [if_pos rfl])⟩⟩
theorem St.write {w0:ab} {F0:Gs} (pre:List (Nat×Obj)) {post:List (Nat×Obj)} {b:Nat} {o o':Obj} {G:Gs→Prop} {w w':ab} (h:St ⟨w0,F0,pre++(b,o)::post,G⟩ w)
  (hw:w'.heap=w.heap.setIfInBounds b o'∧w'.os=w.os∧w'.tape=w.tape∧w'.output=w.output∧w'.drawn=w.drawn) (ho:∀ c fr,o'≠.cells c 248 fr):St ⟨w0,F0,pre++(b,o')::post,G⟩ w':=by
 obtain ⟨F,h⟩:=h
 obtain ⟨h1,h2,h3⟩:=h.bx (b,o) (by simp)
 have hlt:b<w.heap.size:=by
  rcases ay b w.heap.size with g | g
  ·exact g
  ·rw [ah g] at h1;cases h1
 have hne:∀ i,i≠b→w'.heap[i]?=w.heap[i]?:=fun i hi=>by rw [hw.1,aD (ez hi)]
 have heq:w'.heap[b]?=some o':=by rw [hw.1];simp [hlt]
 have hsz:w'.heap.size=w.heap.size:=by rw [hw.1];simp
 have hnd:=h.nd
 simp only [bm,bL] at hnd
 have hnd2:=(P2 hnd)
 refine⟨F,⟨h.le,h.old,⟨fun i c T hi=>?_,fun i c fr hi=>?_⟩,⟨Ext.yA h.ext.toBelow ?_ ?_ ?_ ?_ ?_,fun d=>by rw [hw.2.2.2.2];exact h.ext.dr d⟩,fun k hk=>?_,?_,h.g⟩⟩
 ·have:i≠b:=by rintro rfl;rw [h3] at hi;cases hi
  rw [hne i this];exact h.fits.row i c T hi
 ·by_cases e:i=b
  ·subst e;rw [heq] at hi;exact absurd (aB hi) (ho c fr)
  ·rw [hne i e] at hi;exact h.fits.all i c fr hi
 ·exact hw.2.1
 ·exact hw.2.2.1
 ·exact hw.2.2.2.1
 ·omega
 ·intro i hi
  exact hne i (by rintro rfl;exact absurd hi (Nat.not_lt.2 h2))
 ·have key:k=(b,o')∨k∈pre++post:=by
   rcases List.mem_append.1 hk with h | h
   ·exact .inr (by simp [h])
   ·rcases List.mem_cons.1 h with h | h
    ·exact .inl h
    ·exact .inr (by simp [h])
  rcases key with rfl | hk'
  ·exact⟨heq,h2,h3⟩
  ·obtain ⟨g1,g2,g3⟩:=h.bx k (by
    rcases List.mem_append.1 hk' with h | h
    ·simp [h]
    ·simp [h])
   have hkb:k.1≠b:=by
    rintro rfl
    refine hnd2.1 ?_
    rw [← bm];exact eX hk'
   exact⟨by rw [hne _ hkb];exact g1,g2,g3⟩
 ·show((pre++(b,o')::post).map (·.1)).Nodup
  simp only [bm,bL]
  exact hnd
end
section
variable [Dr] [df:Df]
section
variable {P:au} {Q:Exit→Act→ab→Prop} {N:Nat} {m:Sl} {E:Env}
def Fin (Q:Exit→Act→ab→Prop) (e:Exit) (N:Nat) (m:Sl) (E:Env):Prop:=∀ a w,Jx N m a→St E w→Q e a w
def J (P:au) (c:Code) (Q:Exit→Act→ab→Prop) (N:Nat) (m:Sl) (E:Env):Prop:=∀ a w,Jx N m a→St E w→c.wp P Q a w
def JS (P:au) (ops:Array Oper) (Q:Exit→Act→ab→Prop) (l:List Oper) (N:Nat) (m:Sl) (E:Env):Prop:=∀ a w,Jx N m a→St E w→wpList P ops Q l a w
def JD (P:au) (ops:Array Oper) (Q:Exit→Act→ab→Prop) (E0:Env) (l:List Oper) (N:Nat) (m:Sl) (E:Env):Prop:=(∀ w,St E w→St E0 w)→∀ a w,Jx N m a→St E w→To P ops Q (St E0) l a w
theorem QG {x y:Code} (h:J P x (Exit.then (y.wp P Q) Q) N m E):J P (.seq x y) Q N m E:=fun a w ha hw=>wp_seq (h a w ha hw)
theorem QX {id:Nat} {c:Code} (h:J P c (bz id Q) N m E):J P (.block id c) Q N m E:=fun a w ha hw=>wp_block (h a w ha hw)
theorem QO (h:Fin Q .normal N m E):J P .skip Q N m E:=fun a w ha hw=>wp_skip (h a w ha hw)
theorem Qz {id:Nat} (h:Fin Q (.exit id) N m E):J P (.exit id) Q N m E:=fun a w ha hw=>wp_exit (h a w ha hw)
theorem QS (h:Fin Q .ret N m E):J P .ret Q N m E:=fun a w ha hw=>wp_ret (h a w ha hw)
theorem QQ {c:af} {x y:Code} {t:Bool} (hc:ev m c=some (.bool t)) (ht:t=true→J P x Q N m E) (hf:t=false→J P y Q N m E):J P (.cond c x y) Q N m E :=
 fun a w ha hw=>wp_cond_split (ha.ev hc) (fun h=>ht h a w ha hw) (fun h=>hf h a w ha hw)
theorem GK {c:af} {x y:Code} (hc:ev m c=some (.bool true)) (h:J P x Q N m E):J P (.cond c x y) Q N m E:=QQ hc (fun _=>h) (fun h=>by cases h)
theorem YQ {c:af} {x y:Code} (hc:ev m c=some (.bool false)) (h:J P y Q N m E):J P (.cond c x y) Q N m E:=QQ hc (fun h=>by cases h) (fun _=>h)
theorem QC {y:Code} (h:J P y Q N m E):Fin (Exit.then (y.wp P Q) Q) .normal N m E:=h
theorem Qb {K:Act→ab→Prop} {id:Nat} (h:Fin Q (.exit id) N m E):Fin (Exit.then K Q) (.exit id) N m E:=h
theorem JC {K:Act→ab→Prop} (h:Fin Q .ret N m E):Fin (Exit.then K Q) .ret N m E:=h
theorem Qk {id:Nat} (h:Fin Q .normal N m E):Fin (bz id Q) .normal N m E:=h
theorem Q5 {id:Nat} (h:Fin Q .ret N m E):Fin (bz id Q) .ret N m E:=h
theorem Qc {id:Nat} (h:Fin Q .normal N m E):Fin (bz id Q) (.exit id) N m E:=fun a w ha hw=>by simp only [bz,if_true];exact h a w ha hw
theorem QV {id id':Nat} (hid:bh id' id=false) (h:Fin Q (.exit id') N m E):Fin (bz id Q) (.exit id') N m E:=fun a w ha hw=>by
 have:id'≠id:=by rintro rfl;simp at hid
 simp only [bz,if_neg this];exact h a w ha hw
theorem QAQ {K:Act→ab→Prop} (h:∀ a w,Jx N m a→St E w→K a w):Fin (Xl K) .normal N m E:=h
def IC {ι:Type} (N:Nat) (w0:ab) (F0:Gs) (M:ι→Sl) (B:ι→List (Nat×Obj)) (H:ι→Gs→Prop) (μ:ι→Nat) (i:ι) (a:Act) (w:ab):Prop :=
 ∃ j,μ j<μ i∧Jx N (M j) a∧St ⟨w0,F0,B j,H j⟩ w
theorem Xb {ι:Type} {w0:ab} {F0:Gs} {bs:List (Nat×Obj)} {G:Gs→Prop} {c:Code} (M:ι→Sl) (B:ι→List (Nat×Obj)) (H:ι→Gs→Prop) (μ:ι→Nat) (i0:ι)
  (hm:KE m (M i0)) (hb:(B i0).Sublist bs) (hg:∀ F,G F→H i0 F)
  (round:∀ i,J P c (Exit.then (IC N w0 F0 M B H μ i) Q) N (M i) ⟨w0,F0,B i,H i⟩):J P (.loop c) Q N m ⟨w0,F0,bs,G⟩:=by
 intro a w ha hw
 refine wp_loop_ghost (fun n a w=>∃ i,μ i=n∧Jx N (M i) a∧St ⟨w0,F0,B i,H i⟩ w) (μ i0) ⟨i0,rfl,ha.sub hm,hw.imp hb hg⟩ ?_
 rintro n a w ⟨i,rfl,ha,hw⟩
 refine wp_mono (round i a w ha hw) ?_
 intro e a' w' h
 cases e with
 |normal=>obtain ⟨j,h1,h2,h3⟩:=h;exact⟨μ j,h1,j,rfl,h2,h3⟩
 |_=>exact h
theorem Qo {ι:Type} {w0:ab} {F0:Gs} {bs:List (Nat×Obj)} {G:Gs→Prop} {M:ι→Sl} {B:ι→List (Nat×Obj)} {H:ι→Gs→Prop} {μ:ι→Nat} {i:ι} (j:ι) (hμ:μ j<μ i)
  (hm:KE m (M j)) (hb:(B j).Sublist bs) (hg:∀ F,G F→H j F):Fin (Exit.then (IC N w0 F0 M B H μ i) Q) .normal N m ⟨w0,F0,bs,G⟩ :=
 fun a w ha hw=>⟨j,hμ,ha.sub hm,hw.imp hb hg⟩
theorem QAM {w0:ab} {F0:Gs} {bs bs':List (Nat×Obj)} {G G':Gs→Prop} {m':Sl} {c:Code} (hm:KE m m') (hb:bs'.Sublist bs) (hg:∀ F,G F→G' F) (h:J P c Q N m' ⟨w0,F0,bs',G'⟩):J P c Q N m ⟨w0,F0,bs,G⟩ :=
 fun a w ha hw=>h a w (ha.sub hm) (hw.imp hb hg)
theorem QB {id:Nat} {l:List Oper} (h:JS P l.toArray Q l N m E):J P (.region id l.toArray false) Q N m E:=fun a w ha hw=>wp_region_lit (h a w ha hw)
variable {ops:Array Oper} {l:List Oper} {E0:Env}
theorem QE (h:Fin Q .normal N m E):JS P ops Q [] N m E:=h
theorem QAN {K:Act→ab→Prop} (h:∀ a w,Jx N m a→St E w→K a w):JD P ops (Xl K) E0 [] N m E:=fun _=>h
def Qt (P:au) (N:Nat) (m:Sl) (S:ab→Prop) (o:Op) (ty:ae) (v:aa):Prop:=∀ a w d pos aft g,Jx N m a→S w→(execOp a.eval ⟨d,o,ty,pos,aft,g⟩).run P w = .ok (.value v) w
variable {d:Nat} {o:Op} {ty:ae} {pos:String} {aft:Array Edge} {v:aa}
theorem QA (h:Qt P N m (St E) o ty v) (k:JS P ops Q l N ((d,v)::m) E) (hd:J5 N (some d)=true:=by rfl):JS P ops Q (⟨some d,o,ty,pos,aft,none⟩::l) N m E:=by
 intro a w ha hw
 refine wpList_plain rfl fun K hK=>?_
 unfold bG
 rw [h a w _ _ _ _ ha hw]
 exact hK _ _ (k _ w (ha.put hd v) hw)
theorem QK (h:Qt P N m (St E0) o ty v) (k:JD P ops Q E0 l N ((d,v)::m) E) (hq:Jt o=true:=by rfl) (hd:J5 N (some d)=true:=by rfl):JD P ops Q E0 (⟨some d,o,ty,pos,aft,none⟩::l) N m E:=by
 intro hE a w ha hw
 exact .inl ⟨hq,v,.inl ⟨rfl,fun w' hw'=>h a w' _ _ _ _ ha hw'⟩,k hE _ w (ha.put hd v) hw⟩
theorem QAw (h:Qt P N m (St E0) o ty v) (k:JD P ops Q E0 l N m E) (hq:Jt o=true:=by rfl):JD P ops Q E0 (⟨none,o,ty,pos,aft,none⟩::l) N m E:=by
 intro hE a w ha hw
 exact .inl ⟨hq,v,.inl ⟨rfl,fun w' hw'=>h a w' _ _ _ _ ha hw'⟩,k hE _ w ha hw⟩
theorem BQ {a:Act} (ha:Jx N m a) {g t:Nat} {b:Bool} (hg:(ops[g]?).bind (·.dst)=some t) (hb:look m t=some (.bool b)):yielded ops a.tmps g=some b:=by
 unfold yielded
 rw [hg]
 have:=ha.get t _ hb
 simp [this]
theorem pS {d:Option Tmp} {g t:Nat} {b want:Bool} (hg:(ops[g]?).bind (·.dst)=some t) (hb:look m t=some (.bool b)) (ht:b=want→JS P ops Q (⟨d,o,ty,pos,aft,none⟩::l) N m E) (hf:b=!want→JS P ops Q l N (p4 m d undef) E)
  (hd:J5 N d=true:=by rfl):JS P ops Q (⟨d,o,ty,pos,aft,some (g,want)⟩::l) N m E:=by
 intro a w ha hw
 unfold wpList
 have hy:=BQ ha hg hb
 by_cases e:b=want
 ·have:=ht e a w ha hw
  unfold wpList at this
  rw [if_pos (by simp [aj])] at this
  rw [if_pos (by simp [aj,hy,e])]
  exact this
 ·rw [if_neg (by simp [aj,hy,e])]
  exact hf (by cases b<;>cases want<;>simp_all) _ w (ha.put hd undef) hw
theorem pT {d:Option Tmp} {g t:Nat} {b want:Bool} (hg:(ops[g]?).bind (·.dst)=some t) (hb:look m t=some (.bool b)) (ht:b=want→JD P ops Q E0 (⟨d,o,ty,pos,aft,none⟩::l) N m E) (hf:b=!want→JD P ops Q E0 l N (p4 m d undef) E)
  (hd:J5 N d=true:=by rfl):JD P ops Q E0 (⟨d,o,ty,pos,aft,some (g,want)⟩::l) N m E:=by
 intro hE a w ha hw
 have hy:=BQ ha hg hb
 by_cases e:b=want
 ·rcases ht e hE a w ha hw with ⟨h1,v,h2,h3⟩ | ⟨h1,h2⟩
  ·refine .inl ⟨h1,v,?_,h3⟩
   rcases h2 with ⟨_,h2⟩ | ⟨h2,_⟩
   ·exact .inl ⟨by simp [aj,hy,e],h2⟩
   ·simp [aj] at h2
  ·refine .inr ⟨h1,?_⟩
   rw [if_pos (by simp [aj])] at h2
   rw [if_pos (by simp [aj,hy,e])]
   exact h2
 ·have hr:=hf (by cases b<;>cases want<;>simp_all) hE _ w (ha.put hd undef) hw
  cases hq:Jt o with
  |true=>exact .inl ⟨hq,undef,.inr ⟨by simp [aj,hy,e],rfl⟩,hr⟩
  |false =>
   refine .inr ⟨hq,?_⟩
   rw [if_neg (by simp [aj,hy,e])]
   exact⟨hE w hw,hr⟩
end
end
section
variable [Dr] [df:Df]
def QAC (d:TypeDesc):Bool:=match d with | .struct _ | .array _ _=>true | _=>false
def YJ (P:au) (T:ae):Option (Bool×Nat):=match P.underlying T,P.info? T with
 |some d,some i=>some (QAC d,i.size)
 |_,_=>none
theorem Re {P:au} {T:ae} {g:Bool} {n:Nat} (h:YJ P T=some (g,n)) (w:ab):(isAgg T).run P w = .ok g w:=by
 unfold YJ at h
 split at h
 ·rename_i d i hd hi
  cases h
  unfold isAgg
  rw [ar,run_underlying hd w]
  cases d<;>rfl
 ·cases h
theorem Z2 {P:au} {T:ae} {g:Bool} {n:Nat} (h:YJ P T=some (g,n)) (w:ab):(sizeOf T).run P w = .ok n w:=by
 unfold YJ at h
 split at h
 ·rename_i d i hd hi
  cases h
  simp [sizeOf,typeInfo,hi]
 ·cases h
def W6 (P:au) (T:ae) (f:Nat):Option (Nat×ae):=match P.underlying T with
 |some (.struct fs)=>match fs[f]? with
  |some x=>some (x.offset,x.type)
  |none=>none
 |_=>none
inductive Ha:List aa→Nat→List aa→Prop
 |nil {l:List aa}:Ha l 0 []
 |here {x:aa} {l vs:List aa}:Ha l 0 vs→Ha (x::l) 0 (x::vs)
 |skip {x:aa} {l vs:List aa} {n:Nat}:Ha l n vs→Ha (x::l) (n+1) vs
theorem Ha.at {l vs:List aa} {n:Nat} (h:Ha l n vs):∀ (j:Nat) (v:aa),vs[j]?=some v→l[n+j]?=some v:=by
 induction h with
 |nil=>intro j v hv;simp at hv
 |here h ih =>
  intro j v hv
  cases j with
  |zero=>simpa using hv
  |succ j =>
   have:=ih j v (by simpa using hv)
   rw [show 0+(j+1)=(0+j)+1 by omega];simpa using this
 |skip h ih =>
  intro j v hv
  have:=ih j v hv
  rw [ek];simpa using this
inductive Yt:List aa→Nat→List aa→List aa→Prop
 |nil {l:List aa}:Yt l 0 [] l
 |here {x v:aa} {l vs l':List aa}:Yt l 0 vs l'→Yt (x::l) 0 (v::vs) (v::l')
 |skip {x:aa} {l vs l':List aa} {n:Nat}:Yt l n vs l'→Yt (x::l) (n+1) vs (x::l')
theorem Yt.length {l vs l':List aa} {n:Nat} (h:Yt l n vs l'):l'.length=l.length:=by
 induction h<;>simp_all
theorem Yt.le {l vs l':List aa} {n:Nat} (h:Yt l n vs l'):n+vs.length≤l.length:=by
 induction h<;>simp_all<;>omega
theorem Yt.eq {l vs l':List aa} {n:Nat} (h:Yt l n vs l'):l'=l.take n++vs++l.drop (n+vs.length):=by
 induction h with
 |nil=>simp
 |here h ih=>simp at ih ⊢;exact ih
 |skip h ih =>
  rw [ek]
  simpa using ih
inductive Own:List (Nat×Obj)→Nat→Obj→(Obj→List (Nat×Obj))→Prop
 |here {b:Nat} {o:Obj} {r:List (Nat×Obj)}:Own ((b,o)::r) b o (fun o'=>(b,o')::r)
 |there {x:Nat×Obj} {l:List (Nat×Obj)} {b:Nat} {o:Obj} {f:Obj→List (Nat×Obj)}:Own l b o f→Own (x::l) b o (fun o'=>x::f o')
theorem Own.split {l:List (Nat×Obj)} {b:Nat} {o:Obj} {f:Obj→List (Nat×Obj)} (h:Own l b o f):∃ pre post,l=pre++(b,o)::post∧∀ o',f o'=pre++(b,o')::post:=by
 induction h with
 |here=>exact⟨[],_,rfl,fun _=>rfl⟩
 |there h ih =>
  obtain ⟨pre,post,h1,h2⟩:=ih
  exact⟨_::pre,post,by rw [h1];rfl,fun o'=>by show _::_=_;rw [h2];rfl⟩
theorem Own.mem {l:List (Nat×Obj)} {b:Nat} {o:Obj} {f:Obj→List (Nat×Obj)} (h:Own l b o f):(b,o)∈l:=by
 obtain ⟨pre,post,h1,_⟩:=h.split;rw [h1];simp
inductive Ax:List (Nat×Obj)→Nat→Obj→List (Nat×Obj)→Prop
 |here {b:Nat} {o:Obj} {r:List (Nat×Obj)}:Ax ((b,o)::r) b o r
 |there {x:Nat×Obj} {l l':List (Nat×Obj)} {b:Nat} {o:Obj}:Ax l b o l'→Ax (x::l) b o (x::l')
theorem Ax.split {l l':List (Nat×Obj)} {b:Nat} {o:Obj} (h:Ax l b o l'):∃ pre post,l=pre++(b,o)::post∧l'=pre++post:=by
 induction h with
 |here=>exact⟨[],_,rfl,rfl⟩
 |there h ih =>
  obtain ⟨pre,post,h1,h2⟩:=ih
  exact⟨_::pre,post,by rw [h1];rfl,by rw [h2];rfl⟩
section
variable {P:au} {Q:Exit→Act→ab→Prop} {N:Nat} {m:Sl} {E E0:Env} {ops:Array Oper} {l:List Oper} {w0:ab} {F0:Gs} {bs:List (Nat×Obj)} {G:Gs→Prop}
theorem St.own {w:ab} (h:St ⟨w0,F0,bs,G⟩ w) {b:Nat} {o:Obj} {f:Obj→List (Nat×Obj)} (ho:Own bs b o f):w.heap[b]?=some o:=by
 obtain ⟨F,h⟩:=h;exact(h.bx (b,o) ho.mem).1
section
variable {ty:ae} {v:aa} {S:ab→Prop}
theorem QD {x:af} (h:ev m x=some v):Qt P N m S (.move x) ty v:=fun a w _ _ _ _ ha _=>by
 show(Result.ok (Next.value (a.eval x)) w)=_;rw [ha.ev h]
theorem QF {x:af} (h:ev m x=some v):Qt P N m S (.assign x) ty v:=fun a w _ _ _ _ ha _=>by
 show(Result.ok (Next.value (a.eval x)) w)=_;rw [ha.ev h]
theorem OX {c x y:af} {b:Bool} {u:aa} (hc:ev m c=some (.bool b)) (hx:ev m x=some v) (hy:ev m y=some u):Qt P N m S (.pick c x y) ty (if b then v else u):=fun a w _ _ _ _ ha _=>by
 simp only [execOp,ha.ev hc,ha.ev hx,ha.ev hy,asBool,pure_bind,aJ]
theorem QM {x:af} {vs:Array aa} {i:Nat} (h:ev m x=some (.tuple vs)) (hi:vs[i]?=some v):Qt P N m S (.extract x i) ty v:=fun a w _ _ _ _ ha _=>by
 simp [execOp,ha.ev h,Instr.extract,hi]
theorem VP {x:af} {p:Addr} (h:ev m x=some (.pointer (some p))):Qt P N m S (.nilCheck x) ty (.pointer (some p)):=fun a w _ _ _ _ ha _=>by
 simp [execOp,ha.ev h]
theorem QI {T:ae} {x:af} {f:Nat} {b off fo n:Nat} {ft:ae} {g:Bool} (h:ev m x=some (.pointer (some ⟨b,off,none⟩))) (hf:W6 P T f=some (fo,ft)) (hs:YJ P ft=some (g,n+1)) :
  Qt P N m S (.fieldAddr T x f) ty (.pointer (some ⟨b,off+fo,none⟩)):=fun a w _ _ _ _ ha _=>by
 unfold W6 at hf
 split at hf
 ·rename_i fs hu
  split at hf
  ·rename_i fx hx
   simp only [ao,Prod.mk.injEq] at hf
   obtain ⟨rfl,rfl⟩:=hf
   have hadd:(⟨b,off,none⟩:Addr).add fx.offset=⟨b,off+fx.offset,none⟩:=by unfold eV;split<;>simp_all
   simp [execOp,ha.ev h,Instr.fieldAt,run_underlying hu,hx,ba,fieldPlace,Z2 hs,hadd]
  ·cases hf
 ·cases hf
theorem Zi {T:ae} {n:Nat} (ht:YJ P T=some (false,n)) {w:ab} {a:Addr} {v:aa} (h:w.cell? a=some v):(loadVar T a).run P w = .ok v w:=by
 simp [loadVar,Re ht,h]
theorem K2 {T:ae} {vs:List aa} {n:Nat} (ht:YJ P T=some (true,n)) (hn:vs.length=n) {w:ab} {b off:Nat} (h:∀ j v,vs[j]?=some v→w.cell? ⟨b,off+j,none⟩=some v):(loadVar T ⟨b,off,none⟩).run P w = .ok (.agg vs.toArray) w:=by
 have hl:=run_loadCells_list (P:=P) w ⟨b,off,none⟩ vs (fun j v hv=>by
  have hadd:(⟨b,off,none⟩:Addr).add j=⟨b,off+j,none⟩:=by unfold eV;split<;>simp_all
  rw [hadd];exact h j v hv)
 subst hn
 simp [loadVar,Re ht,Z2 ht,hl]
theorem Xv {w:ab} {b o:Nat} {c:List aa} {T:ae} {fr:Nat×Nat} (h:w.heap[b]?=some (.cells c.toArray T fr)):w.cell? ⟨b,o,none⟩=c[o]?:=by
 simp [bX,h]
theorem Qm {T T':ae} {x:af} {b off n:Nat} {c:List aa} {fr:Nat×Nat} {f:Obj→List (Nat×Obj)} (h:ev m x=some (.pointer (some ⟨b,off,none⟩))) (ht:YJ P T=some (false,n)) (ho:Own bs b (.cells c.toArray T' fr) f) (hg:Ha c off [v]) :
  Qt P N m (St ⟨w0,F0,bs,G⟩) (.load T x) ty v:=fun a w _ _ _ _ ha hw=>by
 have hc:w.cell? ⟨b,off,none⟩=some v:=by rw [Xv (hw.own ho)];exact hg.at 0 v rfl
 simp [execOp,ha.ev h,bT,ba,Zi ht hc]
theorem QJ {T T':ae} {x:af} {b off n:Nat} {c vs:List aa} {fr:Nat×Nat} {f:Obj→List (Nat×Obj)} (h:ev m x=some (.pointer (some ⟨b,off,none⟩))) (ht:YJ P T=some (true,n)) (ho:Own bs b (.cells c.toArray T' fr) f) (hg:Ha c off vs) (hn:vs.length=n) :
  Qt P N m (St ⟨w0,F0,bs,G⟩) (.load T x) ty (.agg vs.toArray):=fun a w _ _ _ _ ha hw=>by
 have:=K2 ht hn (w:=w) (b:=b) (off:=off) (fun j v hv=>by rw [Xv (hw.own ho)];exact hg.at j v hv)
 simp [execOp,ha.ev h,bT,ba,this]
theorem cell_of_row {w:ab} (h:St ⟨w0,F0,bs,G⟩ w) {b o:Nat} {c:Array aa} {T:ae} {v:aa} (hr:∀ F,G F→F b=some (c,T)) (hv:c[o]?=some v):w.cell? ⟨b,o,none⟩=some v:=by
 obtain ⟨F,h⟩:=h
 obtain ⟨fr,e⟩:=h.fits.row b c T (hr F h.hG)
 simp [bX,e,hv]
theorem ND {T T':ae} {x:af} {b off n:Nat} {c:Array aa} (h:ev m x=some (.pointer (some ⟨b,off,none⟩))) (ht:YJ P T=some (false,n)) (hr:∀ F,G F→F b=some (c,T')) (hv:c[off]?=some v) :
  Qt P N m (St ⟨w0,F0,bs,G⟩) (.load T x) ty v:=fun a w _ _ _ _ ha hw=>by
 simp [execOp,ha.ev h,bT,ba,Zi ht (cell_of_row hw hr hv)]
theorem dI {T T':ae} {x:af} {b off n:Nat} {c:Array aa} {vs:List aa} (h:ev m x=some (.pointer (some ⟨b,off,none⟩))) (ht:YJ P T=some (true,n)) (hr:∀ F,G F→F b=some (c,T')) (hn:vs.length=n) (hv:∀ j v,vs[j]?=some v→c[off+j]?=some v) :
  Qt P N m (St ⟨w0,F0,bs,G⟩) (.load T x) ty (.agg vs.toArray):=fun a w _ _ _ _ ha hw=>by
 have:=K2 ht hn (w:=w) (b:=b) (off:=off) (fun j v h=>cell_of_row hw hr (hv j v h))
 simp [execOp,ha.ev h,bT,ba,this]
theorem QAh {o:Op} (ρ:af→aa) (hs:∀ cs b,o≠.select cs b) (hρ:∀ x∈o.operands,ev m x=some (ρ x)) (h:∀ w d pos aft g,(execOp ρ ⟨d,o,ty,pos,aft,g⟩).run P w = .ok (.value v) w):Qt P N m S o ty v:=fun a w d pos aft g ha _=>by
 rw [execOp_congr (ρ:=a.eval) (ρ':=ρ) ⟨d,o,ty,pos,aft,g⟩ hs (fun x hx=>ha.ev (hρ x hx))]
 exact h w d pos aft g
end
def Enters (P:au) (f:FuncId):Prop:=∀ (args:Array aa) (w:ab),(callFunc f args).run P w = .ok (.enter f args) w
theorem enters_of {f:FuncId} {fn:Func} (h:P.funcs[f]?=some fn) (hn:(fn.name == "runtime.NumGoroutine")=false) (hb:fn.body.isNone=false):Enters P f:=fun args w=>by
 have hb':fn.body≠none:=by intro e;rw [e] at hb;cases hb
 simp [callFunc,h,hb',beq_eq_false_iff_ne.1 hn]
def DR (w:ab) (F:Gs) {γ:Type} (val:γ→aa) (fact:γ→Gs→Prop) (e:Ending) (w':ab):Prop :=
 ∃ c F',e = .returned (val c)∧PZ w w'∧Gs.le F F'∧(∀ b,b<w.heap.size→F' b=F b)∧Fits F' w'∧∀ F'',Gs.le F' F''→fact c F''
def QT (P:au) (f:FuncId) (args:List aa) (w:ab) (F:Gs) {γ:Type} (val:γ→aa) (fact:γ→Gs→Prop):Prop :=
 Enters P f∧Calls P f args.toArray w (DR w F val fact)
theorem QT.imp {f:FuncId} {args:List aa} {w:ab} {F:Gs} {γ γ':Type} {val:γ→aa} {fact:γ→Gs→Prop} {val':γ'→aa} {fact':γ'→Gs→Prop} (h:QT P f args w F val fact)
  (k:∀ c F',fact c F'→∃ c',val c=val' c'∧∀ F'',Gs.le F' F''→fact' c' F''):QT P f args w F val' fact':=by
 refine⟨h.1,h.2.mono ?_⟩
 rintro e w' ⟨c,F',rfl,h1,h2,h3,h4,h5⟩
 obtain ⟨c',e,k'⟩:=k c F' (h5 F' (Gs.le_refl _))
 exact⟨c',F',by rw [e],h1,h2,h3,h4,k'⟩
theorem Lc.call {w w':ab} {F F':Gs} (h:Lc ⟨w0,F0,bs,G⟩ w F) {f:Gs→Prop} (h1:PZ w w') (h2:Gs.le F F') (h3:∀ b,b<w.heap.size→F' b=F b) (h4:Fits F' w') (h5:∀ F'',Gs.le F' F''→f F''):Lc ⟨w0,F0,bs,fun F=>G F∧f F⟩ w' F':=by
 refine⟨Gs.le_trans h.le h2,fun b hb=>?_,h4,h.ext.trans h1,fun k hk=>?_,h.nd,fun F'' hF=>⟨h.g F'' (Gs.le_trans h2 hF),h5 F'' hF⟩⟩
 ·rw [h3 b (e8 hb h.ext.size)];exact h.old b hb
 ·obtain ⟨g1,g2,g3⟩:=h.bx k hk
  have hlt:k.1<w.heap.size:=by
   rcases ay k.1 w.heap.size with g | g
   ·exact g
   ·rw [ah g] at g1;cases g1
  exact⟨by rw [h1.block _ hlt];exact g1,g2,by rw [h3 _ hlt];exact g3⟩
theorem WV {a:Act} {w:ab} {d:Option Tmp} {x:af} {args:Array af} {tys:Array ae} {ty:ae} {pos:String} {aft:Array Edge} {gd:Option (Nat×Bool)} {f:FuncId} {c1 c2:Array aa} (he:Enters P f) (hx:a.eval x = .func (.func f) c1 c2) :
  (execOp a.eval ⟨d,.call ⟨.value x,args,tys⟩,ty,pos,aft,gd⟩).run P w = .ok (.enter f (c1++args.map a.eval++c2)) w:=by
 simp only [execOp,resolve,hx,Deferred.ofValue,ar,aJ,aw,invoke]
 exact he _ w
section
variable {d:Nat} {ty:ae} {pos:String} {aft:Array Edge} {f:FuncId} {args:Array af} {tys:Array ae} {vs:List aa} {γ:Type} {val:γ→aa} {fact:γ→Gs→Prop}
theorem Gm {x:af} {c1 c2:List aa} (hx:ev m x=some (.func (.func f) c1.toArray c2.toArray)) (hv:Ep m args.toList=some vs) (hc:∀ w F,Fits F w→G F→QT P f (c1++vs++c2) w F val fact)
  (k:∀ c,JS P ops Q l N ((d,val c)::m) ⟨w0,F0,bs,fun F=>G F∧fact c F⟩) (hd:J5 N (some d)=true:=by rfl):JS P ops Q (⟨some d,.call ⟨.value x,args,tys⟩,ty,pos,aft,none⟩::l) N m ⟨w0,F0,bs,G⟩:=by
 intro a w ha hw
 obtain ⟨F,hF⟩:=hw
 have hcg:=hc w F hF.fits hF.hG
 refine wpList_plain rfl fun K hK=>?_
 unfold bG
 rw [WV hcg.1 (ha.ev hx)]
 have e:c1.toArray++args.map a.eval++c2.toArray=(c1++vs++c2).toArray:=by
  have:=ha.Ep hv
  have e2:args.map a.eval=vs.toArray:=by rw [← this];apply bV ;simp
  rw [e2];apply bV;simp
 simp only [aN]
 rw [e]
 refine hcg.2.mono ?_
 rintro e w' ⟨c,F',rfl,h1,h2,h3,h4,h5⟩
 exact hK _ _ (k c _ w' (ha.put hd (val c)) ⟨F',hF.call h1 h2 h3 h4 h5⟩)
theorem QH (hv:Ep m args.toList=some vs) (hc:∀ w F,Fits F w→G F→QT P f vs w F val fact)
  (k:∀ c,JS P ops Q l N ((d,val c)::m) ⟨w0,F0,bs,fun F=>G F∧fact c F⟩) (hd:J5 N (some d)=true:=by rfl):JS P ops Q (⟨some d,.call ⟨.value (.func f),args,tys⟩,ty,pos,aft,none⟩::l) N m ⟨w0,F0,bs,G⟩ :=
 Gm (x:=.func f) (c1:=[]) (c2:=[]) rfl hv (by simpa using hc) k hd
theorem Ub {x:af} {c1 c2:List aa} (hx:ev m x=some (.func (.func f) c1.toArray c2.toArray)) (hv:Ep m args.toList=some vs) (hc:∀ w F,Fits F w→G F→QT P f (c1++vs++c2) w F val fact)
  (k:∀ c,JD P ops Q E0 l N ((d,val c)::m) ⟨w0,F0,bs,fun F=>G F∧fact c F⟩) (hd:J5 N (some d)=true:=by rfl):JD P ops Q E0 (⟨some d,.call ⟨.value x,args,tys⟩,ty,pos,aft,none⟩::l) N m ⟨w0,F0,bs,G⟩:=by
 intro hE a w ha hw
 obtain ⟨F,hF⟩:=hw
 have hcg:=hc w F hF.fits hF.hG
 refine .inr ⟨rfl,?_⟩
 rw [if_pos (by simp [aj])]
 unfold bG
 rw [WV hcg.1 (ha.ev hx)]
 have e:c1.toArray++args.map a.eval++c2.toArray=(c1++vs++c2).toArray:=by
  have:=ha.Ep hv
  have e2:args.map a.eval=vs.toArray:=by rw [← this];apply bV ;simp
  rw [e2];apply bV;simp
 simp only [aN]
 rw [e]
 refine hcg.2.mono ?_
 rintro e w' ⟨c,F',rfl,h1,h2,h3,h4,h5⟩
 have hS:St ⟨w0,F0,bs,fun F=>G F∧fact c F⟩ w':=⟨F',hF.call h1 h2 h3 h4 h5⟩
 exact⟨hE w' (hS.Bu fun _ h=>h.1),k c (fun w h=>hE w (h.Bu fun _ h=>h.1)) _ w' (ha.put hd (val c)) hS⟩
theorem Qd (hv:Ep m args.toList=some vs) (hc:∀ w F,Fits F w→G F→QT P f vs w F val fact)
  (k:∀ c,JD P ops Q E0 l N ((d,val c)::m) ⟨w0,F0,bs,fun F=>G F∧fact c F⟩) (hd:J5 N (some d)=true:=by rfl):JD P ops Q E0 (⟨some d,.call ⟨.value (.func f),args,tys⟩,ty,pos,aft,none⟩::l) N m ⟨w0,F0,bs,G⟩ :=
 Ub (x:=.func f) (c1:=[]) (c2:=[]) rfl hv (by simpa using hc) k hd
end
end
end
section
variable [Dr] [df:Df] {P:au} {Q:Exit→Act→ab→Prop} {ops:Array Oper} {l:List Oper} {N:Nat} {m:Sl} {E:Env} {d:Nat} {v:aa} {ty:ae} {pos:String} {aft:Array Edge}
theorem wA {x:af} (h:ev m x=some v) (k:JS P ops Q l N ((d,v)::m) E) (hd:J5 N (some d)=true:=by rfl):JS P ops Q (⟨some d,.move x,ty,pos,aft,none⟩::l) N m E:=QA (QD h) k hd
theorem wB {x:af} (h:ev m x=some v) (k:JS P ops Q l N ((d,v)::m) E) (hd:J5 N (some d)=true:=by rfl):JS P ops Q (⟨some d,.assign x,ty,pos,aft,none⟩::l) N m E:=QA (QF h) k hd
theorem wC {y:Code} (h:J P y Q N m E):JS P ops (Exit.then (y.wp P Q) Q) [] N m E:=QE (QC h)
theorem wE {y:Code} {id:Nat} (h:JS P l.toArray (Exit.then (y.wp P Q) Q) l N m E):J P (.seq (.region id l.toArray false) y) Q N m E:=QG (QB h)
end
theorem wG {α:Type} {l:List α}:List.Sublist l l:=eJ l
theorem wI {p:Prop} [Decidable p] (h:decide p=true):p:=of_decide_eq_true h
theorem wJ {p:Prop} [Decidable p] (h:decide p=false):¬ p:=of_decide_eq_false h
theorem wD [Dr] [df:Df] {P:au} {Q:Exit→Act→ab→Prop} {ops:Array Oper} {N:Nat} {m:Sl} {E:Env} {d:Nat} {v:aa} {ty:ae} {pos:String} {aft:Array Edge} {x:af} {y:Code} (h:ev m x=some v) (k:J P y Q N ((d,v)::m) E) (hd:J5 N (some d)=true:=by rfl):JS P ops (Exit.then (y.wp P Q) Q) [⟨some d,.assign x,ty,pos,aft,none⟩] N m E:=wB h (wC k) hd
theorem wF [Dr] [df:Df] {P:au} {Q:Exit→Act→ab→Prop} {l:List Oper} {N:Nat} {m:Sl} {E:Env} {d:Nat} {v:aa} {ty:ae} {pos:String} {aft:Array Edge} {x:af} {y:Code} {id:Nat} (h:ev m x=some v) (k:JS P (⟨some d,.move x,ty,pos,aft,none⟩::l).toArray (Exit.then (y.wp P Q) Q) l N ((d,v)::m) E) (hd:J5 N (some d)=true:=by rfl):J P (.seq (.region id (⟨some d,.move x,ty,pos,aft,none⟩::l).toArray false) y) Q N m E:=wE (wA h k hd)
theorem Ha.h1 {x0:aa} {l:List aa}:Ha (x0::l) 0 [x0]:=.here (.nil)
theorem Yt.h1 {x0 v0:aa} {l:List aa}:Yt (x0::l) 0 [v0] (v0::l):=.here (.nil)
theorem Ha.h2 {x0 x1:aa} {l:List aa}:Ha (x0::x1::l) 0 [x0,x1]:=.here (.here (.nil))
theorem Yt.h2 {x0 x1 v0 v1:aa} {l:List aa}:Yt (x0::x1::l) 0 [v0,v1] (v0::v1::l):=.here (.here (.nil))
theorem Ha.h3 {x0 x1 x2:aa} {l:List aa}:Ha (x0::x1::x2::l) 0 [x0,x1,x2]:=.here (.here (.here (.nil)))
theorem Yt.h3 {x0 x1 x2 v0 v1 v2:aa} {l:List aa}:Yt (x0::x1::x2::l) 0 [v0,v1,v2] (v0::v1::v2::l):=.here (.here (.here (.nil)))
theorem Ha.h4 {x0 x1 x2 x3:aa} {l:List aa}:Ha (x0::x1::x2::x3::l) 0 [x0,x1,x2,x3]:=.here (.here (.here (.here (.nil))))
theorem Yt.h4 {x0 x1 x2 x3 v0 v1 v2 v3:aa} {l:List aa}:Yt (x0::x1::x2::x3::l) 0 [v0,v1,v2,v3] (v0::v1::v2::v3::l):=.here (.here (.here (.here (.nil))))
theorem Ha.h5 {x0 x1 x2 x3 x4:aa} {l:List aa}:Ha (x0::x1::x2::x3::x4::l) 0 [x0,x1,x2,x3,x4]:=.here (.here (.here (.here (.here (.nil)))))
theorem Yt.h5 {x0 x1 x2 x3 x4 v0 v1 v2 v3 v4:aa} {l:List aa}:Yt (x0::x1::x2::x3::x4::l) 0 [v0,v1,v2,v3,v4] (v0::v1::v2::v3::v4::l):=.here (.here (.here (.here (.here (.nil)))))
theorem Ha.h6 {x0 x1 x2 x3 x4 x5:aa} {l:List aa}:Ha (x0::x1::x2::x3::x4::x5::l) 0 [x0,x1,x2,x3,x4,x5]:=.here (.here (.here (.here (.here (.here (.nil))))))
theorem Yt.h6 {x0 x1 x2 x3 x4 x5 v0 v1 v2 v3 v4 v5:aa} {l:List aa}:Yt (x0::x1::x2::x3::x4::x5::l) 0 [v0,v1,v2,v3,v4,v5] (v0::v1::v2::v3::v4::v5::l):=.here (.here (.here (.here (.here (.here (.nil))))))
theorem Ha.h7 {x0 x1 x2 x3 x4 x5 x6:aa} {l:List aa}:Ha (x0::x1::x2::x3::x4::x5::x6::l) 0 [x0,x1,x2,x3,x4,x5,x6]:=.here (.here (.here (.here (.here (.here (.here (.nil)))))))
theorem Yt.h7 {x0 x1 x2 x3 x4 x5 x6 v0 v1 v2 v3 v4 v5 v6:aa} {l:List aa}:Yt (x0::x1::x2::x3::x4::x5::x6::l) 0 [v0,v1,v2,v3,v4,v5,v6] (v0::v1::v2::v3::v4::v5::v6::l):=.here (.here (.here (.here (.here (.here (.here (.nil)))))))
theorem Ha.h8 {x0 x1 x2 x3 x4 x5 x6 x7:aa} {l:List aa}:Ha (x0::x1::x2::x3::x4::x5::x6::x7::l) 0 [x0,x1,x2,x3,x4,x5,x6,x7]:=.here (.here (.here (.here (.here (.here (.here (.here (.nil))))))))
theorem Yt.h8 {x0 x1 x2 x3 x4 x5 x6 x7 v0 v1 v2 v3 v4 v5 v6 v7:aa} {l:List aa}:Yt (x0::x1::x2::x3::x4::x5::x6::x7::l) 0 [v0,v1,v2,v3,v4,v5,v6,v7] (v0::v1::v2::v3::v4::v5::v6::v7::l):=.here (.here (.here (.here (.here (.here (.here (.here (.nil))))))))
theorem Ha.h9 {x0 x1 x2 x3 x4 x5 x6 x7 x8:aa} {l:List aa}:Ha (x0::x1::x2::x3::x4::x5::x6::x7::x8::l) 0 [x0,x1,x2,x3,x4,x5,x6,x7,x8]:=.here (.here (.here (.here (.here (.here (.here (.here (.here (.nil)))))))))
theorem Yt.h9 {x0 x1 x2 x3 x4 x5 x6 x7 x8 v0 v1 v2 v3 v4 v5 v6 v7 v8:aa} {l:List aa}:Yt (x0::x1::x2::x3::x4::x5::x6::x7::x8::l) 0 [v0,v1,v2,v3,v4,v5,v6,v7,v8] (v0::v1::v2::v3::v4::v5::v6::v7::v8::l):=.here (.here (.here (.here (.here (.here (.here (.here (.here (.nil)))))))))
theorem Ha.h10 {x0 x1 x2 x3 x4 x5 x6 x7 x8 x9:aa} {l:List aa}:Ha (x0::x1::x2::x3::x4::x5::x6::x7::x8::x9::l) 0 [x0,x1,x2,x3,x4,x5,x6,x7,x8,x9]:=.here (.here (.here (.here (.here (.here (.here (.here (.here (.here (.nil))))))))))
theorem Yt.h10 {x0 x1 x2 x3 x4 x5 x6 x7 x8 x9 v0 v1 v2 v3 v4 v5 v6 v7 v8 v9:aa} {l:List aa}:Yt (x0::x1::x2::x3::x4::x5::x6::x7::x8::x9::l) 0 [v0,v1,v2,v3,v4,v5,v6,v7,v8,v9] (v0::v1::v2::v3::v4::v5::v6::v7::v8::v9::l):=.here (.here (.here (.here (.here (.here (.here (.here (.here (.here (.nil))))))))))
theorem Ha.h11 {x0 x1 x2 x3 x4 x5 x6 x7 x8 x9 x10:aa} {l:List aa}:Ha (x0::x1::x2::x3::x4::x5::x6::x7::x8::x9::x10::l) 0 [x0,x1,x2,x3,x4,x5,x6,x7,x8,x9,x10]:=.here (.here (.here (.here (.here (.here (.here (.here (.here (.here (.here (.nil)))))))))))
theorem Yt.h11 {x0 x1 x2 x3 x4 x5 x6 x7 x8 x9 x10 v0 v1 v2 v3 v4 v5 v6 v7 v8 v9 v10:aa} {l:List aa}:Yt (x0::x1::x2::x3::x4::x5::x6::x7::x8::x9::x10::l) 0 [v0,v1,v2,v3,v4,v5,v6,v7,v8,v9,v10] (v0::v1::v2::v3::v4::v5::v6::v7::v8::v9::v10::l):=.here (.here (.here (.here (.here (.here (.here (.here (.here (.here (.here (.nil)))))))))))
theorem Ha.h12 {x0 x1 x2 x3 x4 x5 x6 x7 x8 x9 x10 x11:aa} {l:List aa}:Ha (x0::x1::x2::x3::x4::x5::x6::x7::x8::x9::x10::x11::l) 0 [x0,x1,x2,x3,x4,x5,x6,x7,x8,x9,x10,x11]:=.here (.here (.here (.here (.here (.here (.here (.here (.here (.here (.here (.here (.nil))))))))))))
theorem Yt.h12 {x0 x1 x2 x3 x4 x5 x6 x7 x8 x9 x10 x11 v0 v1 v2 v3 v4 v5 v6 v7 v8 v9 v10 v11:aa} {l:List aa}:Yt (x0::x1::x2::x3::x4::x5::x6::x7::x8::x9::x10::x11::l) 0 [v0,v1,v2,v3,v4,v5,v6,v7,v8,v9,v10,v11] (v0::v1::v2::v3::v4::v5::v6::v7::v8::v9::v10::v11::l):=.here (.here (.here (.here (.here (.here (.here (.here (.here (.here (.here (.here (.nil))))))))))))
theorem Own.u1 {x0:Nat×Obj} {b:Nat} {o:Obj} {r:List (Nat×Obj)}:Own (x0::(b,o)::r) b o (fun o'=>x0::(b,o')::r):=.there (.here)
theorem Ax.u1 {x0:Nat×Obj} {b:Nat} {o:Obj} {r:List (Nat×Obj)}:Ax (x0::(b,o)::r) b o (x0::r):=.there (.here)
theorem Own.u2 {x0 x1:Nat×Obj} {b:Nat} {o:Obj} {r:List (Nat×Obj)}:Own (x0::x1::(b,o)::r) b o (fun o'=>x0::x1::(b,o')::r):=.there (.there (.here))
theorem Ax.u2 {x0 x1:Nat×Obj} {b:Nat} {o:Obj} {r:List (Nat×Obj)}:Ax (x0::x1::(b,o)::r) b o (x0::x1::r):=.there (.there (.here))
theorem Own.u3 {x0 x1 x2:Nat×Obj} {b:Nat} {o:Obj} {r:List (Nat×Obj)}:Own (x0::x1::x2::(b,o)::r) b o (fun o'=>x0::x1::x2::(b,o')::r):=.there (.there (.there (.here)))
theorem Ax.u3 {x0 x1 x2:Nat×Obj} {b:Nat} {o:Obj} {r:List (Nat×Obj)}:Ax (x0::x1::x2::(b,o)::r) b o (x0::x1::x2::r):=.there (.there (.there (.here)))
theorem Own.u4 {x0 x1 x2 x3:Nat×Obj} {b:Nat} {o:Obj} {r:List (Nat×Obj)}:Own (x0::x1::x2::x3::(b,o)::r) b o (fun o'=>x0::x1::x2::x3::(b,o')::r):=.there (.there (.there (.there (.here))))
theorem Ax.u4 {x0 x1 x2 x3:Nat×Obj} {b:Nat} {o:Obj} {r:List (Nat×Obj)}:Ax (x0::x1::x2::x3::(b,o)::r) b o (x0::x1::x2::x3::r):=.there (.there (.there (.there (.here))))
theorem Own.u5 {x0 x1 x2 x3 x4:Nat×Obj} {b:Nat} {o:Obj} {r:List (Nat×Obj)}:Own (x0::x1::x2::x3::x4::(b,o)::r) b o (fun o'=>x0::x1::x2::x3::x4::(b,o')::r):=.there (.there (.there (.there (.there (.here)))))
theorem Ax.u5 {x0 x1 x2 x3 x4:Nat×Obj} {b:Nat} {o:Obj} {r:List (Nat×Obj)}:Ax (x0::x1::x2::x3::x4::(b,o)::r) b o (x0::x1::x2::x3::x4::r):=.there (.there (.there (.there (.there (.here)))))
theorem Own.u6 {x0 x1 x2 x3 x4 x5:Nat×Obj} {b:Nat} {o:Obj} {r:List (Nat×Obj)}:Own (x0::x1::x2::x3::x4::x5::(b,o)::r) b o (fun o'=>x0::x1::x2::x3::x4::x5::(b,o')::r):=.there (.there (.there (.there (.there (.there (.here))))))
theorem Ax.u6 {x0 x1 x2 x3 x4 x5:Nat×Obj} {b:Nat} {o:Obj} {r:List (Nat×Obj)}:Ax (x0::x1::x2::x3::x4::x5::(b,o)::r) b o (x0::x1::x2::x3::x4::x5::r):=.there (.there (.there (.there (.there (.there (.here))))))
theorem wK {A0:Type} {a0:A0}:a0=a0∧True:=⟨rfl,trivial⟩
theorem wL {A0:Type} {a0:A0} {A1:Type} {a1:A1}:a0=a0∧a1=a1∧True:=⟨rfl,rfl,trivial⟩
theorem wM {A0:Type} {a0:A0} {A1:Type} {a1:A1} {A2:Type} {a2:A2}:a0=a0∧a1=a1∧a2=a2∧True:=⟨rfl,rfl,rfl,trivial⟩
theorem wN {A0:Type} {a0:A0} {A1:Type} {a1:A1} {A2:Type} {a2:A2} {A3:Type} {a3:A3}:a0=a0∧a1=a1∧a2=a2∧a3=a3∧True:=⟨rfl,rfl,rfl,rfl,trivial⟩
theorem wO {A0:Type} {a0:A0} {A1:Type} {a1:A1} {A2:Type} {a2:A2} {A3:Type} {a3:A3} {A4:Type} {a4:A4}:a0=a0∧a1=a1∧a2=a2∧a3=a3∧a4=a4∧True:=⟨rfl,rfl,rfl,rfl,rfl,trivial⟩
theorem wP {A0:Type} {a0:A0} {A1:Type} {a1:A1} {A2:Type} {a2:A2} {A3:Type} {a3:A3} {A4:Type} {a4:A4} {A5:Type} {a5:A5}:a0=a0∧a1=a1∧a2=a2∧a3=a3∧a4=a4∧a5=a5∧True:=⟨rfl,rfl,rfl,rfl,rfl,rfl,trivial⟩
theorem wQ {A0:Type} {a0:A0} {A1:Type} {a1:A1} {A2:Type} {a2:A2} {A3:Type} {a3:A3} {A4:Type} {a4:A4} {A5:Type} {a5:A5} {A6:Type} {a6:A6}:a0=a0∧a1=a1∧a2=a2∧a3=a3∧a4=a4∧a5=a5∧a6=a6∧True:=⟨rfl,rfl,rfl,rfl,rfl,rfl,rfl,trivial⟩
theorem wR {A0:Type} {a0:A0} {A1:Type} {a1:A1} {A2:Type} {a2:A2} {A3:Type} {a3:A3} {A4:Type} {a4:A4} {A5:Type} {a5:A5} {A6:Type} {a6:A6} {A7:Type} {a7:A7}:a0=a0∧a1=a1∧a2=a2∧a3=a3∧a4=a4∧a5=a5∧a6=a6∧a7=a7∧True:=⟨rfl,rfl,rfl,rfl,rfl,rfl,rfl,rfl,trivial⟩
theorem wS {A0:Type} {a0:A0} {A1:Type} {a1:A1} {A2:Type} {a2:A2} {A3:Type} {a3:A3} {A4:Type} {a4:A4} {A5:Type} {a5:A5} {A6:Type} {a6:A6} {A7:Type} {a7:A7} {A8:Type} {a8:A8}:a0=a0∧a1=a1∧a2=a2∧a3=a3∧a4=a4∧a5=a5∧a6=a6∧a7=a7∧a8=a8∧True:=⟨rfl,rfl,rfl,rfl,rfl,rfl,rfl,rfl,rfl,trivial⟩
theorem wT {A0:Type} {a0:A0} {A1:Type} {a1:A1} {A2:Type} {a2:A2} {A3:Type} {a3:A3} {A4:Type} {a4:A4} {A5:Type} {a5:A5} {A6:Type} {a6:A6} {A7:Type} {a7:A7} {A8:Type} {a8:A8} {A9:Type} {a9:A9}:a0=a0∧a1=a1∧a2=a2∧a3=a3∧a4=a4∧a5=a5∧a6=a6∧a7=a7∧a8=a8∧a9=a9∧True:=⟨rfl,rfl,rfl,rfl,rfl,rfl,rfl,rfl,rfl,rfl,trivial⟩
theorem wU {A0:Type} {a0:A0} {A1:Type} {a1:A1} {A2:Type} {a2:A2} {A3:Type} {a3:A3} {A4:Type} {a4:A4} {A5:Type} {a5:A5} {A6:Type} {a6:A6} {A7:Type} {a7:A7} {A8:Type} {a8:A8} {A9:Type} {a9:A9} {A10:Type} {a10:A10}:a0=a0∧a1=a1∧a2=a2∧a3=a3∧a4=a4∧a5=a5∧a6=a6∧a7=a7∧a8=a8∧a9=a9∧a10=a10∧True:=⟨rfl,rfl,rfl,rfl,rfl,rfl,rfl,rfl,rfl,rfl,rfl,trivial⟩
theorem wV {A0:Type} {a0:A0} {A1:Type} {a1:A1} {A2:Type} {a2:A2} {A3:Type} {a3:A3} {A4:Type} {a4:A4} {A5:Type} {a5:A5} {A6:Type} {a6:A6} {A7:Type} {a7:A7} {A8:Type} {a8:A8} {A9:Type} {a9:A9} {A10:Type} {a10:A10} {A11:Type} {a11:A11}:a0=a0∧a1=a1∧a2=a2∧a3=a3∧a4=a4∧a5=a5∧a6=a6∧a7=a7∧a8=a8∧a9=a9∧a10=a10∧a11=a11∧True:=⟨rfl,rfl,rfl,rfl,rfl,rfl,rfl,rfl,rfl,rfl,rfl,rfl,trivial⟩
section
variable [Dr] [df:Df]
section
variable {P:au} {Q:Exit→Act→ab→Prop} {N:Nat} {m:Sl} {E E0:Env} {ops:Array Oper} {l:List Oper} {w0:ab} {F0:Gs} {bs:List (Nat×Obj)} {G:Gs→Prop}
theorem St.pure {w:ab} {p:Prop} (h:St ⟨w0,F0,bs,G⟩ w) (hp:∀ w F,Fits F w→G F→p):p:=by
 obtain ⟨F,h⟩:=h;exact hp w F h.fits h.hG
theorem ZA {c:Code} (p:Prop) (hp:∀ w F,Fits F w→G F→p) (k:p→J P c Q N m ⟨w0,F0,bs,G⟩):J P c Q N m ⟨w0,F0,bs,G⟩:=fun a w ha hw=>k (hw.pure hp) a w ha hw
theorem JO (p:Prop) (hp:∀ w F,Fits F w→G F→p) (k:p→JS P ops Q l N m ⟨w0,F0,bs,G⟩):JS P ops Q l N m ⟨w0,F0,bs,G⟩:=fun a w ha hw=>k (hw.pure hp) a w ha hw
theorem Mh (p:Prop) (hp:∀ w F,Fits F w→G F→p) (k:p→JD P ops Q E0 l N m ⟨w0,F0,bs,G⟩):JD P ops Q E0 l N m ⟨w0,F0,bs,G⟩:=fun hE a w ha hw=>k (hw.pure hp) hE a w ha hw
theorem QBZ {G':Gs→Prop} (hg:∀ F,G F→G' F) (k:JS P ops Q l N m ⟨w0,F0,bs,G'⟩):JS P ops Q l N m ⟨w0,F0,bs,G⟩:=fun a w ha hw=>k a w ha (hw.Bu hg)
def XL (P:au) (T:ae):Option (List aa):=match P.info? T with
 |some i=>i.zero.map fun v=>v.cells.toList
 |none=>none
theorem TK {T:ae} {z:List aa} (h:XL P T=some z) (w:ab):∃ v,(zeroValue T).run P w = .ok v w∧v.cells=z.toArray:=by
 unfold XL at h
 split at h
 ·rename_i i hi
  cases hz:i.zero with
  |none=>rw [hz] at h;cases h
  |some v =>
   rw [hz] at h
   simp only [aS,ao] at h
   exact⟨v,by simp [zeroValue,typeInfo,hi,hz],by rw [← h]⟩
 ·cases h
def Wc (T:ae):Bool:=!(bh T 248)
theorem Xk {T:ae} (h:Wc T=true) {c:Array aa} {fr:Nat×Nat}:∀ c' fr',Obj.cells c T fr≠.cells c' 248 fr':=by
 intro c' fr' e
 injection e with _ h2 _
 subst h2;simp [Wc] at h
section
variable {d:Nat} {ty:ae} {pos:String} {aft:Array Edge}
theorem upon_value {o:Oper} {a:Act} {w w':ab} {K:Act→ab→Prop} {v:aa} (h:(execOp a.eval o).run P w = .ok (.value v) w') (k:K (a.put o.dst v) w'):o.wp P a w K Q:=by
 unfold bG;rw [h];exact k
theorem upon_skip {o:Oper} {a:Act} {w w':ab} {K:Act→ab→Prop} (h:(execOp a.eval o).run P w = .ok .skip w') (k:K (a.put o.dst undef) w'):o.wp P a w K Q:=by
 unfold bG;rw [h];exact k
theorem EC {a:Act} {w:ab} {T:ae} {z:List aa} {g:Option (Nat×Bool)} (hz:XL P T=some z) :
  (execOp a.eval ⟨some d,.alloc T,ty,pos,aft,g⟩).run P w = .ok (.value (.pointer (some ⟨w.heap.size,0,none⟩))) (w.alloc (.cells z.toArray T)):=by
 obtain ⟨v,h1,h2⟩:=TK hz w
 simp only [execOp,Instr.alloc,ar,h1,aw,aJ,newVar,newRow,run_newObj,h2]
 rfl
theorem Qg {T:ae} {z:List aa} (hz:XL P T=some z) (k:∀ b,JS P ops Q l N ((d,.pointer (some ⟨b,0,none⟩))::m) ⟨w0,F0,(b,.cells z.toArray T (0,0))::bs,G⟩) (hu:Wc T=true:=by rfl) (hd:J5 N (some d)=true:=by rfl) :
  JS P ops Q (⟨some d,.alloc T,ty,pos,aft,none⟩::l) N m ⟨w0,F0,bs,G⟩:=fun a w ha hw =>
 wpList_plain rfl fun _ hK=>upon_value (EC hz) (hK _ _ (k _ _ _ (ha.put hd _) (hw.alloc _ (Xk hu))))
theorem ZH {T:ae} {z:List aa} (hz:XL P T=some z) (k:∀ b,JD P ops Q E0 l N ((d,.pointer (some ⟨b,0,none⟩))::m) ⟨w0,F0,(b,.cells z.toArray T (0,0))::bs,G⟩) (hu:Wc T=true:=by rfl) (hd:J5 N (some d)=true:=by rfl) :
  JD P ops Q E0 (⟨some d,.alloc T,ty,pos,aft,none⟩::l) N m ⟨w0,F0,bs,G⟩:=fun hE a w ha hw=>by
 have hS:=hw.alloc (.cells z.toArray T (0,0)) (Xk hu)
 have sub:∀ w' b,St ⟨w0,F0,(b,.cells z.toArray T (0,0))::bs,G⟩ w'→St E0 w':=fun w' b h=>hE w' (h.imp (bw _ _) fun _ h=>h)
 refine .inr ⟨rfl,?_⟩
 rw [if_pos (by simp [aj])]
 exact upon_value (EC hz) ⟨sub _ _ hS,k _ (fun w' h=>sub w' _ h) _ _ (ha.put hd _) hS⟩
theorem Pp {a:Act} {w:ab} {T:ae} {x:af} {v:aa} {g:Option (Nat×Bool)} (hx:a.eval x=v) :
  (execOp a.eval ⟨some d,.box T x,ty,pos,aft,g⟩).run P w = .ok (.value (.pointer (some ⟨w.heap.size,0,none⟩))) (w.alloc (.cells v.cells T)):=by
 subst hx
 simp only [execOp,Instr.box,ar,aw,aJ,newVar,newRow,run_newObj]
 rfl
theorem Q2 {T:ae} {x:af} {vs:List aa} {v:aa} (hx:ev m x=some v) (hv:v.cells=vs.toArray) (k:∀ b,JS P ops Q l N ((d,.pointer (some ⟨b,0,none⟩))::m) ⟨w0,F0,(b,.cells vs.toArray T (0,0))::bs,G⟩) (hu:Wc T=true:=by rfl) (hd:J5 N (some d)=true:=by rfl) :
  JS P ops Q (⟨some d,.box T x,ty,pos,aft,none⟩::l) N m ⟨w0,F0,bs,G⟩:=fun a w ha hw =>
 wpList_plain rfl fun _ hK=>upon_value (Pp (ha.ev hx)) (hK _ _ (k _ _ _ (ha.put hd _) (hv ▸ hw.alloc _ (Xk hu))))
theorem QAO {T:ae} {x:af} {vs:List aa} {v:aa} (hx:ev m x=some v) (hv:v.cells=vs.toArray) (k:∀ b,JD P ops Q E0 l N ((d,.pointer (some ⟨b,0,none⟩))::m) ⟨w0,F0,(b,.cells vs.toArray T (0,0))::bs,G⟩) (hu:Wc T=true:=by rfl) (hd:J5 N (some d)=true:=by rfl) :
  JD P ops Q E0 (⟨some d,.box T x,ty,pos,aft,none⟩::l) N m ⟨w0,F0,bs,G⟩:=fun hE a w ha hw=>by
 have hS:=hw.alloc (.cells vs.toArray T (0,0)) (Xk hu)
 have sub:∀ w' b,St ⟨w0,F0,(b,.cells vs.toArray T (0,0))::bs,G⟩ w'→St E0 w':=fun w' b h=>hE w' (h.imp (bw _ _) fun _ h=>h)
 refine .inr ⟨rfl,?_⟩
 rw [if_pos (by simp [aj])]
 exact upon_value (Pp (ha.ev hx)) (by rw [hv];exact⟨sub _ _ hS,k _ (fun w' h=>sub w' _ h) _ _ (ha.put hd _) hS⟩)
theorem M8 {w:ab} {t e:ae} {n sz:Nat} {z:List aa} {g:Bool} {parts:Array (Nat×aa)} {cs:Array aa} (ht:P.underlying t=some (.slice e)) (hs:YJ P e=some (g,sz)) (hz:XL P e=some z) (h24:n*sz≤2^24) (hn:n*sz≠0)
  (hf:bU (fun i=>some (i*sz,sz)) ((eS (n*sz)).map (fun i=>z.toArray[i%z.toArray.size]!)) parts.toList=some cs) :
  (fc t n parts).run P w = .ok (.slice (some ⟨w.heap.size,0,none⟩) n n) (w.alloc (.cells cs e)):=by
 obtain ⟨v,h1,h2⟩:=TK hz w
 have h3:¬ n*sz>2^24:=by omega
 simp only [fc,ar,run_underlying ht,aw,Z2 hs,if_neg h3,aJ,if_neg hn,h1,h2,hf,newRow,run_newObj]
 rfl
def Vz (m:Sl):List (Nat×af)→Option (List (Nat×aa))
 |[]=>some []
 |(i,x)::r=>match ev m x,Vz m r with
  |some v,some l=>some ((i,v)::l)
  |_,_=>none
theorem Jx.parts {a:Act} (h:Jx N m a):∀ {l:List (Nat×af)} {vs:List (Nat×aa)},Vz m l=some vs→l.map (fun(i,x)=>(i,a.eval x))=vs
 |[],vs,e=>by simpa [Vz] using e
 |(i,x)::l,vs,e=>by
  unfold Vz at e
  cases hx:YtknegjaeoffnbaaGreatDoor.ev m x with
  |none=>rw [hx] at e;simp at e
  |some v =>
   cases hl:Vz m l with
   |none=>rw [hx,hl] at e;simp at e
   |some r =>
    rw [hx,hl] at e
    simp only [ao] at e
    subst e
    rw [bL,h.parts hl]
    show(i,a.eval x)::r=_
    rw [h.ev hx]
def Yy (sz:Nat):Nat→List (Nat×aa)→Option (List aa)
 |_,[]=>some []
 |k,(i,v)::r=>if i=k∧v.cells.size=sz then(Yy sz (k+1) r).map (v.cells.toList++·) else none
theorem Hs {sz:Nat}:∀ (parts:List (Nat×aa)) (k:Nat) (cs:List aa) (cur:Array aa),Yy sz k parts=some cs→k*sz+cs.length=cur.size →
  bU (fun i=>some (i*sz,sz)) cur parts=some (cur.toList.take (k*sz)++cs).toArray
 |[],k,cs,cur,h,hl=>by
  simp only [Yy,ao] at h
  subst h
  simp only [List.length_nil,eP] at hl
  simp [bU,ai,hl]
 |(i,v)::r,k,cs,cur,h,hl=>by
  simp only [Yy] at h
  split at h
  ·rename_i hk
   obtain ⟨rfl,hv⟩:=hk
   cases hr:Yy sz (i+1) r with
   |none=>rw [hr] at h;cases h
   |some cs' =>
    rw [hr] at h
    simp only [aS,ao] at h
    subst h
    have hlen:v.cells.toList.length=sz:=by simpa using hv
    rw [aK,hlen] at hl
    have hmul:(i+1)*sz=i*sz+sz:=by rw [aH,fT]
    unfold bU
    simp only [hv,ne_eq,not_true_eq_false,fG,decide_false,decide_eq_true_eq]
    rw [if_neg (by omega)]
    have hfold:∀ (l:List aa) (j:Nat) (c:Array aa),i*sz+j+l.length≤c.size →
      ((l.zipIdx j).foldl (fun cs (x:aa×Nat)=>cs.setIfInBounds (i*sz+x.2) x.1) c)=(c.toList.take (i*sz+j)++l++c.toList.drop (i*sz+j+l.length)).toArray:=by
     intro l
     induction l with
     |nil=>intro j c hc;simp
     |cons x l ih =>
      intro j c hc
      simp only [List.zipIdx_cons,eC,aP] at hc ⊢
      rw [ih (j+1) _ (by simp;omega)]
      congr 1
      apply List.ext_getElem?
      intro q
      simp only [Array.toList_setIfInBounds,bZ,aK,aq,List.length_set,Array.length_toList,aP]
      by_cases h1:q<i*sz+j
      ·have e1:min (i*sz+(j+1)) c.size=i*sz+j+1:=by omega
       have e2:min (i*sz+j) c.size=i*sz+j:=by omega
       have e3:q<i*sz+j+1+l.length:=by omega
       have e4:q<i*sz+j+(l.length+1):=by omega
       have e5:q<i*sz+j+1:=by omega
       simp only [e1,e2,h1,e3,e4,e5,if_true]
       simp [show q<i*sz+(j+1) by omega,h1,show i*sz+j≠q by omega]
      ·by_cases h2:q=i*sz+j
       ·subst h2
        have e1:min (i*sz+(j+1)) c.size=i*sz+j+1:=by omega
        have e2:min (i*sz+j) c.size=i*sz+j:=by omega
        have hlt:i*sz+j<c.toList.length:=by simp;omega
        simp only [e1,e2,Nat.lt_irrefl,if_false,eO]
        simp [show i*sz+j<i*sz+j+1+l.length by omega,show i*sz+j<i*sz+j+1 by omega,show i*sz+j<c.size by omega]
       ·have e1:min (i*sz+(j+1)) c.size=i*sz+j+1:=by omega
        have e2:min (i*sz+j) c.size=i*sz+j:=by omega
        have g1:¬ q<i*sz+j+1:=by omega
        simp only [e1,e2,h1,g1,if_false]
        by_cases h3:q<i*sz+j+1+l.length
        ·simp only [h3,if_true,show q<i*sz+j+(l.length+1) by omega]
         rw [show q - (i*sz+j)=(q - (i*sz+j+1))+1 by omega,List.getElem?_cons_succ]
        ·simp only [h3,if_false,show ¬ q<i*sz+j+(l.length+1) by omega]
         rw [bI,bI,List.getElem?_set_ne (by omega)]
         congr 1;omega
    have e:=hfold v.cells.toList 0 cur (by rw [hlen];omega)
    have e0:v.cells.zipIdx.foldl (fun cs (x:aa×Nat)=>cs.setIfInBounds (i*sz+x.2) x.1) cur=(v.cells.toList.zipIdx 0).foldl (fun cs (x:aa×Nat)=>cs.setIfInBounds (i*sz+x.2) x.1) cur:=by
     rw [← ei];simp
    rw [e0,e]
    have:=Hs r (i+1) cs' (cur.toList.take (i*sz+0)++v.cells.toList++cur.toList.drop (i*sz+0+v.cells.toList.length)).toArray hr (by simp [hv];omega)
    rw [this]
    congr 2
    rw [← ep]
    congr 1
    have hl2:(cur.toList.take (i*sz)++v.cells.toList).length=(i+1)*sz:=by simp [hv];omega
    simp only [eP]
    rw [List.take_append_of_le_length (by rw [hl2];exact aA _),← hl2,bP]
  ·cases h
theorem KJ {a:Act} {w:ab} {t e:ae} {n sz:Nat} {z:List aa} {g:Bool} {parts:Array (Nat×af)} {ps:List (Nat×aa)} {cs:List aa} {gd:Option (Nat×Bool)} (ha:Jx N m a) (hp:Vz m parts.toList=some ps) (ht:P.underlying t=some (.slice e)) (hs:YJ P e=some (g,sz)) (hz:XL P e=some z)
  (hc:Yy sz 0 ps=some cs) (hl:cs.length=n*sz) (h24:fN (n*sz) 16777216=true) (hn:bh (n*sz) 0=false) :
  (execOp a.eval ⟨some d,.buildSlice t n parts,ty,pos,aft,gd⟩).run P w = .ok (.value (.slice (some ⟨w.heap.size,0,none⟩) n n)) (w.alloc (.cells cs.toArray e)):=by
 have e1:(parts.map fun(i,x)=>(i,a.eval x)).toList=ps:=by simpa using ha.parts hp
 have hf:=Hs ps 0 cs ((eS (n*sz)).map (fun i=>z.toArray[i%z.toArray.size]!)) hc (by simp [hl])
 have:=M8 (P:=P) (w:=w) (n:=n) (parts:=parts.map fun(i,x)=>(i,a.eval x)) ht hs hz (by have:=eT h24;omega) (fun e=>by rw [e] at hn;cases hn) (by rw [e1];exact hf)
 simp only [Nat.zero_mul,fv,bW] at this
 simp only [execOp,ar,this,aw,aJ]
theorem Hv {t e:ae} {n sz:Nat} {z:List aa} {g:Bool} {parts:Array (Nat×af)} {ps:List (Nat×aa)} {cs:List aa} (hp:Vz m parts.toList=some ps) (ht:P.underlying t=some (.slice e)) (hs:YJ P e=some (g,sz)) (hz:XL P e=some z)
  (hc:Yy sz 0 ps=some cs) (hl:cs.length=n*sz) (k:∀ b,JS P ops Q l N ((d,.slice (some ⟨b,0,none⟩) n n)::m) ⟨w0,F0,(b,.cells cs.toArray e (0,0))::bs,G⟩) (h24:fN (n*sz) 16777216=true:=by rfl) (hn:bh (n*sz) 0=false:=by rfl)
  (hu:Wc e=true:=by rfl) (hd:J5 N (some d)=true:=by rfl):JS P ops Q (⟨some d,.buildSlice t n parts,ty,pos,aft,none⟩::l) N m ⟨w0,F0,bs,G⟩:=fun a w ha hw =>
 wpList_plain rfl fun _ hK=>upon_value (KJ ha hp ht hs hz hc hl h24 hn) (hK _ _ (k _ _ _ (ha.put hd _) (hw.alloc _ (Xk hu))))
end
section
variable {d:Option Tmp} {ty:ae} {pos:String} {aft:Array Edge}
theorem yI (w:ab) (b:Nat) (c c':Array aa) (T:ae) (fr:Nat×Nat) (h:w.heap[b]?=some (.cells c T fr)):(w.setRow b c').heap=w.heap.setIfInBounds b (.cells c' T fr):=by
 apply bH
 intro i
 by_cases e:i=b
 ·subst e
  rw [setRow_heap w i c c' T fr h]
  have hlt:i<w.heap.size:=by rcases ay i w.heap.size with g | g;exact g;rw [ah g] at h;cases h
  simp [hlt]
 ·rw [aD (ez e)]
  simp [World.setRow,aL,ez e]
theorem run_storeCells_at (g:Nat) (t:ae):∀ (vs:List aa) (i:Nat) (off:Nat) (cur l':List aa) (w:ab),w.heap[g]?=some (.cells cur.toArray t (0,0))→(∀ v∈vs,v.oneCell'=true)→Yt cur (off+i) vs l' →
  ∃ w',(storeCells ⟨g,off,none⟩ vs i).run P w = .ok () w'∧w'.heap=w.heap.setIfInBounds g (.cells l'.toArray t (0,0))∧w'.os=w.os∧w'.tape=w.tape∧w'.output=w.output∧w'.drawn=w.drawn
 |[],i,off,cur,l',w,hg,_,hp=>by
  have hlt:g<w.heap.size:=by rcases ay g w.heap.size with h | h;exact h;rw [ah h] at hg;cases hg
  have e:l'=cur:=by have:=hp.eq;simpa using this
  subst e
  refine⟨w,rfl,?_,rfl,rfl,rfl,rfl⟩
  apply bH
  intro k
  by_cases e:k=g
  ·subst e;rw [hg];simp [hlt]
  ·rw [aD (ez e)]
 |v::vs,i,off,cur,l',w,hg,h1,hp=>by
  have hle:=hp.le
  simp only [aP] at hle
  have hadd:(⟨g,off,none⟩:Addr).add i=⟨g,off+i,none⟩:=by unfold eV;split<;>simp_all
  have hlt:g<w.heap.size:=by rcases ay g w.heap.size with h | h;exact h;rw [ah h] at hg;cases hg
  have hcell:w.cell? ⟨g,off+i,none⟩=some (cur[off+i]'(by omega)):=by simp [bX,hg,show off+i<cur.length by omega]
  have hfro:w.frozen? ⟨g,off+i,none⟩=false:=by simp [eK,hg]
  have hst:(store ((⟨g,off,none⟩:Addr).add i) v).run P w = .ok () (w.setCell ⟨g,off+i,none⟩ v):=by
   rw [hadd,run_store P w _ v _ (h1 v (by simp)),hcell];simp [hfro]
  have hheap:(w.setCell ⟨g,off+i,none⟩ v).heap=w.heap.setIfInBounds g (.cells (cur.set (off+i) v).toArray t (0,0)):=by
   apply bH
   intro k
   by_cases e:k=g
   ·subst e
    show(w.heap.modify k _)[k]?=_
    rw [aL,if_pos rfl,hg];simp [hlt]
   ·rw [aD (ez e)];simp [bK,aL,ez e]
  have hp2:Yt (cur.set (off+i) v) (off+(i+1)) vs l':=by
   have key:∀ (n:Nat) (cur l':List aa),Yt cur n (v::vs) l'→Yt (cur.set n v) (n+1) vs l':=by
    intro n
    induction n with
    |zero=>intro cur l' h;cases h with | here h=>exact .skip h
    |succ n ih=>intro cur l' h;cases h with | skip h=>exact .skip (ih _ _ h)
   exact key _ _ _ hp
  obtain ⟨w',h2,h3,h4,h5,h6⟩:=run_storeCells_at g t vs (i+1) off (cur.set (off+i) v) l' (w.setCell ⟨g,off+i,none⟩ v) (by rw [hheap];simp [hlt]) (fun x hx=>h1 x (by simp [hx])) hp2
  refine⟨w',?_,?_,h4,h5,h6⟩
  ·simp only [storeCells,ar,hst,aw,h2]
  ·rw [h3,hheap];simp
theorem EB {a:Act} {w:ab} {T T':ae} {x y:af} {v:aa} {b off n:Nat} {c vs l':List aa} {gd:Option (Nat×Bool)} {g:Bool} (hx:a.eval x = .pointer (some ⟨b,off,none⟩)) (hy:a.eval y=v) (hv:v.cells=vs.toArray) (ht:YJ P T=some (g,n)) (hn:vs.length=n)
  (hb:w.heap[b]?=some (.cells c.toArray T' (0,0))) (hp:Yt c off vs l') (h1:∀ v∈vs,v.oneCell'=true) :
  ∃ w',(execOp a.eval ⟨d,.store T x y,ty,pos,aft,gd⟩).run P w = .ok .skip w'∧w'.heap=w.heap.setIfInBounds b (.cells l'.toArray T' (0,0))∧w'.os=w.os∧w'.tape=w.tape∧w'.output=w.output∧w'.drawn=w.drawn:=by
 obtain ⟨w',h2,h3⟩:=run_storeCells_at (P:=P) b T' vs 0 off c l' w hb h1 hp
 refine⟨w',?_,h3⟩
 subst hn
 simp [execOp,hx,hy,Instr.storeAt,ba,storeVar,hv,Z2 ht,h2]
def BB:List aa→Prop
 |[]=>True
 |v::r=>v.oneCell'=true∧BB r
theorem ZX:∀ {l:List aa},BB l→∀ v∈l,v.oneCell'=true
 |v::l,⟨h1,h2⟩,u,hu=>by
  rcases List.mem_cons.1 hu with rfl | hu
  ·exact h1
  ·exact ZX h2 u hu
theorem QR {T T':ae} {x y:af} {v:aa} {b off n:Nat} {c vs l':List aa} {g:Bool} {f:Obj→List (Nat×Obj)} (hx:ev m x=some (.pointer (some ⟨b,off,none⟩))) (hy:ev m y=some v) (hv:v.cells=vs.toArray) (ht:YJ P T=some (g,n)) (hn:vs.length=n)
  (ho:Own bs b (.cells c.toArray T' (0,0)) f) (hp:Yt c off vs l') (h1:BB vs) (k:JS P ops Q l N m ⟨w0,F0,f (.cells l'.toArray T' (0,0)),G⟩) (hu:Wc T'=true:=by rfl):JS P ops Q (⟨none,.store T x y,ty,pos,aft,none⟩::l) N m ⟨w0,F0,bs,G⟩:=fun a w ha hw =>
 wpList_plain rfl fun _ hK=>by
  obtain ⟨w',h2,h3⟩:=EB (P:=P) (d:=none) (ty:=ty) (pos:=pos) (aft:=aft) (gd:=none) (ha.ev hx) (ha.ev hy) hv ht hn (hw.own ho) hp (ZX h1)
  obtain ⟨pre,post,e1,e2⟩:=ho.split
  subst e1
  rw [e2] at k
  exact upon_skip h2 (hK _ _ (k _ _ ha (hw.write pre h3 (Xk hu))))
end
inductive DJ:List (Nat×Obj)→Nat→Obj→(Obj→List (Nat×Obj))→List (Nat×Obj)→Prop
 |here {b:Nat} {o:Obj} {r:List (Nat×Obj)}:DJ ((b,o)::r) b o (fun o'=>(b,o')::r) r
 |there {x:Nat×Obj} {l r:List (Nat×Obj)} {b:Nat} {o:Obj} {f:Obj→List (Nat×Obj)}:DJ l b o f r→DJ (x::l) b o (fun o'=>x::f o') (x::r)
theorem DJ.own {l r:List (Nat×Obj)} {b:Nat} {o:Obj} {f:Obj→List (Nat×Obj)} (h:DJ l b o f r):Own l b o f:=by
 induction h with
 |here=>exact .here
 |there h ih=>exact .there ih
theorem DJ.sub {l r:List (Nat×Obj)} {b:Nat} {o:Obj} {f:Obj→List (Nat×Obj)} (h:DJ l b o f r):∀ o',r.Sublist (f o'):=by
 induction h with
 |here=>exact fun _=>bw _ _
 |there h ih=>exact fun o'=>(ih o').cons_cons _
theorem JE {bs0:List (Nat×Obj)} {G0:Gs→Prop} {pos:String} {aft:Array Edge} {ty:ae} {T T':ae} {x y:af} {v:aa} {b off n:Nat} {c vs l':List aa} {g:Bool} {f:Obj→List (Nat×Obj)} {bs':List (Nat×Obj)} (hx:ev m x=some (.pointer (some ⟨b,off,none⟩))) (hy:ev m y=some v) (hv:v.cells=vs.toArray) (ht:YJ P T=some (g,n)) (hn:vs.length=n)
  (ho:DJ bs b (.cells c.toArray T' (0,0)) f bs') (hs:bs0.Sublist bs') (hg0:∀ F,G F→G0 F) (hp:Yt c off vs l') (h1:BB vs) (k:JD P ops Q ⟨w0,F0,bs0,G0⟩ l N m ⟨w0,F0,f (.cells l'.toArray T' (0,0)),G⟩) (hu:Wc T'=true:=by rfl):JD P ops Q ⟨w0,F0,bs0,G0⟩ (⟨none,.store T x y,ty,pos,aft,none⟩::l) N m ⟨w0,F0,bs,G⟩:=fun _ a w ha hw=>by
  obtain ⟨w',h2,h3⟩:=EB (P:=P) (d:=none) (ty:=ty) (pos:=pos) (aft:=aft) (gd:=none) (ha.ev hx) (ha.ev hy) hv ht hn (hw.own ho.own) hp (ZX h1)
  have sub:∀ o' w,St ⟨w0,F0,f o',G⟩ w→St ⟨w0,F0,bs0,G0⟩ w:=fun o' w h=>h.imp (hs.trans (ho.sub o')) hg0
  obtain ⟨pre,post,e1,e2⟩:=ho.own.split
  subst e1
  have hS:St ⟨w0,F0,f (.cells l'.toArray T' (0,0)),G⟩ w':=by rw [e2];exact hw.write pre h3 (Xk hu)
  refine .inr ⟨rfl,?_⟩
  rw [if_pos (by simp [aj])]
  exact upon_skip h2 ⟨sub _ _ hS,k (sub _) _ _ ha hS⟩
theorem JV {id:Nat} {l:List Oper} {bs0:List (Nat×Obj)} (hb0:bs0.Sublist bs) (hm:P.follows .mixedOrders=true) (hB:lexB .any l=true) (h:JD P l.toArray (Xl (Q .normal)) ⟨w0,F0,bs0,G⟩ l N m ⟨w0,F0,bs,G⟩):J P (.region id l.toArray true) Q N m ⟨w0,F0,bs,G⟩ :=
 fun a w ha hw=>PE hm hB (hw.drew.imp hb0 fun _ h=>h) (h (fun _ h=>h.imp hb0 fun _ h=>h) a _ ha hw.drew)
theorem Xr {id:Nat} {l:List Oper} {bs0:List (Nat×Obj)} (n:Nat) (hb0:bs0.Sublist bs) (hm:P.follows .mixedOrders=true) (hB:H6 l n=true) (hB2:lexB .any (l.take n)=true)
  (h:JD P (l.take n).toArray (Xl (fun a w=>wpList P l.toArray Q (l.drop n) a w)) ⟨w0,F0,bs0,G⟩ (l.take n) N m ⟨w0,F0,bs,G⟩):J P (.region id l.toArray true) Q N m ⟨w0,F0,bs,G⟩ :=
 fun a w ha hw=>Hc n hm hB hB2 (hw.drew.imp hb0 fun _ h=>h) (h (fun _ h=>h.imp hb0 fun _ h=>h) a _ ha hw.drew)
theorem N2 {c:Code} {b:Nat} {cs:Array aa} {T:ae} {fr:Nat×Nat} {bs':List (Nat×Obj)} (hr:Ax bs b (.cells cs T fr) bs') (k:J P c Q N m ⟨w0,F0,bs',fun F=>G F∧F b=some (cs,T)⟩):J P c Q N m ⟨w0,F0,bs,G⟩:=fun a w ha hw=>by
 obtain ⟨pre,post,rfl,rfl⟩:=hr.split;exact k a w ha (hw.freeze pre)
theorem Wz {b:Nat} {cs:Array aa} {T:ae} {fr:Nat×Nat} {bs':List (Nat×Obj)} (hr:Ax bs b (.cells cs T fr) bs') (k:JS P ops Q l N m ⟨w0,F0,bs',fun F=>G F∧F b=some (cs,T)⟩):JS P ops Q l N m ⟨w0,F0,bs,G⟩:=fun a w ha hw=>by
 obtain ⟨pre,post,rfl,rfl⟩:=hr.split;exact k a w ha (hw.freeze pre)
theorem pW {e:Exit} {b:Nat} {cs:Array aa} {T:ae} {fr:Nat×Nat} {bs':List (Nat×Obj)} (hr:Ax bs b (.cells cs T fr) bs') (k:Fin Q e N m ⟨w0,F0,bs',fun F=>G F∧F b=some (cs,T)⟩):Fin Q e N m ⟨w0,F0,bs,G⟩:=fun a w ha hw=>by
 obtain ⟨pre,post,rfl,rfl⟩:=hr.split;exact k a w ha (hw.freeze pre)
theorem LV {b:Nat} {cs:Array aa} {T:ae} {fr:Nat×Nat} {bs' bs0:List (Nat×Obj)} {G0:Gs→Prop} (hr:Ax bs b (.cells cs T fr) bs') (hs:bs0.Sublist bs') (hg:∀ F,G F→G0 F) (k:JD P ops Q ⟨w0,F0,bs0,G0⟩ l N m ⟨w0,F0,bs',fun F=>G F∧F b=some (cs,T)⟩):JD P ops Q ⟨w0,F0,bs0,G0⟩ l N m ⟨w0,F0,bs,G⟩:=fun _ a w ha hw=>by
 obtain ⟨pre,post,rfl,rfl⟩:=hr.split;exact k (fun _ h=>h.imp hs fun F h=>hg F h.1) a w ha (hw.freeze pre)
def Nx:Nat→List aa→Sl
 |_,[]=>[]
 |k,v::r=>(k,v)::Nx (k+1) r
theorem We:∀ (args:List aa) (k t:Nat) (v:aa),look (Nx k args) t=some v→k≤t∧args[t - k]?=some v
 |[],k,t,v,h=>by simp [Nx,look] at h
 |u::r,k,t,v,h=>by
  simp only [Nx,look] at h
  cases hb:bh k t with
  |true =>
   rw [hb] at h
   have:k=t:=by simpa using hb
   subst this
   simpa using h
  |false =>
   rw [hb] at h
   obtain ⟨h1,h2⟩:=We r (k+1) t v (by simpa using h)
   refine⟨by omega,?_⟩
   rw [show t - k=(t - (k+1))+1 by omega];simpa using h2
omit [Df] in
theorem QT.intro {f:FuncId} {fn:Func} {c:Code} {args:List aa} {w:ab} {F:Gs} {γ:Type} {val:γ→aa} {fact:γ→Gs→Prop} {G:Gs→Prop} (hf:P.funcs[f]?=some fn) (hb:fn.body=some c) (hn:(fn.name == "runtime.NumGoroutine")=false) (hN:fn.ntmps=N) (hl:fN args.length N=true)
  (hw:Fits F w) (hg:∀ F',Gs.le F F'→G F') (h:J (df:=VJ) P c (bodyPost P fn (DR w F val fact)) N (Nx 0 args) ⟨w,F,[],G⟩):QT P f args w F val fact:=by
 refine⟨enters_of hf hn (by rw [hb];rfl),calls_of_wp hf hb (h _ w ⟨?_,rfl,fun t v ht=>?_⟩ (St.start hw hg))⟩
 ·have:=eT hl
  simp [hN];omega
 ·obtain ⟨_,h2⟩:=We args 0 t v ht
  have hlt:t<args.length:=by rcases ay t args.length with g | g;exact g;rw [fM,aM g] at h2;cases h2
  simp only [fM] at h2
  rw [Array.getElem?_append,if_pos (by simpa using hlt)]
  simpa using h2
omit [Df] in
theorem zu {fn:Func} {γ:Type} {val:γ→aa} {fact:γ→Gs→Prop} {bs:List (Nat×Obj)} {G:Gs→Prop} (c:γ) (hr:∀ a w,Jx (df:=VJ) N m a→St ⟨w0,F0,bs,G⟩ w→(results fn a.tmps).run P w = .ok (val c) w) (hg:∀ F,G F→fact c F):Fin (df:=VJ) (bodyPost P fn (DR w0 F0 val fact)) .ret N m ⟨w0,F0,bs,G⟩:=fun a w ha hw=>by
 obtain ⟨F,h⟩:=id hw
 exact⟨ha.df,val c,hr a w ha hw,c,F,rfl,h.ext,h.le,h.old,h.fits,fun F' hF'=>hg F' (h.g F' hF')⟩
omit [Df] in
theorem QAy {fn:Func} {γ:Type} {val:γ→aa} {fact:γ→Gs→Prop} {bs:List (Nat×Obj)} {G:Gs→Prop} (h:Fin (df:=VJ) (bodyPost P fn (DR w0 F0 val fact)) .ret N m ⟨w0,F0,bs,G⟩):Fin (df:=VJ) (bodyPost P fn (DR w0 F0 val fact)) .normal N m ⟨w0,F0,bs,G⟩:=h
inductive Dv (P:au) (m:Sl) (bs:List (Nat×Obj)):List ResultVar→List aa→Prop
 |nil:Dv P m bs [] []
 |tmp {t:Tmp} {v:aa} {r:List ResultVar} {vs:List aa} (h:look m t=some v) (k:Dv P m bs r vs):Dv P m bs (.tmp t::r) (v::vs)
 |pG {t:Tmp} {T T':ae} {b n:Nat} {c:List aa} {v:aa} {fr:Nat×Nat} {f:Obj→List (Nat×Obj)} {r:List ResultVar} {vs:List aa} (h:look m t=some (.pointer (some ⟨b,0,none⟩))) (ht:YJ P T=some (false,n)) (ho:Own bs b (.cells c.toArray T' fr) f) (hg:Ha c 0 [v]) (k:Dv P m bs r vs):Dv P m bs (.cell t T::r) (v::vs)
 |Jd {t:Tmp} {T T':ae} {b:Nat} {c:List aa} {fr:Nat×Nat} {f:Obj→List (Nat×Obj)} {r:List ResultVar} {vs:List aa} (h:look m t=some (.pointer (some ⟨b,0,none⟩))) (ht:YJ P T=some (true,c.length)) (ho:Own bs b (.cells c.toArray T' fr) f) (k:Dv P m bs r vs):Dv P m bs (.cell t T::r) (.agg c.toArray::vs)
def GW (tmps:Array aa):ResultVar→Sem aa
 |.tmp t=>pure (tmps.getD t undef)
 |.cell p t=>do loadVar t (← asAddr (tmps.getD p undef))
theorem Dv.run {rs:List ResultVar} {vs:List aa} (h:Dv P m bs rs vs) {a:Act} {w:ab} (ha:Jx N m a) (hw:St ⟨w0,F0,bs,G⟩ w) :
  (rs.mapM (GW a.tmps)).run P w = .ok vs w:=by
 induction h with
 |nil=>rfl
 |tmp h k ih =>
  rename_i t v r vs
  have e:=ha.get _ _ h
  have e2:(GW a.tmps (.tmp t)).run P w = .ok v w:=by simp [GW,e]
  rw [eH,ar,e2]
  simp [ih]
 |pG h ht ho hg k ih =>
  rename_i t T T' b n c v fr f r vs
  have e:=ha.get _ _ h
  have hc:=Xv (hw.own ho) (o:=0)
  have:=hg.at 0 _ rfl
  simp only [bA] at this
  rw [this] at hc
  have e2:(GW a.tmps (.cell t T)).run P w = .ok v w:=by simp [GW,e,asAddr,Zi ht hc]
  rw [eH,ar,e2]
  simp [ih]
 |Jd h ht ho k ih =>
  rename_i t T T' b c fr f r vs
  have e:=ha.get _ _ h
  have:=K2 (P:=P) ht rfl (w:=w) (b:=b) (off:=0) (fun j v hv=>by rw [bA,Xv (hw.own ho)];exact hv)
  have e2:(GW a.tmps (.cell t T)).run P w = .ok (.agg c.toArray) w:=by simp [GW,e,asAddr,this]
  rw [eH,ar,e2]
  simp [ih]
theorem AG (fn:Func) (tmps:Array aa):results fn tmps=(do let vs ← fn.results.mapM (GW tmps);pure (if h:vs.size=1 then vs[0] else .tuple vs)):=by
 unfold results
 exact congrArg (fun(g:ResultVar→Sem aa)=>(do let vs ← fn.results.mapM g;pure (if h:vs.size=1 then vs[0] else .tuple vs):Sem aa)) (funext fun x=>by cases x<;>rfl)
theorem GU {fn:Func} {rs:List ResultVar} {vs:List aa} (hrs:fn.results=rs.toArray) (h:Dv P m bs rs vs) {a:Act} {w:ab} (ha:Jx N m a) (hw:St ⟨w0,F0,bs,G⟩ w) :
  (results fn a.tmps).run P w = .ok (match vs with | [v]=>v | vs=>.tuple vs.toArray) w:=by
 have:=h.run ha hw
 rw [AG,hrs,List.mapM_toArray]
 simp only [ar,Sem.run_map,this,aw,aJ]
 match vs with
 |[]=>rfl
 |[v]=>rfl
 |v::u::r=>rfl
omit [Df] in
theorem QP {fn:Func} {γ:Type} {val:γ→aa} {fact:γ→Gs→Prop} {bs:List (Nat×Obj)} {G:Gs→Prop} {rs:List ResultVar} {v:aa} (c:γ) (hrs:fn.results=rs.toArray) (h:Dv P m bs rs [v]) (hv:val c=v) (hg:∀ F,G F→fact c F):Fin (df:=VJ) (bodyPost P fn (DR w0 F0 val fact)) .ret N m ⟨w0,F0,bs,G⟩ :=
 zu c (fun a w ha hw=>by rw [hv];exact GU hrs h ha hw) hg
omit [Df] in
theorem Ja {fn:Func} {γ:Type} {val:γ→aa} {fact:γ→Gs→Prop} {bs:List (Nat×Obj)} {G:Gs→Prop} {rs:List ResultVar} {v u:aa} {vs:List aa} (c:γ) (hrs:fn.results=rs.toArray) (h:Dv P m bs rs (v::u::vs)) (hv:val c = .tuple (v::u::vs).toArray) (hg:∀ F,G F→fact c F):Fin (df:=VJ) (bodyPost P fn (DR w0 F0 val fact)) .ret N m ⟨w0,F0,bs,G⟩ :=
 zu c (fun a w ha hw=>by rw [hv];exact GU hrs h ha hw) hg
end
end
section
variable [Dr] [df:Df]
section
variable {P:au} {N:Nat} {m:Sl} {S:ab→Prop} {ty:ae} {v:aa}
def Cg:BinOp→aa→aa→Option aa
 |.add,.int .i64 a,.int .i64 b=>some (.int .i64 (IntKind.i64.wrap (a+b)))
 |.sub,.int .i64 a,.int .i64 b=>some (.int .i64 (IntKind.i64.wrap (a - b)))
 |.mul,.int .i64 a,.int .i64 b=>some (.int .i64 (IntKind.i64.wrap (a*b)))
 |.add,.int .u64 a,.int .u64 b=>some (.int .u64 (IntKind.u64.wrap (a+b)))
 |.sub,.int .u64 a,.int .u64 b=>some (.int .u64 (IntKind.u64.wrap (a - b)))
 |.mul,.int .u64 a,.int .u64 b=>some (.int .u64 (IntKind.u64.wrap (a*b)))
 |.eql,.int .i64 a,.int .i64 b=>some (.bool (a==b))
 |.neq,.int .i64 a,.int .i64 b=>some (.bool (a != b))
 |.lss,.int .i64 a,.int .i64 b=>some (.bool (decide (a<b)))
 |.leq,.int .i64 a,.int .i64 b=>some (.bool (decide (a≤b)))
 |.gtr,.int .i64 a,.int .i64 b=>some (.bool (decide (a>b)))
 |.geq,.int .i64 a,.int .i64 b=>some (.bool (decide (a≥b)))
 |.eql,.int .u64 a,.int .u64 b=>some (.bool (a==b))
 |.neq,.int .u64 a,.int .u64 b=>some (.bool (a != b))
 |.lss,.int .u64 a,.int .u64 b=>some (.bool (decide (a<b)))
 |.leq,.int .u64 a,.int .u64 b=>some (.bool (decide (a≤b)))
 |.gtr,.int .u64 a,.int .u64 b=>some (.bool (decide (a>b)))
 |.geq,.int .u64 a,.int .u64 b=>some (.bool (decide (a≥b)))
 |.eql,.int .u8 a,.int .u8 b=>some (.bool (a==b))
 |.neq,.int .u8 a,.int .u8 b=>some (.bool (a != b))
 |.lss,.int .u8 a,.int .u8 b=>some (.bool (decide (a<b)))
 |.leq,.int .u8 a,.int .u8 b=>some (.bool (decide (a≤b)))
 |.gtr,.int .u8 a,.int .u8 b=>some (.bool (decide (a>b)))
 |.geq,.int .u8 a,.int .u8 b=>some (.bool (decide (a≥b)))
 |.eql,.int .i32 a,.int .i32 b=>some (.bool (a==b))
 |.neq,.int .i32 a,.int .i32 b=>some (.bool (a != b))
 |.lss,.int .i32 a,.int .i32 b=>some (.bool (decide (a<b)))
 |.leq,.int .i32 a,.int .i32 b=>some (.bool (decide (a≤b)))
 |.gtr,.int .i32 a,.int .i32 b=>some (.bool (decide (a>b)))
 |.geq,.int .i32 a,.int .i32 b=>some (.bool (decide (a≥b)))
 |.eql,.string a,.string b=>some (.bool (a.toList==b.toList))
 |.neq,.string a,.string b=>some (.bool (!(a.toList==b.toList)))
 |_,_,_=>none
theorem OK {op:BinOp} {T:ae} {x y:af} {vx vy:aa} (h:Cg op vx vy=some v) (w:ab):(do eqGuard op T x y vx vy;binOp op T vx vy:Sem aa).run P w = .ok v w:=by
  unfold Cg at h
  split at h<;>first
    | (cases h;done)
    | (simp only [ao] at h
       subst h
       simp [eqGuard,binOp,Op.intArith,Op.intCmp,Op.stringOp])
theorem QU {op:BinOp} {T yT:ae} {x y:af} {vx vy:aa} (hx:ev m x=some vx) (hy:ev m y=some vy) (h:Cg op vx vy=some v):Qt P N m S (.binOp op T x y yT) ty v:=fun a w _ _ _ _ ha _=>by
 have:=OK (P:=P) (T:=T) (x:=x) (y:=y) h w
 simp only [execOp,ha.ev hx,ha.ev hy]
 simp only [ar] at this ⊢
 rw [this];rfl
theorem Qs {T yT:ae} {x y:af} {a b:Int} (hx:ev m x=some (.int .i64 a)) (hy:ev m y=some (.int .i64 b)) (h : -9223372036854775808≤a+b∧a+b≤9223372036854775807):Qt P N m S (.binOp .add T x y yT) ty (.int .i64 (a+b)):=by
 have:=QU (P:=P) (N:=N) (m:=m) (S:=S) (ty:=ty) (T:=T) (yT:=yT) (op:=.add) hx hy rfl
 rw [bt _ h] at this;exact this
theorem XB {T yT:ae} {x y:af} {a b:Int} (hx:ev m x=some (.int .i64 a)) (hy:ev m y=some (.int .i64 b)) (h : -9223372036854775808≤a - b∧a - b≤9223372036854775807):Qt P N m S (.binOp .sub T x y yT) ty (.int .i64 (a - b)):=by
 have:=QU (P:=P) (N:=N) (m:=m) (S:=S) (ty:=ty) (T:=T) (yT:=yT) (op:=.sub) hx hy rfl
 rw [bt _ h] at this;exact this
theorem GF {T yT:ae} {x y:af} {a b:Int} (hx:ev m x=some (.int .i64 a)) (hy:ev m y=some (.int .i64 b)) (h : -9223372036854775808≤a*b∧a*b≤9223372036854775807):Qt P N m S (.binOp .mul T x y yT) ty (.int .i64 (a*b)):=by
 have:=QU (P:=P) (N:=N) (m:=m) (S:=S) (ty:=ty) (T:=T) (yT:=yT) (op:=.mul) hx hy rfl
 rw [bt _ h] at this;exact this
theorem LW {T yT:ae} {x y:af} {k:IntKind} {a b:Int} (hx:ev m x=some (.int k a)) (hy:ev m y=some (.int k b)) (h:b≠0):Qt P N m S (.binOp .quo T x y yT) ty (.int k (k.wrap (a.tdiv b))):=fun s w _ _ _ _ ha _=>by
 simp [execOp,ha.ev hx,ha.ev hy,eqGuard,binOp,Op.intDiv,h]
theorem xj {T yT:ae} {x y:af} {k:IntKind} {a b:Int} (hx:ev m x=some (.int k a)) (hy:ev m y=some (.int k b)) (h:b≠0):Qt P N m S (.binOp .rem T x y yT) ty (.int k (a.tmod b)):=fun s w _ _ _ _ ha _=>by
 simp [execOp,ha.ev hx,ha.ev hy,eqGuard,binOp,Op.intDiv,h]
theorem W4 {T yT:ae} {x y:af} {a b:Int} (hx:ev m x=some (.int .i64 a)) (hy:ev m y=some (.int .i64 b)) (ha:0≤a) (ha':a≤9223372036854775807) (hb:0<b):Qt P N m S (.binOp .quo T x y yT) ty (.int .i64 (a / b)):=by
 have:=LW (P:=P) (N:=N) (m:=m) (S:=S) (ty:=ty) (T:=T) (yT:=yT) hx hy (by omega)
 have e:a.tdiv b=a / b:=Int.tdiv_eq_ediv_of_nonneg ha
 have h0:0≤a / b:=fz ha (by omega)
 have h1:a / b≤a:=Int.ediv_le_self b ha
 rw [e,bt _ ⟨by omega,by omega⟩] at this;exact this
theorem Kn {T yT:ae} {x y:af} {k:IntKind} {a b:Int} (hx:ev m x=some (.int k a)) (hy:ev m y=some (.int k b)) (ha:0≤a) (hb:0<b):Qt P N m S (.binOp .rem T x y yT) ty (.int k (a%b)):=by
 have:=xj (P:=P) (N:=N) (m:=m) (S:=S) (ty:=ty) (T:=T) (yT:=yT) hx hy (by omega)
 rw [Int.tmod_eq_emod_of_nonneg ha] at this;exact this
theorem Od {T yT:ae} {x y:af} {a b:ByteArray} (hx:ev m x=some (.string a)) (hy:ev m y=some (.string b)) (h:((a.size+b.size:Nat):Int)≤9223372036854775807):Qt P N m S (.binOp .add T x y yT) ty (.string (a++b)):=fun s w _ _ _ _ ha _=>by
 have h':¬ ((a.size+b.size:Nat):Int)>IntKind.i64.max:=by
  have:IntKind.i64.max=9223372036854775807:=by decide
  omega
 simp only [execOp,ha.ev hx,ha.ev hy,eqGuard,binOp,Op.stringOp,if_neg h']
 rfl
theorem Yc {T:ae} {x:af} {b:Bool} (hx:ev m x=some (.bool b)):Qt P N m S (.unOp .not T x) ty (.bool (!b)):=fun s w _ _ _ _ ha _=>by
 simp [execOp,ha.ev hx,Op.unary]
theorem QAi {T:ae} {x:af} {a:Int} (hx:ev m x=some (.int .i64 a)) (h : -9223372036854775807≤a∧a≤9223372036854775808):Qt P N m S (.unOp .neg T x) ty (.int .i64 (-a)):=fun s w _ _ _ _ ha _=>by
 have e:IntKind.i64.wrap (-a) = -a:=bt _ (by omega)
 simp [execOp,ha.ev hx,Op.unary,Op.intArith,e]
def RD (P:au) (T:ae):Option IntKind:=match P.underlying T with
 |some (.int k)=>some k
 |_=>none
theorem Pv {src dst:ae} {x:af} {k k':IntKind} {n:Int} (hx:ev m x=some (.int k' n)) (hs:(P.underlying src).isSome=true) (hk:RD P dst=some k):Qt P N m S (.convert src dst x) ty (.int k (k.wrap n)):=fun s w _ _ _ _ ha _=>by
 obtain ⟨d,hd⟩:=Option.isSome_iff_exists.1 hs
 unfold RD at hk
 split at hk
 ·rename_i k'' hu
  cases hk
  simp only [execOp,ha.ev hx,convert,ar,run_underlying hd,run_underlying hu,aw]
  rfl
 ·cases hk
theorem T7 {n:Int} (h : -9223372036854775808≤n∧n≤9223372036854775807):IntKind.i64.wrap n=n:=bt _ h
theorem Pw {src dst:ae} {x:af} {k':IntKind} {n:Int} (hx:ev m x=some (.int k' n)) (hs:(P.underlying src).isSome=true) (hk:RD P dst=some .i64) (h : -9223372036854775808≤n∧n≤9223372036854775807):Qt P N m S (.convert src dst x) ty (.int .i64 n):=by
 have:=Pv (P:=P) (N:=N) (m:=m) (S:=S) (ty:=ty) hx hs hk
 rw [T7 h] at this;exact this
def Gu (P:au) (T:ae):Bool:=match P.underlying T with
 |some .string=>true
 |_=>false
theorem Yj {b:Builtin} {args:Array af} {tys:Array ae} {a:Act} {d:Option Tmp} {pos:String} {aft:Array Edge} {g:Option (Nat×Bool)}:execOp a.eval ⟨d,.call ⟨.builtin b,args,tys⟩,ty,pos,aft,g⟩=builtin b tys ty (args.map fun | .const _=>true | _=>false) (args.map a.eval):=rfl
theorem Oa {T:ae} {x:af} {s:ByteArray} (hx:ev m x=some (.string s)) (hT:Gu P T=true):Qt P N m S (.call ⟨.builtin .len,#[x],#[T]⟩) ty (.int .i64 s.size):=fun a w _ _ _ _ ha _=>by
 unfold Gu at hT
 split at hT
 ·rename_i hu
  rw [Yj]
  simp [builtin,Builtin.len_,ha.ev hx,run_underlying hu,goInt]
 ·cases hT
def BM (P:au) (T:ae):Option ae:=match P.underlying T with
 |some (.slice e)=>some e
 |_=>none
theorem Q8 {T e:ae} (h:BM P T=some e):P.underlying T=some (.slice e):=by
 unfold BM at h;split at h
 ·cases h;assumption
 ·cases h
theorem Qj {T e:ae} {x:af} {q:Option Addr} {n c:Nat} (hx:ev m x=some (.slice q n c)) (hT:BM P T=some e):Qt P N m S (.call ⟨.builtin .len,#[x],#[T]⟩) ty (.int .i64 n):=fun a w _ _ _ _ ha _=>by
 rw [Yj]
 simp [builtin,Builtin.len_,ha.ev hx,run_underlying (Q8 hT),goInt]
theorem qE {T T':ae} {x y:af} {a b:Int} (hx:ev m x=some (.int .i64 a)) (hy:ev m y=some (.int .i64 b)):Qt P N m S (.call ⟨.builtin .min,#[x,y],#[T,T']⟩) ty (.int .i64 (if b<a then b else a)):=fun s w _ _ _ _ ha _=>by
 rw [Yj]
 simp [builtin,ha.ev hx,ha.ev hy,Builtin.min_,Builtin.min2]
theorem dH {T T':ae} {x y:af} {a b:Int} (hx:ev m x=some (.int .i64 a)) (hy:ev m y=some (.int .i64 b)):Qt P N m S (.call ⟨.builtin .max,#[x,y],#[T,T']⟩) ty (.int .i64 (if b>a then b else a)):=fun s w _ _ _ _ ha _=>by
 rw [Yj]
 simp [builtin,ha.ev hx,ha.ev hy,Builtin.max_,Builtin.max2]
theorem Ob {T:ae} {x y:af} {s:ByteArray} {i:Nat} (hx:ev m x=some (.string s)) (hy:ev m y=some (.int .i64 (i:Int))) (hT:Gu P T=true) (hi:i<s.size):Qt P N m S (.index T x y) ty (.int .u8 (s.data[i].toNat:Int)):=fun a w _ _ _ _ ha _=>by
 unfold Gu at hT
 split at hT
 ·rename_i hu
  have e:s[i]?=some (s.data[i]):=by
   rw [getElem?_pos s i hi];rfl
  simp [execOp,ha.ev hx,ha.ev hy,Instr.index,asIntOf,run_underlying hu,e]
 ·cases hT
theorem Rs {T:ae} {s:ByteArray} {lo hi:Option aa} {l h:Nat} (hT:Gu P T=true) (hlo:(lo=none∧l=0)∨lo=some (.int .i64 (l:Int))) (hhi:(hi=none∧h=s.size)∨hi=some (.int .i64 (h:Int))) (h1:l≤h) (h2:h≤s.size) (w:ab) :
  (fL T (.string s) lo hi none).run P w = .ok (.string (s.extract l h)) w:=by
 unfold Gu at hT
 split at hT
 ·rename_i hu
  rcases hlo with ⟨rfl,rfl⟩ | rfl<;>rcases hhi with ⟨rfl,rfl⟩ | rfl <;>
   simp [fL,run_underlying hu,Instr.sliceBounds,Instr.sliceBound,asIntOf,h1,h2]
 ·cases hT
def Uq (m:Sl):Option af→Option (Option aa)
 |none=>some none
 |some x=>(ev m x).map some
theorem Jx.Uq {a:Act} (h:Jx N m a) {x:Option af} {v:Option aa} (hx:Uq m x=some v):x.map a.eval=v:=by
 cases x with
 |none=>simpa [YtknegjaeoffnbaaGreatDoor.Uq] using hx
 |some x =>
  cases hv:YtknegjaeoffnbaaGreatDoor.ev m x with
  |none=>simp [YtknegjaeoffnbaaGreatDoor.Uq,hv] at hx
  |some u=>simp [YtknegjaeoffnbaaGreatDoor.Uq,hv] at hx;simp [h.ev hv,hx]
theorem AK {T:ae} {x:af} {lo hi:Option af} {vl vh:Option aa} {s:ByteArray} {l h:Nat} (hx:ev m x=some (.string s)) (el:Uq m lo=some vl) (eh:Uq m hi=some vh) (hT:Gu P T=true)
  (hlo:(vl=none∧l=0)∨vl=some (.int .i64 (l:Int))) (hhi:(vh=none∧h=s.size)∨vh=some (.int .i64 (h:Int))) (h1:l≤h) (h2:h≤s.size):Qt P N m S (.slice T x lo hi none) ty (.string (s.extract l h)):=fun a w _ _ _ _ ha _=>by
 have e:=Rs (P:=P) hT hlo hhi h1 h2 w
 unfold Gu at hT
 split at hT
 ·rename_i hu
  simp [execOp,ha.ev hx,ha.Uq el,ha.Uq eh,Instr.sliceAt,run_underlying hu,e]
 ·cases hT
end
end
section
variable [Dr] [df:Df]
section
variable {P:au} {Q:Exit→Act→ab→Prop} {N:Nat} {m:Sl} {E E0:Env} {ops:Array Oper} {l:List Oper} {w0:ab} {F0:Gs} {bs:List (Nat×Obj)} {G:Gs→Prop} {ty:ae} {v:aa} {S:ab→Prop}
theorem Kt (b off k:Nat):(⟨b,off,none⟩:Addr).add k=⟨b,off+k,none⟩:=by unfold eV;split<;>simp_all
theorem Qw {T e:ae} {x y:af} {b off n c sz i:Nat} {g:Bool} (hx:ev m x=some (.slice (some ⟨b,off,none⟩) n c)) (hy:ev m y=some (.int .i64 (i:Int))) (hT:BM P T=some e) (hs:YJ P e=some (g,sz)) (hi:i<n):Qt P N m S (.indexAddr T x y) ty (.pointer (some ⟨b,off+i*sz,none⟩)):=fun a w _ _ _ _ ha _=>by
 simp [execOp,ha.ev hx,ha.ev hy,Instr.indexAt,asIntOf,run_underlying (Q8 hT),Z2 hs,hi,Kt]
theorem YZ {T T':ae} {x:af} {b off n:Nat} {c:List aa} {fr:Nat×Nat} {f:Obj→List (Nat×Obj)} (h:ev m x=some (.pointer (some ⟨b,off,none⟩))) (ht:YJ P T=some (false,n)) (ho:Own bs b (.cells c.toArray T' fr) f) (hg:c[off]?=some v) :
  Qt P N m (St ⟨w0,F0,bs,G⟩) (.load T x) ty v:=fun a w _ _ _ _ ha hw=>by
 have hc:w.cell? ⟨b,off,none⟩=some v:=by rw [Xv (hw.own ho)];exact hg
 simp [execOp,ha.ev h,bT,ba,Zi ht hc]
theorem Yt.mk':∀ (n:Nat) (l vs:List aa),n+vs.length≤l.length→Yt l n vs (l.take n++vs++l.drop (n+vs.length))
 |0,l,[],_=>by simpa using Yt.nil (l:=l)
 |0,x::l,v::vs,h=>by
  have:=Yt.mk' 0 l vs (by simp at h ⊢;omega)
  simp only [fv,bW,bA,aP,List.drop_succ_cons,fi] at this ⊢
  exact .here this
 |n+1,x::l,vs,h=>by
  have:=Yt.mk' n l vs (by simp at h;omega)
  rw [ek]
  simpa using Yt.skip (x:=x) this
 |0,[],v::vs,h=>by simp at h
 |n+1,[],vs,h=>by simp at h
theorem Yt.gr {l:List aa} {n:Nat} (v:aa) (h:n<l.length):Yt l n [v] (l.set n v):=by
 have:=Yt.mk' n l [v] (by simp;omega)
 have e:l.take n++[v]++l.drop (n+1)=l.set n v:=by
  rw [List.set_eq_take_append_cons_drop,if_pos h];simp
 rw [List.length_singleton,e] at this;exact this
theorem gK {d:Option Tmp} {pos:String} {aft:Array Edge} {T T':ae} {x y:af} {b off n:Nat} {c:List aa} {g:Bool} {f:Obj→List (Nat×Obj)} (hx:ev m x=some (.pointer (some ⟨b,off,none⟩))) (hy:ev m y=some v) (hv:v.cells=#[v]) (h1:v.oneCell'=true) (ht:YJ P T=some (g,1))
  (ho:Own bs b (.cells c.toArray T' (0,0)) f) (hl:off<c.length) (k:JS P ops Q l N m ⟨w0,F0,f (.cells (c.set off v).toArray T' (0,0)),G⟩) (hu:Wc T'=true:=by rfl):JS P ops Q (⟨none,.store T x y,ty,pos,aft,none⟩::l) N m ⟨w0,F0,bs,G⟩ :=
 QR hx hy (vs:=[v]) hv ht rfl ho (Yt.gr v hl) ⟨h1,trivial⟩ k hu
inductive Qx (T:ae) (sz:Nat):aa→Nat→List aa→List (Nat×Obj)→Prop
 |nil:Qx T sz (.slice none 0 0) 0 [] []
 |some {b n cap:Nat} {l rest:List aa} (h1:l.length=n*sz) (h2:l.length+rest.length=cap*sz) (h3:n≤cap) (h4:cap≤maxLen):Qx T sz (.slice (some ⟨b,0,none⟩) n cap) n l [(b,.cells (l++rest).toArray T (0,0))]
theorem Qx.one {T:ae} {sz n:Nat} {v:aa} {l:List aa} {ob:List (Nat×Obj)} (h:Qx T sz v n l ob):v.oneCell'=true∧v.cells=[v].toArray:=by
 cases h<;>exact⟨rfl,rfl⟩
theorem Qx.len {T:ae} {sz n:Nat} {v:aa} {l:List aa} {ob:List (Nat×Obj)} (h:Qx T sz v n l ob):l.length=n*sz:=by
 cases h<;>simp_all
structure Src (E:Env) (sz:Nat) (x:aa) (k:Nat) (news:List aa):Prop where
 len:news.length=k*sz
 rd:((∃ c,x = .slice none 0 c)∧k=0∧news=[])∨∃ a c,x = .slice (some a) k c∧∀ w,St E w→∀ j v,news[j]?=some v→w.cell? (a.add j)=some v
theorem Src.own {sz k b off c:Nat} {news cs:List aa} {T:ae} {fr:Nat×Nat} {f:Obj→List (Nat×Obj)} (ho:Own bs b (.cells cs.toArray T fr) f) (hg:Ha cs off news) (hl:news.length=k*sz):Src ⟨w0,F0,bs,G⟩ sz (.slice (.some ⟨b,off,none⟩) k c) k news :=
 ⟨hl,.inr ⟨_,_,rfl,fun w hw j v hv=>by rw [Kt,Xv (hw.own ho)];exact hg.at j v hv⟩⟩
theorem Src.row {sz k b off c:Nat} {news:List aa} {cs:Array aa} {T:ae} (hr:∀ F,G F→F b=some (cs,T)) (hg:∀ j v,news[j]?=some v→cs[off+j]?=some v) (hl:news.length=k*sz):Src ⟨w0,F0,bs,G⟩ sz (.slice (.some ⟨b,off,none⟩) k c) k news :=
 ⟨hl,.inr ⟨_,_,rfl,fun w hw j v hv=>by rw [Kt];exact cell_of_row hw hr (hg j v hv)⟩⟩
theorem Src.nil {sz c:Nat}:Src E sz (.slice none 0 c) 0 []:=⟨by simp,.inl ⟨⟨_,rfl⟩,rfl,rfl⟩⟩
def YG (P:au) (T:ae):Option Nat:=(P.info? T).map (·.bytes)
theorem Hd {w:ab} {sz k:Nat} {x:aa} {news:List aa} (hl:news.length=k*sz) (h:((∃ c,x = .slice none 0 c)∧k=0∧news=[])∨∃ a c,x = .slice (some a) k c∧∀ j v,news[j]?=some v→w.cell? (a.add j)=some v) :
  (eR sz k x).run P w = .ok news.toArray w:=by
 rcases h with ⟨⟨_,rfl⟩,rfl,rfl⟩ | ⟨a,c,rfl,h⟩
 ·rfl
 ·exact run_firstCells_some (P:=P) w sz k a k c news hl h
theorem Ho {t e:ae} {sz bytes n k:Nat} {z:List aa} {g:Bool} {x y:aa} {olds news:List aa} {ob:List (Nat×Obj)} {w:ab} (ht:BM P t=some e) (hs:YJ P e=some (g,sz)) (hz:XL P e=some z) (hzl:z.length=sz) (hby:YG P e=some bytes)
  (hr:Qx e sz x n olds ob) (hs2:Src ⟨w0,F0,ob++bs,G⟩ sz y k news) (hw:St ⟨w0,F0,ob++bs,G⟩ w) (h63:n+k≤9223372036854775807) (h47:(n+k)*bytes≤140737488355328) (h1:∀ v∈news,v.oneCell'=true) (hu:Wc e=true) :
  ∃ v' ob' w',(bQ #[t,t] ty #[x,y]).run P w = .ok v' w'∧Qx e sz v' (n+k) (olds++news) ob'∧St ⟨w0,F0,ob'++bs,G⟩ w':=by
 have hi:∃ i,P.info? e=some i∧i.size=sz∧i.bytes=bytes∧∃ zv,i.zero=some zv∧zv.cells=z.toArray:=by
  unfold YG at hby;unfold XL at hz;unfold YJ at hs
  cases hie:P.info? e with
  |none=>rw [hie] at hby;cases hby
  |some i =>
   rw [hie] at hby hz hs
   dsimp only at hz hs
   simp only [aS,ao] at hby
   refine⟨i,rfl,?_,hby,?_⟩
   ·split at hs
    ·rename_i h1 h2;cases h2;cases hs;rfl
    ·cases hs
   ·cases hzz:i.zero with
    |none=>rw [hzz] at hz;cases hz
    |some zv=>rw [hzz] at hz;simp only [aS,ao] at hz;exact⟨zv,rfl,by rw [← hz]⟩
 obtain ⟨i,hi1,hi2,hi3,zv,hi4,hi5⟩:=hi
 subst hi2 hi3
 have hzc:∀ q,(aG zv.cells q).toList.length=q*i.size:=fun q=>by simp [aG,hi5,hzl]
 have hu':∀ c fr c' fr',Obj.cells c e fr≠.cells c' 248 fr':=fun c fr=>Xk hu
 have new:∀ {w':ab} (l rest:List aa) (v':aa) (cap:Nat) (bs':List (Nat×Obj)),St ⟨w0,F0,bs',G⟩ w'→bs.Sublist bs'→v' = .slice (some ⟨w'.heap.size,0,none⟩) (n+k) cap→l.length=(n+k)*i.size→l.length+rest.length=cap*i.size→n+k≤cap→cap≤maxLen →
   ∃ ob',Qx e i.size v' (n+k) l ob'∧St ⟨w0,F0,ob'++bs,G⟩ (w'.alloc (.cells (l++rest).toArray e)):=by
  intro w' l rest v' cap bs' hw' hsub hv' h2 h3 h4 h5
  subst hv'
  exact⟨_,.some h2 h3 h4 h5,(hw'.imp hsub fun _ h=>h).alloc _ (hu' _ _)⟩
 have hcut:∀ need old,need≤9223372036854775807→need≤grownCap w need old e:=fun need old _=>grownCap_ge w need old e
 cases hr with
 |nil =>
  simp only [bA,bW] at *
  rcases hs2.rd with ⟨⟨_,rfl⟩,rfl,rfl⟩ | ⟨a,c,rfl,hrd⟩
  ·refine⟨.slice none 0 0,[],w,?_,.nil,hw⟩
   simp [bQ,run_underlying (Q8 ht),sizeOf,typeInfo,hi1,eF,eR]
  ·by_cases hk:k=0
   ·subst hk
    have hn0:news=[]:=by have:=hs2.len;simp at this;exact this
    subst hn0
    refine⟨.slice none 0 0,[],w,?_,.nil,hw⟩
    have:=run_firstCells_some (P:=P) w i.size 0 a 0 c [] (by simp) (fun j v hv=>by simp at hv)
    simp [bQ,run_underlying (Q8 ht),sizeOf,typeInfo,hi1,eF,this]
   ·have hrun:=run_append_nil (P:=P) (w:=w) t ty e i zv (Q8 ht) hi1 hi4 a k c news hs2.len (hrd w hw) (by omega) (by omega) (by omega)
    have hge:=hcut k 0 h63
    obtain ⟨ob',h2,h3⟩:=new news (aG zv.cells (grownCap w k 0 e - k)).toList _ (grownCap w k 0 e) bs hw.drew wG rfl hs2.len (by rw [hzc,hs2.len,← aH];congr 1;omega) hge (grownCap_le_maxLen w k 0 e (by simp only [maxLen];omega))
    refine⟨_,ob',_,hrun,h2,?_⟩
    have e1:(news++(aG zv.cells (grownCap w k 0 e - k)).toList).toArray=news.toArray++aG zv.cells (grownCap w k 0 e - k):=by apply bV;simp
    rw [e1] at h3;exact h3
 |some g1 g2 g3 g4 =>
  rename_i b cap rest
  have hbw:w.heap[b]?=some (.cells (olds++rest).toArray e (0,0)):=hw.own (f:=fun o'=>(b,o')::bs) .here
  have hold:∀ j v,olds[j]?=some v→w.cell? ((⟨b,0,none⟩:Addr).add j)=some v:=fun j v hv=>by
   rw [Kt,bA,Xv hbw,bZ]
   have:j<olds.length:=by rcases ay j olds.length with q | q;exact q;rw [aM q] at hv;cases hv
   rw [if_pos this];exact hv
  by_cases hroom:n+k≤cap
  ·
   have hmul:(n+k)*i.size≤cap*i.size:=bc _ hroom
   rw [aH] at hmul
   have hp:=Yt.mk' (n*i.size) (olds++rest) news (by rw [aK,hs2.len];omega)
   obtain ⟨w',h2,h3⟩:=run_storeCells_at (P:=P) b e news 0 (n*i.size) (olds++rest) _ w hbw h1 hp
   have e1:(olds++rest).take (n*i.size)=olds:=by rw [← g1];simp
   have e2:(olds++rest).drop (n*i.size+news.length)=rest.drop news.length:=by
    rw [← g1,List.drop_append,List.drop_of_length_le (by omega),Nat.add_sub_cancel_left,bW]
   rw [e1,e2] at h3
   have hfc:=Hd (P:=P) (w:=w) hs2.len (hs2.rd.imp id fun⟨a,c,h,h'⟩=>⟨a,c,h,h' w hw⟩)
   refine⟨.slice (some ⟨b,0,none⟩) (n+k) cap,[(b,.cells (olds++news++rest.drop news.length).toArray e (0,0))],w',?_,.some ?_ ?_ hroom g4,?_⟩
   ·have hlen:(eF y).run P w = .ok k w:=by
     rcases hs2.rd with ⟨⟨_,rfl⟩,rfl,_⟩ | ⟨a,c,rfl,_⟩<;>rfl
    simp [bQ,run_underlying (Q8 ht),sizeOf,typeInfo,hi1,hlen,hroom,hfc,Kt,h2]
   ·rw [aK,g1,hs2.len,aH]
   ·rw [aK,fg,hs2.len,g1];omega
   ·exact St.write [] hw h3 (hu' _ _)
  ·rcases hs2.rd with ⟨⟨_,rfl⟩,rfl,rfl⟩ | ⟨a,c,rfl,hrd⟩
   ·exact absurd g3 hroom
   ·have hfit:=growslice_fits (need:=n+k) (old:=cap) (bytes:=i.bytes) (by omega) h47
    have hrun:=run_append_grow (P:=P) (w:=w) t ty e i zv (Q8 ht) hi1 hi4 ⟨b,0,none⟩ n cap olds g1 hold a k c news hs2.len (hrd w hw) (by omega) (by omega) hfit
    have hge:=hcut (n+k) cap h63
    have hl2:(olds++news).length=(n+k)*i.size:=by rw [aK,g1,hs2.len,aH]
    obtain ⟨ob',h2,h3⟩:=new (olds++news) (aG zv.cells (grownCap w (n+k) cap e - (n+k))).toList _ (grownCap w (n+k) cap e) _ hw.drew (bw _ _) rfl hl2 (by rw [hzc,hl2,← aH];congr 1;omega) hge (grownCap_le_maxLen w (n+k) cap e (by simp only [maxLen];omega))
    refine⟨_,ob',_,hrun,h2,?_⟩
    have e1:(olds++news++(aG zv.cells (grownCap w (n+k) cap e - (n+k))).toList).toArray=olds.toArray++news.toArray++aG zv.cells (grownCap w (n+k) cap e - (n+k)):=by apply bV;simp
    rw [e1] at h3;exact h3
theorem Dw {d:Nat} {pos:String} {aft:Array Edge} {t e:ae} {sz bytes n k:Nat} {z:List aa} {g:Bool} {X Y:af} {x y:aa} {olds news:List aa} {ob:List (Nat×Obj)} (hx:ev m X=some x) (hy:ev m Y=some y) (ht:BM P t=some e) (hs:YJ P e=some (g,sz)) (hz:XL P e=some z) (hzl:z.length=sz) (hby:YG P e=some bytes)
  (hr:Qx e sz x n olds ob) (hs2:Src ⟨w0,F0,ob++bs,G⟩ sz y k news) (h63:n+k≤9223372036854775807) (h47:(n+k)*bytes≤140737488355328) (h1:∀ v∈news,v.oneCell'=true)
  (kk:∀ v' ob',Qx e sz v' (n+k) (olds++news) ob'→JS P ops Q l N ((d,v')::m) ⟨w0,F0,ob'++bs,G⟩) (hu:Wc e=true:=by rfl) (hd:J5 N (some d)=true:=by rfl) :
  JS P ops Q (⟨some d,.call ⟨.builtin .append,#[X,Y],#[t,t]⟩,ty,pos,aft,none⟩::l) N m ⟨w0,F0,ob++bs,G⟩:=fun a w ha hw =>
 wpList_plain rfl fun K hK=>by
  obtain ⟨v',ob',w',h2,h3,h4⟩:=Ho (ty:=ty) ht hs hz hzl hby hr hs2 hw h63 h47 h1 hu
  refine upon_value (w':=w') (v:=v') ?_ (hK _ _ (kk v' ob' h3 _ w' (ha.put hd v') h4))
  rw [Yj]
  simp [builtin,ha.ev hx,ha.ev hy,h2]
theorem Dx {d:Nat} {pos:String} {aft:Array Edge} {t e:ae} {sz bytes n k:Nat} {z:List aa} {g:Bool} {X Y:af} {x y:aa} {olds news:List aa} {ob bs0:List (Nat×Obj)} {G0:Gs→Prop} (hx:ev m X=some x) (hy:ev m Y=some y) (ht:BM P t=some e) (hs:YJ P e=some (g,sz)) (hz:XL P e=some z) (hzl:z.length=sz) (hby:YG P e=some bytes)
  (hr:Qx e sz x n olds ob) (hs2:Src ⟨w0,F0,ob++bs,G⟩ sz y k news) (h63:n+k≤9223372036854775807) (h47:(n+k)*bytes≤140737488355328) (h1:∀ v∈news,v.oneCell'=true) (hs0:bs0.Sublist bs) (hg0:∀ F,G F→G0 F)
  (kk:∀ v' ob',Qx e sz v' (n+k) (olds++news) ob'→JD P ops Q ⟨w0,F0,bs0,G0⟩ l N ((d,v')::m) ⟨w0,F0,ob'++bs,G⟩) (hu:Wc e=true:=by rfl) (hd:J5 N (some d)=true:=by rfl) :
  JD P ops Q ⟨w0,F0,bs0,G0⟩ (⟨some d,.call ⟨.builtin .append,#[X,Y],#[t,t]⟩,ty,pos,aft,none⟩::l) N m ⟨w0,F0,ob++bs,G⟩:=fun _ a w ha hw=>by
  obtain ⟨v',ob',w',h2,h3,h4⟩:=Ho (ty:=ty) ht hs hz hzl hby hr hs2 hw h63 h47 h1 hu
  have sub:∀ w',St ⟨w0,F0,ob'++bs,G⟩ w'→St ⟨w0,F0,bs0,G0⟩ w':=fun w' h=>h.imp (hs0.trans (List.sublist_append_right _ _)) hg0
  refine .inr ⟨rfl,?_⟩
  rw [if_pos (by simp [aj])]
  refine upon_value (w':=w') (v:=v') ?_ ⟨sub _ h4,kk v' ob' h3 sub _ w' (ha.put hd v') h4⟩
  rw [Yj]
  simp [builtin,ha.ev hx,ha.ev hy,h2]
def X9 (z:List aa):Nat→List aa
 |0=>[]
 |n+1=>z++X9 z n
theorem Hk (z:List aa):∀ n,(X9 z n).length=n*z.length
 |0=>by simp [X9]
 |n+1=>by rw [X9,aK,Hk z n,aH];omega
theorem Mo (z:List aa):∀ (n j:Nat),j<n*z.length→(X9 z n)[j]?=z[j%z.length]?
 |0,j,h=>by simp at h
 |n+1,j,h=>by
  rw [X9,bZ]
  split
  ·rename_i hj;rw [bD hj]
  ·rename_i hj
   rw [Mo z n _ (by rw [aH,fT] at h;omega)]
   rw [← Nat.mod_eq_sub_mod (by omega)]
theorem VL (v:aa):∀ n,X9 [v] n=az n v
 |0=>rfl
 |n+1=>by rw [X9,VL v n];rfl
theorem SG {z:Array aa} {n:Nat}:madeCells z (n*z.size)=(X9 z.toList n).toArray:=by
 apply bH
 intro j
 simp only [madeCells,List.getElem?_toArray]
 by_cases hj:j<n*z.size
 ·have hz:0<z.size:=by rcases e9 z.size with h | h;rw [h] at hj;simp at hj;exact h
  have hm:=ej j hz
  rw [Mo z.toList n j (by simpa using hj)]
  simp [hj,hm]
 ·have e1:(X9 z.toList n)[j]?=none:=aM (by rw [Hk];simpa using hj)
  rw [e1,ah (by simpa using hj)]
theorem Po {t e:ae} {sz bytes n:Nat} {z:List aa} {g:Bool} {w:ab} {kl:IntKind} (ht:BM P t=some e) (hs:YJ P e=some (g,sz)) (hz:XL P e=some z) (hzl:z.length=sz) (hby:YG P e=some bytes) (h63:(n:Int)≤9223372036854775807) (h48:n*bytes≤281474976710656) :
  (Instr.makeSlice t (.int kl n) (.int kl n)).run P w = .ok (.slice (some ⟨w.heap.size,0,none⟩) n n) (w.alloc (.cells (X9 z n).toArray e)):=by
 have hi:∃ i,P.info? e=some i∧i.size=sz∧i.bytes=bytes∧∃ zv,i.zero=some zv∧zv.cells=z.toArray:=by
  unfold YG at hby;unfold XL at hz;unfold YJ at hs
  cases hie:P.info? e with
  |none=>rw [hie] at hby;cases hby
  |some i =>
   rw [hie] at hby hz hs
   dsimp only at hz hs
   simp only [aS,ao] at hby
   refine⟨i,rfl,?_,hby,?_⟩
   ·split at hs
    ·rename_i h1 h2;cases h2;cases hs;rfl
    ·cases hs
   ·cases hzz:i.zero with
    |none=>rw [hzz] at hz;cases hz
    |some zv=>rw [hzz] at hz;simp only [aS,ao] at hz;exact⟨zv,rfl,by rw [← hz]⟩
 obtain ⟨i,hi1,hi2,hi3,zv,hi4,hi5⟩:=hi
 subst hi3
 have hb:(i.bytes:Int)*(n:Int)≤281474976710656:=by
  have:((n*i.bytes:Nat):Int)≤281474976710656:=by omega
  rw [aX] at this;rw [fP];exact this
 have:=run_make (P:=P) w t e i zv (Q8 ht) hi1 hi4 kl kl n n (by omega) (bM _) hb h63
 rw [this]
 have e2:i.size=zv.cells.size:=by rw [hi5];simp;omega
 simp only [eu,e2,SG,hi5]
theorem PC {d:Nat} {pos:String} {aft:Array Edge} {t e:ae} {sz bytes n:Nat} {z:List aa} {g:Bool} {X Y:af} {kl:IntKind} (hx:ev m X=some (.int kl (n:Int))) (hy:ev m Y=some (.int kl (n:Int))) (ht:BM P t=some e) (hs:YJ P e=some (g,sz)) (hz:XL P e=some z) (hzl:z.length=sz) (hby:YG P e=some bytes) (h63:(n:Int)≤9223372036854775807) (h48:n*bytes≤281474976710656)
  (k:∀ b,JS P ops Q l N ((d,.slice (some ⟨b,0,none⟩) n n)::m) ⟨w0,F0,(b,.cells (X9 z n).toArray e (0,0))::bs,G⟩) (hu:Wc e=true:=by rfl) (hd:J5 N (some d)=true:=by rfl) :
  JS P ops Q (⟨some d,.makeSlice t X Y,ty,pos,aft,none⟩::l) N m ⟨w0,F0,bs,G⟩:=fun a w ha hw =>
 wpList_plain rfl fun _ hK=>upon_value (by
  simp only [execOp,ha.ev hx,ha.ev hy,ar,Po ht hs hz hzl hby h63 h48,aw,aJ]) (hK _ _ (k _ _ _ (ha.put hd _) (hw.alloc _ (Xk hu))))
end
end
section
variable [Dr] [df:Df]
def K5 (P:au) (T:ae):Option (List (Nat×Nat)):=match P.info? T,P.underlying T with
 |some _,some (.struct fields)=>fields.toList.mapM (fun f=>(P.info? f.type).map fun i=>(f.offset,i.size))
 |_,_=>none
inductive Dz (pl:List (Nat×Nat)):List (Nat×aa)→List aa→List aa→Prop
 |nil {l:List aa}:Dz pl [] l l
 |cons {i off sz:Nat} {v:aa} {vs cur cur' res:List aa} {r:List (Nat×aa)} (hf:pl[i]?=some (off,sz)) (hv:v.cells=vs.toArray) (hn:vs.length=sz) (hp:Yt cur off vs cur') (k:Dz pl r cur' res):Dz pl ((i,v)::r) cur res
theorem UE (off:Nat):∀ (vs:List aa) (j:Nat) (cur cur':List aa),Yt cur (off+j) vs cur'→(vs.zipIdx j).foldl (fun cs (x:aa×Nat)=>cs.setIfInBounds (off+x.2) x.1) cur.toArray=cur'.toArray
 |[],j,cur,cur',h=>by have:=h.eq;simp at this;simp [this]
 |v::vs,j,cur,cur',h=>by
  have hle:=h.le
  have hp2:Yt (cur.set (off+j) v) (off+(j+1)) vs cur':=by
   have key:∀ (n:Nat) (cur l':List aa),Yt cur n (v::vs) l'→Yt (cur.set n v) (n+1) vs l':=by
    intro n
    induction n with
    |zero=>intro cur l' h;cases h with | here h=>exact .skip h
    |succ n ih=>intro cur l' h;cases h with | skip h=>exact .skip (ih _ _ h)
   exact key _ _ _ h
  rw [List.zipIdx_cons,eC]
  have:=UE off vs (j+1) _ _ hp2
  simpa using this
theorem Dz.fill {pl:List (Nat×Nat)} {ps:List (Nat×aa)} {cur res:List aa} (h:Dz pl ps cur res):bU (pl.toArray[·]?) cur.toArray ps=some res.toArray:=by
 induction h with
 |nil=>rfl
 |cons hf hv hn hp k ih =>
  rename_i i off sz v vs cur cur' res r
  have hle:=hp.le
  unfold bU
  have e1:pl.toArray[i]?=some (off,sz):=by simpa using hf
  simp only [e1,hv,List.size_toArray,hn,ne_eq,not_true_eq_false,decide_false,fG,decide_eq_true_eq]
  rw [if_neg (by omega)]
  have e2:vs.toArray.zipIdx.foldl (fun cs (x:aa×Nat)=>cs.setIfInBounds (off+x.2) x.1) cur.toArray=cur'.toArray:=by
   have:=UE off vs 0 cur cur' (by simpa using hp)
   rw [← this,← ei];simp
  rw [e2];exact ih
section
variable {P:au} {Q:Exit→Act→ab→Prop} {N:Nat} {m:Sl} {E E0:Env} {ops:Array Oper} {l:List Oper}
theorem VF {ops':Array Oper} {l':List Oper} (h:JS P ops' Q l' N m E):JD P ops (Xl (fun a w=>wpList P ops' Q l' a w)) E0 [] N m E:=fun _=>h
theorem Q3 (h:Fin Q .normal N m E):JD P ops (Xl (Q .normal)) E0 [] N m E:=fun _=>h
theorem Qn {t:Nat} {b:Bool} (h:look m t=some (.bool b)) (ht:b=true→JS P ops Q l N ((t,.bool true)::m) E) (hf:b=false→JS P ops Q l N ((t,.bool false)::m) E):JS P ops Q l N m E:=fun a w ha hw=>by
 cases b with
 |true=>exact ht rfl a w ⟨ha.size,ha.df,fun i v hi=>by
   simp only [look] at hi
   cases hb:bh t i with
   |true=>rw [hb] at hi;have:t=i:=(by simpa using hb);subst this;exact ha.get _ _ (by rw [h];simpa using hi)
   |false=>rw [hb] at hi;exact ha.get _ _ hi⟩ hw
 |false=>exact hf rfl a w ⟨ha.size,ha.df,fun i v hi=>by
   simp only [look] at hi
   cases hb:bh t i with
   |true=>rw [hb] at hi;have:t=i:=(by simpa using hb);subst this;exact ha.get _ _ (by rw [h];simpa using hi)
   |false=>rw [hb] at hi;exact ha.get _ _ hi⟩ hw
theorem Wu {t:Nat} {b:Bool} (h:look m t=some (.bool b)) (ht:b=true→JD P ops Q E0 l N ((t,.bool true)::m) E) (hf:b=false→JD P ops Q E0 l N ((t,.bool false)::m) E):JD P ops Q E0 l N m E:=fun hE a w ha hw=>by
 cases b with
 |true=>exact ht rfl hE a w ⟨ha.size,ha.df,fun i v hi=>by
   simp only [look] at hi
   cases hb:bh t i with
   |true=>rw [hb] at hi;have:t=i:=(by simpa using hb);subst this;exact ha.get _ _ (by rw [h];simpa using hi)
   |false=>rw [hb] at hi;exact ha.get _ _ hi⟩ hw
 |false=>exact hf rfl hE a w ⟨ha.size,ha.df,fun i v hi=>by
   simp only [look] at hi
   cases hb:bh t i with
   |true=>rw [hb] at hi;have:t=i:=(by simpa using hb);subst this;exact ha.get _ _ (by rw [h];simpa using hi)
   |false=>rw [hb] at hi;exact ha.get _ _ hi⟩ hw
section
variable {d:Option Tmp} {o:Op} {ty:ae} {pos:String} {aft:Array Edge} {g t:Nat} {want:Bool}
theorem QL (hg:(ops[g]?).bind (·.dst)=some t) (hb:look m t=some (.bool want)) (ht:JS P ops Q (⟨d,o,ty,pos,aft,none⟩::l) N m E) (hd:J5 N d=true:=by rfl):JS P ops Q (⟨d,o,ty,pos,aft,some (g,want)⟩::l) N m E :=
 pS hg hb (fun _=>ht) (fun h=>by cases want<;>cases h) hd
theorem Ji (hg:(ops[g]?).bind (·.dst)=some t) (hb:look m t=some (.bool want)) (ht:JD P ops Q E0 (⟨d,o,ty,pos,aft,none⟩::l) N m E) (hd:J5 N d=true:=by rfl):JD P ops Q E0 (⟨d,o,ty,pos,aft,some (g,want)⟩::l) N m E :=
 pT hg hb (fun _=>ht) (fun h=>by cases want<;>cases h) hd
theorem QN {d:Nat} {b:Bool} (hg:(ops[g]?).bind (·.dst)=some t) (hb:look m t=some (.bool b)) (hw:b=!want) (hf:JS P ops Q l N ((d,undef)::m) E) (hd:J5 N (some d)=true:=by rfl):JS P ops Q (⟨some d,o,ty,pos,aft,some (g,want)⟩::l) N m E :=
 pS hg hb (fun h=>by subst h;cases b<;>cases hw) (fun _=>hf) hd
theorem JP {d:Nat} {b:Bool} (hg:(ops[g]?).bind (·.dst)=some t) (hb:look m t=some (.bool b)) (hw:b=!want) (hf:JD P ops Q E0 l N ((d,undef)::m) E) (hd:J5 N (some d)=true:=by rfl):JD P ops Q E0 (⟨some d,o,ty,pos,aft,some (g,want)⟩::l) N m E :=
 pT hg hb (fun h=>by subst h;cases b<;>cases hw) (fun _=>hf) hd
end
theorem zr {w0:ab} {F0:Gs} {bs:List (Nat×Obj)} {G:Gs→Prop} {x y:Code} (m':Sl) (bs':List (Nat×Obj)) (G':Gs→Prop) (h1:J P x (Xl (fun a w=>Jx N m' a∧St ⟨w0,F0,bs',G'⟩ w)) N m ⟨w0,F0,bs,G⟩) (h2:J P y Q N m' ⟨w0,F0,bs',G'⟩):J P (.seq x y) Q N m ⟨w0,F0,bs,G⟩:=fun a w ha hw=>by
 refine wp_seq (wp_mono (h1 a w ha hw) ?_)
 intro e a' w' h
 cases e with
 |normal=>exact h2 a' w' h.1 h.2
 |_=>exact h.elim
theorem ZI {m':Sl} {w0:ab} {F0:Gs} {bs bs':List (Nat×Obj)} {G G':Gs→Prop} (hm:KE m m') (hb:bs'.Sublist bs) (hg:∀ F,G F→G' F):Fin (Xl (fun a w=>Jx N m' a∧St ⟨w0,F0,bs',G'⟩ w)) .normal N m ⟨w0,F0,bs,G⟩ :=
 fun a w ha hw=>⟨ha.sub hm,hw.imp hb hg⟩
end
theorem Ky {P:au} {Q:Exit→Act→ab→Prop} {N:Nat} {m:Sl} {ι:Type} {w0:ab} {F0:Gs} {bs:List (Nat×Obj)} {G:Gs→Prop} {x y:Code} (M:ι→Sl) (B:ι→List (Nat×Obj)) (H:ι→Gs→Prop)
  (h1:J P x (Xl (fun a w=>∃ i,Jx N (M i) a∧St ⟨w0,F0,B i,H i⟩ w)) N m ⟨w0,F0,bs,G⟩) (h2:∀ i,J P y Q N (M i) ⟨w0,F0,B i,H i⟩):J P (.seq x y) Q N m ⟨w0,F0,bs,G⟩:=fun a w ha hw=>by
 refine wp_seq (wp_mono (h1 a w ha hw) ?_)
 intro e a' w' h
 cases e with
 |normal=>obtain ⟨i,h3,h4⟩:=h;exact h2 i a' w' h3 h4
 |_=>exact h.elim
theorem J0 {N:Nat} {m:Sl} {ι:Type} {w0:ab} {F0:Gs} {bs:List (Nat×Obj)} {G:Gs→Prop} {M:ι→Sl} {B:ι→List (Nat×Obj)} {H:ι→Gs→Prop} (i:ι) (hm:KE m (M i)) (hb:(B i).Sublist bs) (hg:∀ F,G F→H i F) :
  Fin (Xl (fun a w=>∃ i,Jx N (M i) a∧St ⟨w0,F0,B i,H i⟩ w)) .normal N m ⟨w0,F0,bs,G⟩:=fun a w ha hw=>⟨i,ha.sub hm,hw.imp hb hg⟩
inductive FD:Sl→Sl→Prop
 |refl {m:Sl}:FD m m
 |cons {k:Nat} {v:aa} {l m:Sl} (hk:(look m k).isNone=true) (h:FD l m):FD ((k,v)::l) m
theorem FD.look {l m:Sl} (h:FD l m) {t:Nat} {u:aa} (hu:YtknegjaeoffnbaaGreatDoor.look m t=some u):YtknegjaeoffnbaaGreatDoor.look l t=some u:=by
 induction h with
 |refl=>exact hu
 |cons hk h ih =>
  rename_i k v l m
  have hne:bh k t=false:=by
   cases hb:bh k t with
   |false=>rfl
   |true=>have:k=t:=(by simpa using hb);subst this;rw [hu] at hk;cases hk
  simp only [YtknegjaeoffnbaaGreatDoor.look,hne,cond_false]
  exact ih hu
section
variable {P:au} {Q:Exit→Act→ab→Prop} {N:Nat} {m l:Sl} {w0:ab} {F0:Gs} {bs bs1:List (Nat×Obj)} {G G1:Gs→Prop} {x y:Code}
theorem VZ (t:Nat) (v:aa) (h1:J P x (Xl (fun a w=>Jx N ((t,v)::m) a∧St ⟨w0,F0,bs,G⟩ w)) N m ⟨w0,F0,bs,G⟩) (h2:J P y Q N ((t,v)::m) ⟨w0,F0,bs,G⟩):J P (.seq x y) Q N m ⟨w0,F0,bs,G⟩:=zr _ _ _ h1 h2
theorem Js {t:Nat} {v:aa} (he:FD l m) (ht:look l t=some v) (hb:bs.Sublist bs1) (hg:∀ F,G1 F→G F):Fin (Xl (fun a w=>Jx N ((t,v)::m) a∧St ⟨w0,F0,bs,G⟩ w)) .normal N l ⟨w0,F0,bs1,G1⟩:=fun a w ha hw =>
 ⟨⟨ha.size,ha.df,fun i u hi=>by
  simp only [look] at hi
  cases hb:bh t i with
  |true=>rw [hb] at hi;have:t=i:=(by simpa using hb);subst this;exact ha.get _ _ (by rw [ht];simpa using hi)
  |false=>rw [hb] at hi;exact ha.get _ _ (he.look (by simpa using hi))⟩,hw.imp hb hg⟩
end
section
variable {P:au} {N:Nat} {m:Sl} {S:ab→Prop} {ty:ae} {v:aa}
theorem Qi {c x y:af} (hc:ev m c=some (.bool true)) (hx:ev m x=some v) (hy:(ev m y).isSome=true):Qt P N m S (.pick c x y) ty v:=by
 obtain ⟨u,hu⟩:=Option.isSome_iff_exists.1 hy
 exact OX hc hx hu
theorem Qh {c x y:af} (hc:ev m c=some (.bool false)) (hx:(ev m x).isSome=true) (hy:ev m y=some v):Qt P N m S (.pick c x y) ty v:=by
 obtain ⟨u,hu⟩:=Option.isSome_iff_exists.1 hx
 exact OX hc hu hy
theorem yQ {T yT:ae} {x y:af} {a:Int} (hx:ev m x=some (.int .i64 a)) (hy:ev m y=some (.int .i64 1)) (h:0≤a):Qt P N m S (.binOp .and T x y yT) ty (.int .i64 (a%2)):=fun s w _ _ _ _ ha _=>by
 have e:IntKind.i64.wrap (((aR 64 a &&& aR 64 1).toNat:Nat):Int)=a%2:=by
  have h1:(aR 64 (1:Int)).toNat=1:=rfl
  rw [BitVec.toNat_and,h1,Nat.and_one_is_mod,BitVec.toNat_ofInt]
  have h2:((((a%((2^64:Nat):Int)).toNat%2:Nat)):Int)=a%2:=by
   have h3:(((2^64:Nat):Int))=18446744073709551616:=by decide
   rw [h3];omega
  rw [h2];exact T7 (by omega)
 have h1:aR 64 (1:Int)=1#64:=rfl
 rw [h1] at e
 simp [execOp,ha.ev hx,ha.ev hy,eqGuard,binOp,fm,bO]
 exact e
theorem OU {T yT:ae} {x y:af} {k:IntKind} {a:Int} (hx:ev m x=some (.int .i64 a)) (hy:ev m y=some (.int k 1)):Qt P N m S (.binOp .shr T x y yT) ty (.int .i64 (a / 2)):=fun s w _ _ _ _ ha _=>by
 have e:a.fdiv 2=a / 2:=Int.fdiv_eq_ediv_of_nonneg a (by decide)
 simp [execOp,ha.ev hx,ha.ev hy,eqGuard,binOp,fJ,bO,e]
theorem WB {T e yT:ae} {x y:af} {q:Option Addr} {n c:Nat} (hx:ev m x=some (.slice q n c)) (hy:ev m y=some (.slice none 0 0)) (hT:BM P T=some e):Qt P N m S (.binOp .eql T x y yT) ty (.bool q.isNone):=fun a w _ _ _ _ ha _=>by
 have:=bY (P:=P) w T e q n c 0 0 (Q8 hT)
 simp [execOp,ha.ev hx,ha.ev hy,eqGuard,this]
theorem Q7 {T:ae} {parts:Array (Nat×af)} {ps:List (Nat×aa)} {pl:List (Nat×Nat)} {z res:List aa} (hp:Vz m parts.toList=some ps) (hl:K5 P T=some pl) (hz:XL P T=some z) (hb:Dz pl ps z res):Qt P N m S (.build T parts) ty (.agg res.toArray):=fun a w _ _ _ _ ha _=>by
 have hbt:P.built T ps=some res.toArray:=by
  unfold K5 at hl;unfold XL at hz
  unfold Program.built
  cases hi:P.info? T with
  |none=>rw [hi] at hl;cases hl
  |some i =>
   rw [hi] at hl hz
   cases hu:P.underlying T with
   |none=>rw [hu] at hl;cases hl
   |some d =>
    rw [hu] at hl
    cases d with
    |struct fields =>
     dsimp only at hl hz ⊢
     cases hzz:i.zero with
     |none=>rw [hzz] at hz;cases hz
     |some zv =>
      rw [hzz] at hz
      simp only [aS,ao] at hz
      rw [hl]
      have:=hb.fill
      rw [← hz] at this
      simpa using this
    |_=>cases hl
 have e1:(parts.map fun(i,x)=>(i,a.eval x)).toList=ps:=by simpa using ha.parts hp
 have:=run_build (P:=P) w T (parts.map fun(i,x)=>(i,a.eval x)) _ (by rw [e1];exact hbt)
 simp only [execOp,ar,this,aw,aJ]
end
end
def extB (n:Nat) (l:Sl):Bool:=(l.take n).all fun kv=>(look (l.drop n) kv.1).isNone
theorem exd (n:Nat) {l m:Sl} (hb:extB n l=true) (hm:l.drop n=m):FD l m:=by
 subst hm
 unfold extB at hb
 have key:∀ (a m:Sl),(a.all fun kv=>(look m kv.1).isNone)=true→FD (a++m) m:=by
  intro a m
  induction a with
  |nil=>intro _;exact .refl
  |cons x a ih =>
   intro h
   rw [List.all_cons,bC] at h
   exact .cons h.1 (ih h.2)
 have:=key _ _ hb
 rwa [eQ] at this
theorem wH [Dr] {P:au} {N:Nat} {m:Sl} {w0:ab} {F0:Gs} {fn:Func} {val:Unit→aa} {fact:Unit→Gs→Prop} {bs:List (Nat×Obj)} {G:Gs→Prop} {t:Tmp} {v:aa} (hrs:fn.results=[ResultVar.tmp t].toArray) (h:look m t=some v) (hv:val ()=v) (hg:∀ F,G F→fact () F):Fin (df:=VJ) (bodyPost P fn (DR w0 F0 val fact)) .ret N m ⟨w0,F0,bs,G⟩ :=
 QP () hrs (.tmp h .nil) hv hg
theorem DJ.u1 {x0:Nat×Obj} {b:Nat} {o:Obj} {r:List (Nat×Obj)}:DJ (x0::(b,o)::r) b o (fun o'=>x0::(b,o')::r) (x0::r):=.there (.here)
theorem DJ.u2 {x0 x1:Nat×Obj} {b:Nat} {o:Obj} {r:List (Nat×Obj)}:DJ (x0::x1::(b,o)::r) b o (fun o'=>x0::x1::(b,o')::r) (x0::x1::r):=.there (.there (.here))
theorem DJ.u3 {x0 x1 x2:Nat×Obj} {b:Nat} {o:Obj} {r:List (Nat×Obj)}:DJ (x0::x1::x2::(b,o)::r) b o (fun o'=>x0::x1::x2::(b,o')::r) (x0::x1::x2::r):=.there (.there (.there (.here)))
theorem DJ.u4 {x0 x1 x2 x3:Nat×Obj} {b:Nat} {o:Obj} {r:List (Nat×Obj)}:DJ (x0::x1::x2::x3::(b,o)::r) b o (fun o'=>x0::x1::x2::x3::(b,o')::r) (x0::x1::x2::x3::r):=.there (.there (.there (.there (.here))))
theorem DJ.u5 {x0 x1 x2 x3 x4:Nat×Obj} {b:Nat} {o:Obj} {r:List (Nat×Obj)}:DJ (x0::x1::x2::x3::x4::(b,o)::r) b o (fun o'=>x0::x1::x2::x3::x4::(b,o')::r) (x0::x1::x2::x3::x4::r):=.there (.there (.there (.there (.there (.here)))))
theorem DJ.u6 {x0 x1 x2 x3 x4 x5:Nat×Obj} {b:Nat} {o:Obj} {r:List (Nat×Obj)}:DJ (x0::x1::x2::x3::x4::x5::(b,o)::r) b o (fun o'=>x0::x1::x2::x3::x4::x5::(b,o')::r) (x0::x1::x2::x3::x4::x5::r):=.there (.there (.there (.there (.there (.there (.here))))))
theorem Qp:YJ Tryz.prog 3=some (false,1):=by kernel_rfl
theorem Vv:XL Tryz.prog 3=some [.int .i64 0]:=by kernel_rfl
theorem Dp:YG Tryz.prog 3=some 8:=by kernel_rfl
theorem k_3:RD Tryz.prog 3=some .i64:=by kernel_rfl
theorem gW:(Tryz.prog.underlying 3).isSome=true:=by kernel_rfl
theorem WR:YJ Tryz.prog 4=some (false,1):=by kernel_rfl
theorem Lx:YJ Tryz.prog 5=some (false,1):=by kernel_rfl
theorem z_5:XL Tryz.prog 5=some [.int .u8 0]:=by kernel_rfl
theorem cw:YG Tryz.prog 5=some 1:=by kernel_rfl
theorem gV:(Tryz.prog.underlying 5).isSome=true:=by kernel_rfl
theorem qV:YJ Tryz.prog 9=some (false,1):=by kernel_rfl
theorem z_9:XL Tryz.prog 9=some [.string .empty]:=by kernel_rfl
theorem ct:YG Tryz.prog 9=some 16:=by kernel_rfl
theorem Xp:Gu Tryz.prog 9=true:=by kernel_rfl
theorem Jo:YJ Tryz.prog 22=some (false,1):=by kernel_rfl
theorem vW:XL Tryz.prog 22=some [.string .empty]:=by kernel_rfl
theorem JU:YJ Tryz.prog 24=some (true,2):=by kernel_rfl
theorem Zy:XL Tryz.prog 24=some [.string .empty,.string .empty]:=by kernel_rfl
theorem Y8:K5 Tryz.prog 24=some [(0,1),(1,1)]:=by kernel_rfl
theorem WK:W6 Tryz.prog 24 0=some (0,22):=by kernel_rfl
theorem Wh:W6 Tryz.prog 24 1=some (1,22):=by kernel_rfl
theorem Y7:YJ Tryz.prog 26=some (false,1):=by kernel_rfl
theorem BO:XL Tryz.prog 26=some [.int .i64 0]:=by kernel_rfl
theorem GC:BM Tryz.prog 42=some 24:=by kernel_rfl
theorem E4:BM Tryz.prog 44=some 22:=by kernel_rfl
theorem Mt:YJ Tryz.prog 52=some (false,1):=by kernel_rfl
theorem zz:XL Tryz.prog 52=some [.slice none 0 0]:=by kernel_rfl
theorem Xq:BM Tryz.prog 52=some 122:=by kernel_rfl
theorem D9:BM Tryz.prog 59=some 52:=by kernel_rfl
theorem Qv:YJ Tryz.prog 120=some (false,1):=by kernel_rfl
theorem Qf:BM Tryz.prog 120=some 3:=by kernel_rfl
theorem XT:YJ Tryz.prog 122=some (true,2):=by kernel_rfl
theorem Xm:XL Tryz.prog 122=some [.string .empty,.slice none 0 0]:=by kernel_rfl
theorem kO:YG Tryz.prog 122=some 40:=by kernel_rfl
theorem ZW:K5 Tryz.prog 122=some [(0,1),(1,1)]:=by kernel_rfl
theorem Wi:W6 Tryz.prog 122 0=some (0,22):=by kernel_rfl
theorem Yz:W6 Tryz.prog 122 1=some (1,120):=by kernel_rfl
theorem Km:YJ Tryz.prog 126=some (false,1):=by kernel_rfl
theorem Ye:BM Tryz.prog 126=some 248:=by kernel_rfl
theorem QY:YJ Tryz.prog 128=some (true,2):=by kernel_rfl
theorem Ze:XL Tryz.prog 128=some [.int .i64 0,.slice none 0 0]:=by kernel_rfl
theorem yW:K5 Tryz.prog 128=some [(0,1),(1,1)]:=by kernel_rfl
theorem B0:W6 Tryz.prog 128 0=some (0,3):=by kernel_rfl
theorem G7:W6 Tryz.prog 128 1=some (1,126):=by kernel_rfl
theorem Qe:YJ Tryz.prog 130=some (true,4):=by kernel_rfl
theorem Xs:XL Tryz.prog 130=some [.int .i64 0,.slice none 0 0,.int .i64 0,.slice none 0 0]:=by kernel_rfl
theorem H9:K5 Tryz.prog 130=some [(0,2),(2,2)]:=by kernel_rfl
theorem ZS:W6 Tryz.prog 130 0=some (0,128):=by kernel_rfl
theorem ZR:W6 Tryz.prog 130 1=some (2,128):=by kernel_rfl
theorem Jq:YJ Tryz.prog 138=some (true,8):=by kernel_rfl
theorem ZU:XL Tryz.prog 138=some [.int .i64 0,.slice none 0 0,.int .i64 0,.slice none 0 0,.int .i64 0,.slice none 0 0,.int .i64 0,.slice none 0 0]:=by kernel_rfl
theorem R3:K5 Tryz.prog 138=some [(0,4),(4,4)]:=by kernel_rfl
theorem Zk:W6 Tryz.prog 138 0=some (0,130):=by kernel_rfl
theorem Zw:W6 Tryz.prog 138 1=some (4,130):=by kernel_rfl
theorem JW:YJ Tryz.prog 143=some (true,2):=by kernel_rfl
theorem Yw:XL Tryz.prog 143=some [.bool false,.slice none 0 0]:=by kernel_rfl
theorem On:K5 Tryz.prog 143=some [(0,1),(1,1)]:=by kernel_rfl
theorem Ki:W6 Tryz.prog 143 0=some (0,4):=by kernel_rfl
theorem YF:W6 Tryz.prog 143 1=some (1,120):=by kernel_rfl
theorem WS:YJ Tryz.prog 157=some (false,1):=by kernel_rfl
theorem Lq:XL Tryz.prog 157=some [.slice none 0 0]:=by kernel_rfl
theorem kN:YG Tryz.prog 157=some 24:=by kernel_rfl
theorem J6:BM Tryz.prog 157=some 165:=by kernel_rfl
theorem GP:YJ Tryz.prog 160=some (true,25):=by kernel_rfl
theorem FF:XL Tryz.prog 160=some [.int .i64 0,.int .i64 0,.int .i64 0,.int .i64 0,.int .i64 0,.int .i64 0,.int .i64 0,.int .i64 0,.int .i64 0,.int .i64 0,.int .i64 0,.int .i64 0,.int .i64 0,.int .i64 0,.int .i64 0,.int .i64 0,.int .i64 0,.int .i64 0,.int .i64 0,.int .i64 0,.int .i64 0,.int .i64 0,.int .i64 0,.int .i64 0,.int .i64 0]:=by kernel_rfl
theorem Je:YJ Tryz.prog 165=some (true,5):=by kernel_rfl
theorem Zl:XL Tryz.prog 165=some [.int .i64 0,.slice none 0 0,.int .i64 0,.slice none 0 0,.slice none 0 0]:=by kernel_rfl
theorem Aw:YG Tryz.prog 165=some 88:=by kernel_rfl
theorem NH:K5 Tryz.prog 165=some [(0,4),(4,1)]:=by kernel_rfl
theorem Z0:W6 Tryz.prog 165 0=some (0,130):=by kernel_rfl
theorem X8:W6 Tryz.prog 165 1=some (4,120):=by kernel_rfl
theorem DW:BM Tryz.prog 173=some 157:=by kernel_rfl
theorem W2:BM Tryz.prog 180=some 130:=by kernel_rfl
theorem Zn:BM Tryz.prog 213=some 26:=by kernel_rfl
theorem zJ:RD Tryz.prog 232=some .u64:=by kernel_rfl
theorem Mu:YJ Tryz.prog 248=some (false,1):=by kernel_rfl
theorem gS:XL Tryz.prog 248=some [.int .u64 0]:=by kernel_rfl
theorem Rm:BM Tryz.prog 278=some 9:=by kernel_rfl
theorem DS:YJ Tryz.prog 281=some (false,1):=by kernel_rfl
theorem GO:YJ Tryz.prog 282=some (false,1):=by kernel_rfl
theorem AD:BM Tryz.prog 282=some 5:=by kernel_rfl
theorem xK:XL Tryz.prog 284=some [.pointer none,.slice none 0 0]:=by kernel_rfl
theorem SX:W6 Tryz.prog 284 0=some (0,281):=by kernel_rfl
theorem MH:W6 Tryz.prog 284 1=some (1,282):=by kernel_rfl
theorem mixed:Tryz.prog.follows .mixedOrders=true:=by kernel_rfl
end Go.Proofs.YtknegjaeoffnbaaGreatDoor
namespace Ig
def dv (b:Int):List Int→Int
 |[]=>0
 |x::l=>x+b*dv b l
def DG (b:Int) (l:List Int):Prop:=∀ x∈l,0≤x∧x<b
def NZ (l:List Int):Prop:=l.getLast?≠some 0
@[simp] theorem UG (b:Int):dv b []=0:=rfl
@[simp] theorem Ya (b x:Int) (l:List Int):dv b (x::l)=x+b*dv b l:=rfl
theorem ZY (b:Int) (l m:List Int):dv b (l++m)=dv b l+b^l.length*dv b m:=by
 induction l with
 |nil=>simp
 |cons x l ih=>simp only [fi,Ya,ih,aP];rw [aO];grind
theorem XS (b x:Int) (l:List Int):dv b (l++[x])=dv b l+b^l.length*x:=by
 rw [ZY];simp
theorem DG.nil (b:Int):DG b []:=by intro x hx;cases hx
theorem DG.cons {b x:Int} {l:List Int} (h0:0≤x) (h1:x<b) (h:DG b l):DG b (x::l):=by
 intro y hy;rcases List.mem_cons.1 hy with rfl | hy
 ·exact⟨h0,h1⟩
 ·exact h y hy
theorem DG.head {b x:Int} {l:List Int} (h:DG b (x::l)):0≤x∧x<b:=h x (by simp)
theorem DG.tail {b x:Int} {l:List Int} (h:DG b (x::l)):DG b l:=fun y hy=>h y (by simp [hy])
theorem DG.append {b:Int} {l m:List Int} (h:DG b l) (k:DG b m):DG b (l++m):=by
 intro x hx;rcases List.mem_append.1 hx with hx | hx
 ·exact h x hx
 ·exact k x hx
theorem DG.left {b:Int} {l m:List Int} (h:DG b (l++m)):DG b l:=fun x hx=>h x (by simp [hx])
theorem DG.right {b:Int} {l m:List Int} (h:DG b (l++m)):DG b m:=fun x hx=>h x (by simp [hx])
theorem DG.take {b:Int} {l:List Int} (h:DG b l) (n:Nat):DG b (l.take n):=fun x hx=>h x (List.mem_of_mem_take hx)
theorem DG.drop {b:Int} {l:List Int} (h:DG b l) (n:Nat):DG b (l.drop n):=fun x hx=>h x (List.mem_of_mem_drop hx)
theorem DG.replicate {b:Int} (hb:0<b) (n:Nat):DG b (az n 0):=by
 intro x hx;have:=List.eq_of_mem_replicate hx;omega
theorem DG.getD {b:Int} {l:List Int} (hb:0<b) (h:DG b l) (i:Nat):0≤l.getD i 0∧l.getD i 0<b:=by
 by_cases hi:i<l.length
 ·have:l.getD i 0=l[i]:=by simp [bn,hi]
  rw [this];exact h _ (fh hi)
 ·have:l.getD i 0=0:=by simp [bn,hi]
  omega
theorem DG.set {b:Int} {l:List Int} (h:DG b l) (i:Nat) {x:Int} (h0:0≤x) (h1:x<b):DG b (l.set i x):=by
 intro y hy;rcases List.mem_or_eq_of_mem_set hy with hy | rfl
 ·exact h y hy
 ·exact⟨h0,h1⟩
theorem pow_pos {b:Int} (hb:0<b) (n:Nat):0<b^n:=Int.pow_pos hb
theorem ZV {b:Int} (hb:1≤b) {m n:Nat} (h:m≤n):b^m≤b^n:=by
 obtain ⟨k,rfl⟩:=Nat.exists_eq_add_of_le h
 rw [fV]
 have h1:=pow_pos (b:=b) (by omega) m
 have h2:=pow_pos (b:=b) (by omega) k
 have h3:b^m*1≤b^m*b^k:=ak (by omega) (by omega)
 omega
theorem Qu {b:Int} (hb:0<b):∀ {l:List Int},DG b l→0≤dv b l
 |[],_=>by simp
 |x::l,h=>by
  have:=Qu hb h.tail
  have:=aQ (ew hb) this
  have:=h.head;simp;omega
theorem YB {b:Int} (hb:0<b):∀ {l:List Int},DG b l→dv b l<b^l.length
 |[],_=>by simp
 |x::l,h=>by
  have h1:=YB hb h.tail
  have h2:=h.head
  have h3:b*(dv b l+1)≤b*b^l.length:=ak (by omega) (ew hb)
  rw [aP,aO,fP (b^l.length) b]
  rw [fX] at h3
  simp;omega
theorem No (b:Int) (n:Nat):dv b (az n 0)=0:=by
 induction n with
 |zero=>rfl
 |succ n ih=>simp [eb,ih]
theorem KZ (b:Int) (l:List Int) (n:Nat) (h:n≤l.length):dv b l=dv b (l.take n)+b^n*dv b (l.drop n):=by
 have:=ZY b (l.take n) (l.drop n)
 rw [eQ,aq,aU h] at this;exact this
theorem V9 {α:Type} (l:List α) (n:Nat) (h:n<l.length):l.take (n+1)=l.take n++[l[n]]:=by
 rw [List.take_succ_eq_append_getElem h]
theorem Wj (b:Int) (l:List Int) (n:Nat) (h:n<l.length):dv b (l.take (n+1))=dv b (l.take n)+b^n*l[n]:=by
 rw [V9 l n h,XS,aq,aU (by omega)]
theorem B3 {b:Int} (hb:0<b) {l:List Int} (h:DG b l) (hn:NZ l) (hl:l≠[]):b^(l.length - 1)≤dv b l:=by
 obtain ⟨m,x,rfl⟩:∃ m x,l=m++[x]:=⟨l.dropLast,l.getLast hl,(List.dropLast_concat_getLast hl).symm⟩
 rw [XS]
 have h1:x≠0:=by intro e;subst e;exact hn (by simp)
 have h2:=h x (by simp)
 have h3:=Qu hb h.left
 have h4:=pow_pos hb m.length
 have h5:b^m.length*1≤b^m.length*x:=ak (by omega) (by omega)
 simp;omega
def Q4 (l:List Int):List Int:=(l.reverse.dropWhile (·==0)).reverse
theorem YY (l:List Int):Q4 (l++[0])=Q4 l:=by simp [Q4]
theorem VN (l:List Int) {x:Int} (h:x≠0):Q4 (l++[x])=l++[x]:=by simp [Q4,h]
theorem Pf:Q4 []=[]:=rfl
theorem M4 (l:List Int):l=[]∨∃ m x,l=m++[x]:=by
 by_cases hl:l=[]
 ·exact .inl hl
 ·exact .inr ⟨l.dropLast,l.getLast hl,(List.dropLast_concat_getLast hl).symm⟩
theorem TC {P:List Int→Prop} (h0:P []) (h1:∀ l x,P l→P (l++[x])) (l:List Int):P l:=by
 have:∀ m:List Int,P m.reverse:=by
  intro m;induction m with
  |nil=>exact h0
  |cons x m ih=>rw [List.reverse_cons];exact h1 _ _ ih
 simpa using this l.reverse
theorem Mw (l:List Int):∃ n,l=Q4 l++az n 0:=by
 induction l using TC with
 |h0=>exact⟨0,rfl⟩
 |h1 l x ih =>
  by_cases hx:x=0
  ·subst hx;obtain ⟨n,hn⟩:=ih
   refine⟨n+1,?_⟩
   rw [YY,List.replicate_succ',← ep,← hn]
  ·exact⟨0,by rw [VN l hx];simp⟩
theorem H2 (l:List Int):Q4 l=l.take (Q4 l).length:=by
 obtain ⟨n,hn⟩:=Mw l
 have:l.take (Q4 l).length=(Q4 l++az n 0).take (Q4 l).length:=by rw [← hn]
 rw [this];simp
theorem Xz (l:List Int):(Q4 l).length≤l.length:=by
 obtain ⟨n,hn⟩:=Mw l
 have:=congrArg List.length hn;simp at this;omega
theorem XG (b:Int) (l:List Int):dv b (Q4 l)=dv b l:=by
 obtain ⟨n,hn⟩:=Mw l
 have:dv b l=dv b (Q4 l++az n 0):=by rw [← hn]
 rw [this,ZY,No];simp
theorem Xi (l:List Int):NZ (Q4 l):=by
 induction l using TC with
 |h0=>simp [Pf,NZ]
 |h1 l x ih =>
  by_cases hx:x=0
  ·subst hx;rw [YY];exact ih
  ·rw [VN l hx];simp [NZ,hx]
theorem DG.Q4 {b:Int} {l:List Int} (h:DG b l):DG b (Q4 l):=by rw [H2];exact h.take _
theorem xO {l:List Int} (h:NZ l):Q4 l=l:=by
 rcases M4 l with rfl | ⟨m,x,rfl⟩
 ·rfl
 ·exact VN m (by intro e;subst e;exact h (by simp))
theorem Np {b:Int} (hb:0<b):∀ {l m:List Int},DG b l→DG b m→l.length=m.length→dv b l=dv b m→l=m
 |[],[],_,_,_,_=>rfl
 |x::l,y::m,h,k,hl,e=>by
  have h1:=h.head;have h2:=k.head
  simp only [Ya] at e
  have e1:x=y:=by
   have a1:(x+b*dv b l)%b=x:=by rw [Int.add_mul_emod_self_left];exact bN h1.1 h1.2
   have a2:(y+b*dv b m)%b=y:=by rw [Int.add_mul_emod_self_left];exact bN h2.1 h2.2
   rw [← a1,← a2,e]
  subst e1
  have e2:b*dv b l=b*dv b m:=by omega
  have e3:=Int.eq_of_mul_eq_mul_left (by omega) e2
  rw [Np hb h.tail k.tail (by simpa using hl) e3]
theorem Xa {b:Int} (hb:1<b) {l m:List Int} (h:DG b l) (k:DG b m) (km:NZ m) (hl:l.length<m.length):dv b l<dv b m:=by
 have h1:=YB (by omega) h
 have h2:=B3 (by omega) k km (by intro e;subst e;simp at hl)
 have h3:b^l.length≤b^(m.length - 1):=ZV (by omega) (by omega)
 omega
theorem jr {b:Int} (hb:1<b) {l m:List Int} (h:DG b l) (k:DG b m) (hn:NZ l) (kn:NZ m) (e:dv b l=dv b m):l=m:=by
 refine Np (by omega) h k ?_ e
 rcases ff l.length m.length with g | g | g
 ·have:=Xa hb h k kn g;omega
 ·exact g
 ·have:=Xa hb k h hn g;omega
theorem Y0 {b:Int} (hb:1<b) {l:List Int} (h:DG b l) (hn:NZ l):dv b l=0↔l=[]:=by
 constructor
 ·intro e;exact jr hb h (DG.nil b) hn (by simp [NZ]) (by simpa using e)
 ·rintro rfl;rfl
def kK:List Int→List Int→Int
 |x::l,y::m=>if x=y then kK l m else if x<y then -1 else 1
 |_,_=>0
def E7 (x:Int):Int:=if x<0 then -1 else if x=0 then 0 else 1
def Zd (x y:Int):Int:=if x<y then -1 else if x=y then 0 else 1
theorem Ce (x y:Int):Zd x y=E7 (x - y):=by unfold Zd E7;split<;>split<;>(try split)<;>omega
theorem An {b:Int} (hb:0<b) {l m:List Int} {x y:Int} (h:DG b l) (k:DG b m) (hl:l.length=m.length) (hxy:x<y) :
  dv b (l++[x])<dv b (m++[y]):=by
 rw [XS,XS,hl]
 have h1:=YB hb h;have h2:=Qu hb k
 rw [hl] at h1
 have h3:b^m.length*(x+1)≤b^m.length*y:=ak (by omega) (ew (pow_pos hb _))
 rw [fX] at h3;omega
theorem Sf {b:Int} (hb:0<b) {l m:List Int} (h:DG b l) (k:DG b m) (hl:l.length=m.length) (n:Nat) (hn:n<l.length)
  (hs:l.drop (n+1)=m.drop (n+1)) (hxy:l[n]<m[n]'(by omega)):dv b l<dv b m:=by
 rw [KZ b l (n+1) (by omega),KZ b m (n+1) (by omega),hs,V9 l n hn,V9 m n (by omega)]
 have:=An hb (h.take n) (k.take n) (by simp;omega) hxy
 omega
end Ig
namespace Go.Proofs.YtknegjaeoffnbaaGreatDoor
open Go.RowKit Ig
def W:Int:=18446744073709551616
theorem Wl:W=18446744073709551616:=rfl
theorem Jn:0<W:=by decide
theorem Ex:1<W:=by decide
def Yh (w:ab) (s:Int) (q:Option Addr) (n cap:Nat) (z:Int):Prop :=
 (q=none∧n=0∧cap=0∧s=z∧-9223372036854775808≤z∧z≤9223372036854775807) ∨
 ∃ (b off:Nat) (l:List Int),q=some ⟨b,off,none⟩∧n=l.length∧l.length≤cap∧(cap:Int)≤9223372036854775807∧Cells w q Jc l ∧
  DG W l∧NZ l∧l≠[]∧(s=1∨s = -1)∧z=s*dv W l∧9223372036854775808≤dv W l
def XQ (w:ab) (v:aa) (z:Int):Prop:=∃ s q n cap,v = .agg #[.int .i64 s,.slice q n cap]∧Yh w s q n cap z
theorem Yh.ext {w w':ab} (h:Ext w w') {s:Int} {q:Option Addr} {n cap:Nat} {z:Int} (hv:Yh w s q n cap z):Yh w' s q n cap z:=by
 rcases hv with hv | ⟨b,off,l,h1,h2,h3,h4,h5,h6⟩
 ·exact .inl hv
 ·exact .inr ⟨b,off,l,h1,h2,h3,h4,h5.ext h,h6⟩
theorem XQ.ext {w w':ab} (h:Ext w w') {v:aa} {z:Int} (hv:XQ w v z):XQ w' v z:=by
 obtain ⟨s,q,n,cap,rfl,hp⟩:=hv;exact⟨s,q,n,cap,rfl,hp.ext h⟩
theorem XQ.small (w:ab) {z:Int} (h0 : -9223372036854775808≤z) (h1:z≤9223372036854775807):XQ w (.agg #[.int .i64 z,.slice none 0 0]) z :=
 ⟨z,none,0,0,rfl,.inl ⟨rfl,rfl,rfl,rfl,h0,h1⟩⟩
def ZP (w:ab) (R:aa→ab→Prop) (e:Ending) (w':ab):Prop:=∃ v,e = .returned v∧R v w'∧Ext w w'
def Jk (z:Int):Int:=if z<0 then -z else z
theorem Bv {z:Int} (h:z<0):Jk z = -z:=if_pos h
theorem WJ {z:Int} (h:0≤z):Jk z=z:=if_neg (by omega)
theorem KR (z:Int):Jk z=z.natAbs:=by unfold Jk;split<;>omega
def sg (neg:Bool) (n:Int):Int:=if neg then -n else n
theorem CD (neg:Bool) (q:Option Addr) (cap:Nat) (w:ab) :
  Calls Tryz.prog 235 #[.bool neg,.slice q 0 cap] w fun e w'=>ZP w (fun v w'=>XQ w' v 0) e w':=by
 go_enter Tryz.func235,Tryz.ntmps235
 go_wp2
 exact bodyPost_ret (v:=.agg #[.int .i64 0,.slice none 0 0]) (by simp [results,Tryz.results235,go_sem]) rfl ⟨_,rfl,XQ.small _ (by decide) (by decide),(Ext.refl _).alloc _⟩
theorem CC (neg:Bool) (b off cap:Nat) (x:Int) (w:ab) (hc:w.cell? ⟨b,off,none⟩=some (.int .u64 x)) (h0:0≤x) (h1:x≤9223372036854775807) (hb:b<w.heap.size) :
  Calls Tryz.prog 235 #[.bool neg,.slice (some ⟨b,off,none⟩) 1 cap] w fun e w'=>ZP w (fun v w'=>XQ w' v (sg neg x)) e w':=by
 cases neg
 ·go_enter Tryz.func235,Tryz.ntmps235
  go_wp2
  exact bodyPost_ret (v:=.agg #[.int .i64 x,.slice none 0 0]) (by simp [results,Tryz.results235,go_sem]) rfl ⟨_,rfl,XQ.small _ (by omega) (by omega),(Ext.refl _).alloc _⟩
 ·go_enter Tryz.func235,Tryz.ntmps235
  go_wp2
  exact bodyPost_ret (v:=.agg #[.int .i64 (-x),.slice none 0 0]) (by simp [results,Tryz.results235,go_sem]) rfl ⟨_,rfl,XQ.small _ (by omega) (by omega),(Ext.refl _).alloc _⟩
theorem Io (neg:Bool) (b off cap:Nat) (x:Int) (w:ab) (hc:w.cell? ⟨b,off,none⟩=some (.int .u64 x)) (h1:9223372036854775808≤x) (hb:b<w.heap.size) :
  Calls Tryz.prog 235 #[.bool neg,.slice (some ⟨b,off,none⟩) 1 cap] w fun e w'=>e = .returned (.agg #[.int .i64 (if neg then -1 else 1),.slice (some ⟨b,off,none⟩) 1 cap])∧Ext w w':=by
 cases neg
 ·go_enter Tryz.func235,Tryz.ntmps235
  go_wp2
  exact bodyPost_ret (v:=.agg #[.int .i64 1,.slice (some ⟨b,off,none⟩) 1 cap]) (by simp [results,Tryz.results235,go_sem]) rfl ⟨rfl,(Ext.refl _).alloc _⟩
 ·go_enter Tryz.func235,Tryz.ntmps235
  go_wp2
  exact bodyPost_ret (v:=.agg #[.int .i64 (-1),.slice (some ⟨b,off,none⟩) 1 cap]) (by simp [results,Tryz.results235,go_sem]) rfl ⟨rfl,(Ext.refl _).alloc _⟩
theorem Im (neg:Bool) (q:Option Addr) (n cap:Nat) (w:ab) (hn:2≤n) :
  Calls Tryz.prog 235 #[.bool neg,.slice q n cap] w fun e w'=>e = .returned (.agg #[.int .i64 (if neg then -1 else 1),.slice q n cap])∧Ext w w':=by
 cases neg
 ·go_enter Tryz.func235,Tryz.ntmps235
  go_wp2
  exact bodyPost_ret (v:=.agg #[.int .i64 1,.slice q n cap]) (by simp [results,Tryz.results235,go_sem]) rfl ⟨rfl,(Ext.refl _).alloc _⟩
 ·go_enter Tryz.func235,Tryz.ntmps235
  go_wp2
  exact bodyPost_ret (v:=.agg #[.int .i64 (-1),.slice q n cap]) (by simp [results,Tryz.results235,go_sem]) rfl ⟨rfl,(Ext.refl _).alloc _⟩
theorem VS (neg:Bool) (v:aa) (l:List Int) (w:ab) (hs:SL w v Jc l) (hd:DG W l) (hn:NZ l) :
  Calls Tryz.prog 235 #[.bool neg,v] w fun e w'=>ZP w (fun v w'=>XQ w' v (sg neg (dv W l))) e w':=by
 obtain ⟨q,cap,rfl,h2,h3,h4⟩:=hs
 match l,hd,hn,h2,h4 with
 |[],hd,hn,h2,h4=>exact(CD neg q cap w).mono fun e w' h=>by cases neg<;>exact h
 |[x],hd,hn,h2,h4 =>
  obtain ⟨b,off,rfl,hb,hc⟩:=h4 0 (by simp)
  have hx:=hd.head
  have e1:dv W [x]=x:=by simp
  rw [e1]
  by_cases hx1:x≤9223372036854775807
  ·exact CC neg b off cap x w hc hx.1 hx1 hb.lt
  ·refine(Io neg b off cap x w hc (by omega) hb.lt).mono fun e w' ⟨h,k⟩=>⟨_,h,⟨_,_,_,_,rfl,.inr ⟨b,off,[x],rfl,rfl,h2,h3,h4.ext k,hd,hn,by simp,?_,?_,by rw [e1];omega⟩⟩,k⟩
   ·cases neg<;>simp
   ·cases neg<;>simp [sg]
 |x::y::l,hd,hn,h2,h4 =>
  obtain ⟨b,off,rfl,hb,hc⟩:=h4 0 (by simp)
  refine(Im neg _ _ cap w (by simp)).mono fun e w' ⟨h,k⟩=>⟨_,h,⟨_,_,_,_,rfl,.inr ⟨b,off,x::y::l,rfl,rfl,h2,h3,h4.ext k,hd,hn,by simp,?_,?_,?_⟩⟩,k⟩
  ·cases neg<;>simp
  ·cases neg<;>simp [sg]
  ·have:=B3 Jn hd hn (by simp)
   have h6:=ZV (b:=W) (by decide) (m:=1) (n:=(x::y::l).length - 1) (by simp)
   have h7:W^1=18446744073709551616:=by decide
   omega
theorem Ib (s:Int) (b off n cap:Nat) (w:ab) :
  Calls Tryz.prog 234 #[.agg #[.int .i64 s,.slice (some ⟨b,off,none⟩) n cap]] w fun e w'=>e = .returned (.tuple #[.bool (decide (s<0)),.slice (some ⟨b,off,none⟩) n cap])∧Ext w w':=by
 have hn:=fun w=>run_neq_slice_nil_any (P:=Tryz.prog) w 126 248 (some ⟨b,off,none⟩) n cap 0 0 Tryz.underlying126
 go_enter Tryz.func234,Tryz.ntmps234
 go_wp2
 go_quiet (fail)
 go_wp2
 go_ret2
 exact⟨rfl,((Ext.refl _).alloc _).drewN _⟩
theorem AS (w:ab) :
  Calls Tryz.prog 234 #[.agg #[.int .i64 0,.slice none 0 0]] w fun e w'=>e = .returned (.tuple #[.bool false,.slice none 0 0])∧Ext w w':=by
 have hn:=fun w=>run_neq_slice_nil_any (P:=Tryz.prog) w 126 248 none 0 0 0 0 Tryz.underlying126
 go_enter Tryz.func234,Tryz.ntmps234
 go_wp2
 go_ret2
 exact⟨rfl,(Ext.refl _).alloc _⟩
theorem ID (n:Int) (h0 : -9223372036854775808≤n) (h:n<0):IntKind.u64.wrap (wrap64 (-n))=Jk n:=by
 rw [Bv h]
 have e:IntKind.u64.wrap (wrap64 (-n))=(wrap64 (-n))%18446744073709551616:=by simp [IntKind.wrap,IntKind.signed,bO]
 rw [e];unfold wrap64;omega
theorem GS (n:Int) (w:ab) (h0 : -9223372036854775808≤n) (h1:n≤9223372036854775807) :
  Calls Tryz.prog 245 #[.int .i64 n] w fun e w'=>e = .returned (.int .u64 (Jk n))∧w=w':=by
 by_cases h:n<0
 ·have H:=ag (ID n h0 h)
  go_enter Tryz.func245,Tryz.ntmps245
  go_wp2
  go_ret
  exact⟨congrArg (fun x=>fe (.int .u64 x)) H.out,rfl⟩
 ·have H:=ag (WJ (z:=n) (by omega))
  go_enter Tryz.func245,Tryz.ntmps245
  go_wp2
  go_ret
  exact⟨congrArg (fun x=>fe (.int .u64 x)) H.out.symm,rfl⟩
theorem TZ (z:Int) (w:ab) (hz:(z==0)=false) (h0 : -9223372036854775808≤z) (h1:z≤9223372036854775807) :
  Calls Tryz.prog 234 #[.agg #[.int .i64 z,.slice none 0 0]] w fun e w'=>(∃ b,e = .returned (.tuple #[.bool (decide (z<0)),.slice (some ⟨b,0,none⟩) 1 1])∧YO w' b 248 Jc [Jk z])∧Ext w w':=by
 have hn:=fun w=>run_neq_slice_nil_any (P:=Tryz.prog) w 126 248 none 0 0 0 0 Tryz.underlying126
 go_enter Tryz.func234,Tryz.ntmps234
 go_wp2
 go_region_held3 (fun w'=>w'.cell? ⟨w.heap.size,0,none⟩=some (.int .i64 z)) (go_keep) (first | (go_at_call 245;refine(GS _ _ h0 h1).mono ?_;rintro e w' ⟨rfl,rfl⟩))
 go_wp2
 go_ret2
 exact⟨⟨_,rfl,(YO.cX _ _ 248 Jc [Jk z] _ rfl (by simp)).drew⟩,(((Ext.refl _).alloc _).alloc _).drew⟩
theorem Yl (v:aa) (z:Int) (w:ab) (hv:XQ w v z) :
  Calls Tryz.prog 234 #[v] w fun e w'=>ZP w (fun r w'=>∃ p l,r = .tuple #[.bool (decide (z<0)),p]∧SL w' p Jc l∧DG W l∧NZ l∧dv W l=Jk z) e w':=by
 obtain ⟨s,q,n,cap,rfl,hp⟩:=hv
 rcases hp with ⟨rfl,rfl,rfl,rfl,h0,h1⟩ | ⟨b,off,l,rfl,rfl,h3,h4,h5,h6,h7,h8,h9,h10,h11⟩
 ·by_cases hz:s=0
  ·subst hz
   exact(AS w).mono fun e w' ⟨h,k⟩=>⟨_,h,⟨_,[],rfl,SL.nil _ _,DG.nil _,by simp [NZ],rfl⟩,k⟩
  ·refine(TZ s w (by simpa using hz) h0 h1).mono fun e w' ⟨⟨b,h,hb⟩,k⟩=>⟨_,h,⟨_,[Jk s],rfl,SL.Ga hb 1 (aA _) (by simp),?_,?_,by simp⟩,k⟩
   ·have:Jk s=s.natAbs:=KR s
    have:=Wl
    exact DG.cons (by omega) (by omega) (DG.nil _)
   ·have:Jk s=s.natAbs:=KR s
    simp [NZ];omega
 ·have hz:decide (s<0)=decide (z<0)∧dv W l=Jk z:=by
   rcases h9 with rfl | rfl
   ·rw [fW] at h10;rw [WJ (by omega)];exact⟨by simp;omega,h10.symm⟩
   ·have:z = -dv W l:=by rw [h10];omega
    rw [Bv (by omega)];exact⟨by simp;omega,by omega⟩
  refine(Ib s b off _ cap w).mono fun e w' ⟨h,k⟩=>⟨_,h,⟨_,l,by rw [hz.1],⟨_,_,rfl,h3,h4,h5.ext k⟩,h6,h7,hz.2⟩,k⟩
theorem Nf {l:List Int} {k:Nat} (h:k<l.length):l.getD k default=l[k]:=by simp [bn,h]
theorem KT (v:aa) (l:List Int) (w:ab) (hs:SL w v Jc l) :
  Calls Tryz.prog 283 #[v] w fun e w'=>(∃ v',e = .returned v'∧SL w v' Jc (Q4 l))∧w=w':=by
 obtain ⟨q,cap,rfl,hcap,hmax,hc⟩:=hs
 have HC:=ag hc;clear hc
 go_enter Tryz.func283,Tryz.ntmps283
 go_wp2
 go_loop [3] (fun n=>∃ k:Nat,k≤l.length∧n = .int .i64 k∧Q4 l=Q4 (l.take k)) (fun n=>(intOf n).toNat)
 case atStart=>exact⟨l.length,aA _,rfl,by rw [bP]⟩
 case round =>
  obtain ⟨k,hk,rfl,he⟩:=hrel
  have HE:=ag he;clear he
  cases k with
  |zero =>
   go_wp2
   go_ret
   exact⟨⟨_,rfl,by rw [HE.out];exact⟨q,cap,rfl,by simp [Q4],hmax,fun i hi=>by simp [Q4] at hi⟩⟩,rfl⟩
  |succ k =>
   obtain ⟨b,off,rfl,hb,hc⟩:=HC.out k (by omega)
   simp only [Jc] at hc
   have HT:=ag (V9 l k (by omega))
   rw [Nf (by omega)] at hc
   generalize hx:l[k]=x at hc
   have HX:=ag hx;clear hx
   by_cases h0:x=0
   ·have h1:(x==0)=true:=by simp [h0]
    go_wp2
    go_round
    case rel=>exact⟨k,by omega,rfl,by rw [HE.out,HT.out,HX.out,h0,YY]⟩
    case measure=>simp [intOf]
   ·have h1:(x==0)=false:=by simp [h0]
    go_wp2
    go_ret
    have e1:Q4 l=l.take (k+1):=by rw [HE.out,HT.out,HX.out,VN _ h0,← HX.out,← HT.out]
    exact⟨⟨_,rfl,by rw [e1];exact⟨_,cap,by rw [aq,aU (by omega)];rfl,by rw [aq];omega,hmax,HC.out.take _⟩⟩,rfl⟩
def sz (z:Int):Nat:=if z=0 then 0 else z.natAbs.log2+1
theorem Hm (z:Int):z.natAbs<2^sz z:=by
 unfold sz;split
 ·simp [*]
 ·exact Nat.lt_log2_self
theorem XR (z:Int) (k:Nat):sz z≤k↔z.natAbs<2^k:=by
 constructor
 ·intro h;exact e8 (Hm z) (Nat.pow_le_pow_right (by decide) h)
 ·intro h;unfold sz;split
  ·exact cb _
  ·rename_i hz
   have:z.natAbs.log2<k:=(Nat.log2_lt (by omega)).2 h
   omega
theorem Vy (a b:Int):sz (a*b)≤sz a+sz b:=by
 rw [XR,Int.natAbs_mul,eB]
 have h1:=Hm a;have h2:=Hm b
 calc a.natAbs*b.natAbs≤a.natAbs*2^sz b:=eZ _ (Nat.le_of_lt h2)
  _<2^sz a*2^sz b:=Nat.mul_lt_mul_of_pos_right h1 (Nat.pow_pos (by decide))
theorem U7 (a b:Int):sz (a+b)≤max (sz a) (sz b)+1:=by
 rw [XR,Nat.pow_succ]
 have h1:=(XR a (max (sz a) (sz b))).1 (Nat.le_max_left _ _)
 have h2:=(XR b (max (sz a) (sz b))).1 (Nat.le_max_right _ _)
 omega
theorem Yx {a b:Int} (h:a.natAbs≤b.natAbs):sz a≤sz b:=by
 rw [XR];exact Nat.lt_of_le_of_lt h (Hm b)
theorem Yd (a:Int):sz (-a)=sz a:=by unfold sz;simp
theorem E6 (a:Int):sz (Jk a)=sz a:=by unfold Jk;split<;>simp [Yd]
theorem yr {l:List Int} (h:DG W l) (hn:NZ l):l.length≤sz (dv W l):=by
 by_cases hl:l=[]
 ·subst hl;simp
 ·have h1:=B3 Jn h hn hl
  have h2:=Hm (dv W l)
  have h0:=Qu Jn h
  have h3:(2:Int)^(l.length - 1)≤W^(l.length - 1):=by
   generalize l.length - 1=k
   induction k with
   |zero=>simp
   |succ k ih=>rw [aO,aO];exact fC ih (by decide) (by decide) (ew (pow_pos Jn k))
  have h4:(2:Int)^(l.length - 1)<2^sz (dv W l):=by
   have:((dv W l).natAbs:Int)<((2^sz (dv W l):Nat):Int):=by omega
   rw [aW] at this
   have e:((dv W l).natAbs:Int)=dv W l:=by omega
   rw [e] at this
   have e2:((2:Nat):Int)=2:=rfl
   rw [e2] at this;omega
  have h5:2^(l.length - 1)<2^sz (dv W l):=by
   have:((2^(l.length - 1):Nat):Int)<((2^sz (dv W l):Nat):Int):=by
    rw [aW,aW];exact h4
   omega
  have:=(Nat.pow_lt_pow_iff_right (by decide:1<2)).1 h5
  omega
theorem TE (v:aa) (z:Int) (w:ab) (hv:XQ w v z) :
  Calls Tryz.prog 171 #[v] w fun e w'=>e = .returned (.int .i64 (E7 z))∧Ext w w':=by
 obtain ⟨s,q,n,cap,rfl,hp⟩:=hv
 have hs:E7 z=if s<0 then -1 else if s=0 then 0 else 1:=by
  rcases hp with ⟨_,_,_,rfl,_⟩ | ⟨b,off,l,_,_,_,_,_,_,_,_,h,hz,hb⟩
  ·rfl
  ·unfold E7;rcases h with rfl | rfl
   ·rw [fW] at hz;rw [if_neg (by omega),if_neg (by omega)];rfl
   ·rw [if_pos (by omega)];rfl
 have HS:=ag hs
 clear hs hp
 rcases fj s 0 with g | g | g
 all_goals
  go_enter Tryz.func171,Tryz.ntmps171
  go_wp2
  go_ret
  exact⟨by rw [HS.out];simp [g]<;>omega,(Ext.refl _).alloc _⟩
theorem Yh.isNone {w:ab} {s:Int} {q:Option Addr} {n cap:Nat} {z:Int} (h:Yh w s q n cap z) :
  (q=none∧n=0∧cap=0∧s=z∧-9223372036854775808≤z∧z≤9223372036854775807)∨(∃ b off,q=some ⟨b,off,none⟩):=by
 rcases h with h | ⟨b,off,_,h,_⟩
 ·exact .inl h
 ·exact .inr ⟨b,off,h⟩
abbrev IZ:Array aa:=#[.int .i64 0,.slice none 0 0]
theorem Ih (s:Int) (w:ab) (h0 : -9223372036854775807≤s) (h1:s≤9223372036854775807) :
  Calls Tryz.prog 172 #[.agg #[.int .i64 s,.slice none 0 0]] w fun e w'=>e = .returned (.agg #[.int .i64 (-s),.slice none 0 0])∧Ext w w':=by
 have hn:=fun w=>bY (P:=Tryz.prog) w 126 248 none 0 0 0 0 Tryz.underlying126
 have hm':(s != -9223372036854775808)=true:=by simp;omega
 go_enter Tryz.func172,Tryz.ntmps172
 go_wp2
 exact bodyPost_ret (v:=.agg #[.int .i64 (-s),.slice none 0 0]) (by simp [results,Tryz.results172,go_sem]) rfl ⟨rfl,((Ext.refl _).alloc _).alloc _⟩
theorem Yh.kp {w w':ab} (h:Kp w w') {s:Int} {q:Option Addr} {n cap:Nat} {z:Int} (hv:Yh w s q n cap z):Yh w' s q n cap z:=by
 rcases hv with hv | ⟨b,off,l,h1,h2,h3,h4,h5,h6⟩
 ·exact .inl hv
 ·exact .inr ⟨b,off,l,h1,h2,h3,h4,h5.kp h (by decide),h6⟩
theorem Tf:¬ DT 128:=by decide
theorem Bx.He {w:ab} {R T:Nat} {c0 c1:aa} (h:Bx w R T [c0,c1]) (v0 v1:aa):Bx ((w.setCell ⟨R,0,none⟩ v0).setCell ⟨R,1,none⟩ v1) R T [v0,v1]:=by
 have:=(h.set 0 v0).set 1 v1;simpa using this
theorem Kp.He {a w:ab} (h:Kp a w) {R T:Nat} (hT:Kg w R T) (hD:¬ DT T) (v0 v1:aa):Kp a ((w.setCell ⟨R,0,none⟩ v0).setCell ⟨R,1,none⟩ v1) :=
 (h.set hT hD 0 v0).set (hT.set _ _ _) hD 1 v1
theorem P4 (s:Int) (q:Option Addr) (n cap:Nat) (z:Int) (w:ab) (hv:Yh w s q n cap z) (hq:q.isNone=false∨(s != -9223372036854775808)=false) :
  Calls Tryz.prog 172 #[.agg #[.int .i64 s,.slice q n cap]] w fun e w'=>ZP w (fun v w'=>XQ w' v (-z)) e w':=by
 have hn:=fun w=>bY (P:=Tryz.prog) w 126 248 q n cap 0 0 Tryz.underlying126
 have hz0:Hid (sg (!decide (z<0)) (Jk z) = -z):=by
  show sg (!decide (z<0)) (Jk z) = -z
  unfold sg Jk;by_cases h:z<0<;>simp [h]
 have HV:Hid (XQ w (.agg #[.int .i64 s,.slice q n cap]) z):=⟨_,_,_,_,rfl,hv⟩
 have hB:Bx ((w.alloc (.cells #[.int .i64 s,.slice q n cap] 128)).alloc (.cells IZ 128)) (w.heap.size+1) 128 IZ.toList:=by
  have:=Bx.new (w.alloc (.cells #[.int .i64 s,.slice q n cap] 128)) 128 IZ
  simpa using this
 have HB:=ag hB
 clear hB hv
 cases hqn:q.isNone
 all_goals
  rw [hqn] at hq
  simp only [reduceCtorEq,true_or,false_or] at hq
  rw [hqn] at hn
  clear hqn
  go_enter Tryz.func172,Tryz.ntmps172
  go_wp2_with fail
  refine(Yl _ z _ (HV.out.ext (((Ext.refl _).alloc _).alloc _))).mono ?_
  rintro e w1 ⟨_,rfl,⟨p,l,rfl,hsl,hd,hnz,hval⟩,hx⟩
  go_wp2_with fail
  refine(VS _ p l _ hsl hd hnz).mono ?_
  rw [hval,hz0.out]
  rintro e w2 ⟨_,rfl,⟨s',q',n',cap',rfl,hp'⟩,hx2⟩
  have hB2:=(HB.out.ext hx).ext hx2
  obtain ⟨c0,c1,f0,f1⟩:=hB2.two
  have HB2:=ag hB2
  clear hval hB2
  go_wp2
  refine bodyPost_ret (v:=.agg #[.int .i64 s',.slice q' n' cap']) (by simp [results,Tryz.results172,go_sem,c0,c1]) rfl ⟨_,rfl,⟨_,_,_,_,rfl,hp'.kp ((Kp.refl _).He HB2.out.Nb Tf _ _)⟩,?_⟩
  exact((((((Ext.refl w).alloc _).alloc _).trans hx).trans hx2).Xn (by simp) _).Xn (by simp) _
theorem SC (v:aa) (z:Int) (w:ab) (hv:XQ w v z) :
  Calls Tryz.prog 172 #[v] w fun e w'=>ZP w (fun v w'=>XQ w' v (-z)) e w':=by
 obtain ⟨s,q,n,cap,rfl,hp⟩:=hv
 rcases hp.isNone with ⟨rfl,rfl,rfl,rfl,h0,h1⟩ | ⟨b,off,rfl⟩
 ·by_cases hm:s = -9223372036854775808
  ·exact P4 _ _ _ _ _ w hp (.inr (by simpa using hm))
  ·exact(Ih s w (by omega) h1).mono fun e w' ⟨he,hx⟩=>⟨_,he,XQ.small _ (by omega) (by omega),hx⟩
 ·exact P4 _ _ _ _ _ w hp (.inl rfl)
end Go.Proofs.YtknegjaeoffnbaaGreatDoor
namespace Ig
def Qa (l:List Int) (k:Nat):Int:=if h:k<l.length then l[k] else 0
theorem Xx {l:List Int} {k:Nat} (h:k<l.length):Qa l k=l[k]:=dif_pos h
theorem Gf {l:List Int} {k:Nat} (h:l.length≤k):Qa l k=0:=dif_neg (by omega)
theorem DG.Qa {b:Int} (hb:0<b) {l:List Int} (h:DG b l) (k:Nat):0≤Qa l k∧Qa l k<b:=by
 unfold Ig.Qa;split
 ·exact h _ (fh _)
 ·exact⟨bM _,hb⟩
theorem VU (b:Int) (l:List Int) (k:Nat):dv b (l.take (k+1))=dv b (l.take k)+b^k*Qa l k:=by
 by_cases h:k<l.length
 ·rw [Xx h,Wj b l k h]
 ·rw [Gf (by omega),ai (by omega),ai (by omega)];simp
theorem Y1 {l:List Int} {p:Nat} (h:p<l.length) (v:Int) (r:Nat):Qa (l.set p v) r=if r=p then v else Qa l r:=by
 unfold Qa
 by_cases hr:r<l.length
 ·rw [dif_pos (by simpa using hr),dif_pos hr,List.getElem_set]
  by_cases e:p=r
  ·subst e;simp
  ·rw [if_neg e,if_neg (fun e'=>e e'.symm)]
 ·rw [dif_neg (by simpa using hr),dif_neg hr,if_neg (by omega)]
theorem Ge (b:Int) {l:List Int} {p:Nat} (h:p<l.length) (v:Int):dv b (l.set p v)=dv b l+b^p*(v - Qa l p):=by
 have h1:=KZ b (l.set p v) (p+1) (by simp;omega)
 have h2:=KZ b l (p+1) (by omega)
 have e1:(l.set p v).drop (p+1)=l.drop (p+1):=by rw [List.drop_set_of_lt (by omega)]
 have e2:(l.set p v).take (p+1)=l.take p++[v]:=by
  rw [V9 _ _ (by simpa using h)];simp [List.take_set_of_le]
 rw [h1,h2,e1,e2,XS,Wj b l p h,Xx h,aq,aU (by omega)]
 grind
theorem XC {l:List Int} {k:Nat} (h:k<l.length):l.drop k=Qa l k::l.drop (k+1):=by rw [bJ h,Xx h]
theorem T2 {D V2 v' U3 u' t:Int} (hD:0<D) (hv1:v'<D) (hu0:0≤u')
  (ht0:0≤t) (ht:t*V2≤U3) (htv:t≤V2) (_hv0:0≤v'):(t - 1)*(V2*D+v')≤U3*D+u':=by
 have h1:t*V2*D≤U3*D:=aE ht (by omega)
 have h2:t*v'≤t*D:=ak (by omega) ht0
 have h3:t*D≤V2*D:=aE htv (by omega)
 have e:(t - 1)*(V2*D+v')=t*V2*D+t*v' - V2*D - v':=by grind
 omega
theorem NY {D V2 v' U3 u' t:Int} (hv0:0≤v') (hu1:u'<D) (hD:0<D)
  (ht0:0≤t) (ht:U3<t*V2):U3*D+u'<t*(V2*D+v'):=by
 have h1:(U3+1)*D≤t*V2*D:=aE (by omega) (by omega)
 have h2:0≤t*v':=aQ ht0 hv0
 have e:t*(V2*D+v')=t*V2*D+t*v':=by grind
 have e2:(U3+1)*D=U3*D+D:=by grind
 omega
theorem Xw {u v q:Int} (hv:0<v) (h1:q*v≤u) (h2:u<(q+1)*v):u / v=q:=by
 have e:(q+1)*v=q*v+v:=by grind
 have:u=(u - q*v)+q*v:=by omega
 rw [this,Int.add_mul_ediv_right _ _ (by omega),Int.ediv_eq_zero_of_lt (by omega) (by omega)];omega
theorem Zt {u v q:Int} (h1:q*v≤u) (h2:u<(q+1)*v):u%v=u - q*v:=by
 have e:(q+1)*v=q*v+v:=by grind
 have:u=(u - q*v)+q*v:=by omega
 rw [this,Int.add_mul_emod_self_right,bN (by omega) (by omega)];omega
section
variable {b:Int} (hb:1<b)
include hb
theorem Z5 {l:List Int} {n:Nat} (hl:DG b l) (h:l.length=n+3) :
  dv b l=((Qa l (n+2)*b+Qa l (n+1))*b+Qa l n)*b^n+dv b (l.take n)∧0≤dv b (l.take n)∧dv b (l.take n)<b^n:=by
 have h1:=VU b l n
 have h2:=VU b l (n+1)
 have h3:=VU b l (n+2)
 rw [ai (by omega:l.length≤n+2+1)] at h3
 have h4:=YB (by omega) (hl.take n)
 rw [aq,aU (by omega)] at h4
 refine⟨?_,Qu (by omega) (hl.take n),h4⟩
 rw [h3,h2,h1,aO,aO];grind
theorem KL {l:List Int} {n:Nat} (hl:DG b l) (h:l.length=n+2) :
  dv b l=(Qa l (n+1)*b+Qa l n)*b^n+dv b (l.take n)∧0≤dv b (l.take n)∧dv b (l.take n)<b^n:=by
 have h1:=VU b l n
 have h2:=VU b l (n+1)
 rw [ai (by omega:l.length≤n+1+1)] at h2
 have h4:=YB (by omega) (hl.take n)
 rw [aq,aU (by omega)] at h4
 refine⟨?_,Qu (by omega) (hl.take n),h4⟩
 rw [h2,h1,aO];grind
omit hb
structure VY (b:Int) (u v:List Int) (n:Nat):Prop where
 hu:DG b u
 hv:DG b v
 lu:u.length=n+3
 lv:v.length=n+2
 nz:0<Qa v (n+1)
 lt:dv b u<b*dv b v
include hb
theorem VY.top {u v:List Int} {n:Nat} (h:VY b u v n):Qa u (n+2)≤Qa v (n+1):=by
 obtain ⟨a1,a2,a3⟩:=Z5 hb h.hu h.lu
 obtain ⟨b1,b2,b3⟩:=KL hb h.hv h.lv
 have hlt:=h.lt
 have hb0:0<b:=by omega
 have d1:=h.hu.Qa hb0 n
 have d2:=h.hu.Qa hb0 (n+1)
 have d3:=h.hv.Qa hb0 n
 have hp:=pow_pos hb0 n
 refine Int.not_lt.1 fun hc=>?_
 have e1:(Qa v (n+1)+1)*(b*b*b^n)≤Qa u (n+2)*(b*b*b^n):=aE (by omega) (aQ (aQ (by omega) (by omega)) (by omega))
 have e2:0≤Qa u (n+1)*(b*b^n):=aQ d2.1 (aQ (by omega) (by omega))
 have e3:0≤Qa u n*b^n:=aQ d1.1 (by omega)
 have e4:(Qa v n+1)*b^n≤b*b^n:=aE (by omega) (by omega)
 have e5:b*((Qa v n+1)*b^n)≤b*(b*b^n):=ak e4 (by omega)
 have e6:b*dv b (v.take n)≤b*b^n:=ak (by omega) (by omega)
 have e7:b*(dv b (v.take n)+1)≤b*b^n:=ak (by omega) (by omega)
 rw [a1,b1] at hlt
 generalize b^n=D at *
 generalize dv b (v.take n)=v' at *
 generalize dv b (u.take n)=u' at *
 generalize Qa u (n+2)=u0 at *
 generalize Qa u (n+1)=u1 at *
 generalize Qa u n=u2 at *
 generalize Qa v (n+1)=v1 at *
 generalize Qa v n=v2 at *
 grind
end
end Ig
namespace Go.Proofs.YtknegjaeoffnbaaGreatDoor
open Go.RowKit Ig
def XH (x y c:Int):Int:=(x+y+c)%W
def Xf (x y c:Int):Int:=(x+y+c) / W
def ZN (x y c:Int):Int:=(x - y - c)%W
def K1 (x y c:Int):Int:=if x<y+c then 1 else 0
theorem Wk {x y c:Int} (hx:0≤x∧x<W) (hy:0≤y∧y<W) (hc:0≤c∧c≤1) :
  XH x y c+W*Xf x y c=x+y+c∧(0≤XH x y c∧XH x y c<W)∧0≤Xf x y c∧Xf x y c≤1:=by
 unfold XH Xf;simp only [Wl] at *;omega
theorem Ba {x y c:Int} (hx:0≤x∧x<W) (hy:0≤y∧y<W) (hc:0≤c∧c≤1) :
  ZN x y c - W*K1 x y c=x - y - c∧(0≤ZN x y c∧ZN x y c<W)∧0≤K1 x y c∧K1 x y c≤1:=by
 unfold ZN K1;simp only [Wl] at *;split<;>omega
theorem Yk (x y c:Int) (hx:0≤x) (hy:0≤y) (hc:0≤c) (hc1:c≤1) (w:ab) :
  (callFunc 282 #[.int .u64 x,.int .u64 y,.int .u64 c]).run Tryz.prog w = .ok (.value (.tuple #[.int .u64 (XH x y c),.int .u64 (Xf x y c)])) w:=by
 rw [run_callFunc_extern (fn:=Tryz.f282) (by kernel_rfl) (by kernel_rfl) (by kernel_rfl) (by kernel_rfl) (e:=add64Entry) (by kernel_rfl),run_add64 x y c hx hy hc hc1]
 rfl
def M3:Array aa→Sem aa:=fun args=>do
 let (x,y,b) ← Extern.MathBitsCarry.three "Sub64" args
 pure (Extern.MathBitsCarry.pair ((x+Extern.MathBitsCarry.m64 - y - b)%Extern.MathBitsCarry.m64) (if x<y+b then 1 else 0))
theorem IP (x y b:Nat) (hb:b≤1) (w:ab) :
  (M3 #[.int .u64 x,.int .u64 y,.int .u64 b]).run Tryz.prog w =
   .ok (.tuple #[.int .u64 (((x+18446744073709551616 - y - b)%18446744073709551616:Nat):Int),.int .u64 ((if x<y+b then 1 else 0:Nat):Int)]) w:=by
 have:b=0∨b=1:=by omega
 rcases this with rfl | rfl<;>rfl
theorem Gv (x y c:Int) (hx:0≤x∧x<W) (hy:0≤y∧y<W) (hc:0≤c∧c≤1) (w:ab) :
  (callFunc 289 #[.int .u64 x,.int .u64 y,.int .u64 c]).run Tryz.prog w = .ok (.value (.tuple #[.int .u64 (ZN x y c),.int .u64 (K1 x y c)])) w:=by
 obtain ⟨x,rfl⟩:=av hx.1
 obtain ⟨y,rfl⟩:=av hy.1
 obtain ⟨c,rfl⟩:=av hc.1
 rw [run_callFunc_extern (fn:=Tryz.f289) (by kernel_rfl) (by kernel_rfl) (by kernel_rfl) (by kernel_rfl) (e:=M3) (by kernel_rfl),IP x y c (by omega)]
 simp only [Result.andThen,ZN,K1,Wl] at *
 have e1:(((x+18446744073709551616 - y - c)%18446744073709551616:Nat):Int)=((x:Int) - y - c)%18446744073709551616:=by omega
 have e2:((if x<y+c then 1 else 0:Nat):Int)=if(x:Int)<y+c then 1 else 0:=by split<;>split<;>omega
 rw [e1,e2]
theorem M5 {α:Type} (ds:List α) (z x:α) (m:Nat):(ds++az (m+1) z).set ds.length x=(ds++[x])++az m z:=by
 rw [List.set_append_right _ _ (aA _),eO,eb,List.set_cons_zero,ep];rfl
theorem Dj {α:Type} [Inhabited α] (ds:List α) (z:α) (m k:Nat) (hk:k=ds.length):(ds++az (m+1) z).getD k default=z:=by
 subst hk;simp [bn,eb]
theorem JZ {l:List Int} (h:DG W l) (k:Nat):0≤Qa l k∧Qa l k<W:=h.Qa Jn k
theorem J7 (l:List Int) (k:Nat):dv W (l.take (k+1))=dv W (l.take k)+W^k*Qa l k:=VU W l k
theorem Zo {l:List Int} {k:Nat} (h:k<l.length):l.getD k default=Qa l k:=by rw [Nf h,Xx h]
def D0 (lx ly:List Int) (k:Nat) (ds:List Int) (c:Int):Prop :=
 ds.length=k∧DG W ds∧(0≤c∧c≤1)∧dv W ds+W^k*c=dv W (lx.take k)+dv W (ly.take k)
theorem D0.step {lx ly ds:List Int} {k:Nat} {c:Int} (h:D0 lx ly k ds c) (hx:DG W lx) (hy:DG W ly) :
  D0 lx ly (k+1) (ds++[XH (Qa lx k) (Qa ly k) c]) (Xf (Qa lx k) (Qa ly k) c):=by
 obtain ⟨h1,h2,h3,h4⟩:=h
 obtain ⟨a1,a2,a3⟩:=Wk (JZ hx k) (JZ hy k) h3
 refine⟨by simp [h1],h2.append (DG.cons a2.1 a2.2 (DG.nil _)),a3,?_⟩
 rw [XS,h1,J7,J7,aO]
 generalize W^k=p at *
 generalize XH (Qa lx k) (Qa ly k) c=lo at *
 generalize Xf (Qa lx k) (Qa ly k) c=hi at *
 generalize Qa lx k=a at *
 generalize Qa ly k=b at *
 have e:p*(lo+W*hi)=p*(a+b+c):=by rw [a1]
 grind
def Sm (lx ly:List Int) (k:Nat) (ds:List Int) (c:Int):Prop :=
 ds.length=k∧DG W ds∧(0≤c∧c≤1)∧dv W ds - W^k*c=dv W (lx.take k) - dv W (ly.take k)
theorem Sm.step {lx ly ds:List Int} {k:Nat} {c:Int} (h:Sm lx ly k ds c) (hx:DG W lx) (hy:DG W ly) :
  Sm lx ly (k+1) (ds++[ZN (Qa lx k) (Qa ly k) c]) (K1 (Qa lx k) (Qa ly k) c):=by
 obtain ⟨h1,h2,h3,h4⟩:=h
 obtain ⟨a1,a2,a3⟩:=Ba (JZ hx k) (JZ hy k) h3
 refine⟨by simp [h1],h2.append (DG.cons a2.1 a2.2 (DG.nil _)),a3,?_⟩
 rw [XS,h1,J7,J7,aO]
 generalize W^k=p at *
 generalize ZN (Qa lx k) (Qa ly k) c=lo at *
 generalize K1 (Qa lx k) (Qa ly k) c=hi at *
 generalize Qa lx k=a at *
 generalize Qa ly k=b at *
 have e:p*(lo - W*hi)=p*(a - b - c):=by rw [a1]
 grind
theorem Tryz.je:(Tryz.prog.info? 248).map (fun i=>(i.zero,i.size,i.bytes))=some (some (.int .u64 0),1,8):=by kernel_rfl
theorem YC (n:Nat) (hn:n≤1000000000000) (w:ab) :
  (Instr.makeSlice 126 (.int .i64 (n:Int)) (.int .i64 (n:Int))).run Tryz.prog w = .ok (.slice (some ⟨w.heap.size,0,none⟩) n n) (w.alloc (.cells (madeCells #[.int .u64 0] n) 248)):=by
 obtain ⟨i0,hi,hz0,hz1,hz2⟩:=info_parts Tryz.je
 have:=run_make (P:=Tryz.prog) w 126 248 i0 (.int .u64 0) Tryz.underlying126 hi hz0 .i64 .i64 n n (by omega) (by omega) (by rw [hz2];omega) (by omega)
 rw [this,hz1];simp [Value.cells]
theorem Hu (sw:Bool) (q q':Option Addr) (cap cap':Nat) (lx ly:List Int) (w:ab) (hx:DG W lx) (hy:DG W ly) (hcx:Cells w q Jc lx) (hcy:Cells w q' Jc ly) (hlen:lx.length≤100000000000) (hle:ly.length≤lx.length) (hsw:sw=true→ly.length<lx.length) :
  Calls Tryz.prog 254 (if sw then #[.slice q' ly.length cap',.slice q lx.length cap] else #[.slice q lx.length cap,.slice q' ly.length cap']) w fun e w' =>
   ZP w (fun v w'=>∃ l,SL w' v Jc l∧DG W l∧NZ l∧dv W l=dv W lx+dv W ly) e w':=by
 have HX:=ag hcx;clear hcx
 have HY:=ag hcy;clear hcy
 have hmk:=fun w=>YC (lx.length+1) (by omega) w
 have ec:((lx.length+1:Nat):Int)=(lx.length:Int)+1:=by omega
 simp only [ec] at hmk
 cases sw
 all_goals
  simp only [Bool.false_eq_true,if_false,if_true,forall_const,false_implies] at hsw ⊢
  go_enter Tryz.func254,Tryz.ntmps254
  go_wp2
  go_loopw [22,6] (fun i c wr=>∃ (k:Nat) (ds:List Int) (cc:Int),k≤lx.length∧i = .int .i64 k∧c = .int .u64 cc∧D0 lx ly k ds cc∧YO wr w.heap.size 248 Jc (ds++az (lx.length+1 - k) 0)∧Ext w wr)
   (fun i _ _=>lx.length - (intOf i).toNat)
  case atStart=>exact⟨0,[],0,cb _,rfl,rfl,⟨rfl,DG.nil _,by decide,by simp⟩,YO.made w _ Jc 0 _ _ rfl,(Ext.refl _).alloc _⟩
  case round =>
   obtain ⟨k,ds,cc,hk,rfl,rfl,hI,hB,hE⟩:=hrel
   have hst:=hI.step hx hy
   obtain ⟨hd1,hd2,hd3,hd4⟩:=hI
   have hd1':=ag hd1;clear hd1
   have hd4':=ag hd4;clear hd4
   by_cases hlt:k<lx.length
   ·obtain ⟨b,off,rfl,hb,hc⟩:=HX.out k hlt
    rw [Zo hlt] at hc
    have hc:=hE.cell hc
    simp only [Jc] at hc
    have e1:lx.length+1 - k=(lx.length - k)+1:=by omega
    rw [e1] at hB
    have hcell:=hB.cell (i:=k) (by simp [hd1'.out])
    rw [Dj _ _ _ _ hd1'.out.symm] at hcell
    simp only [Jc] at hcell
    have hfr:=hB.frozen k
    have hBs:=hB.set k (XH (Qa lx k) (Qa ly k) cc)
    rw [← hd1'.out,M5,hd1'.out] at hBs
    have HB:=ag hB;clear hB
    have HBs:=ag hBs;clear hBs
    have HS:=ag hst;clear hst
    have hx0:=(JZ hx k).1
    have hy0:=(JZ hy k).1
    by_cases hlt2:k<ly.length
    ·obtain ⟨b2,off2,rfl,hb2,hc2⟩:=HY.out k hlt2
     rw [Zo hlt2] at hc2
     have hc2:=hE.cell hc2
     simp only [Jc] at hc2
     have ha:=fun w=>Yk (Qa lx k) (Qa ly k) cc hx0 hy0 hd3.1 hd3.2 w
     go_wp2
     go_roundw
     case rel=>exact⟨k+1,_,_,by omega,by go_num,rfl,HS.out,by rw [show lx.length+1 - (k+1)=lx.length - k from by omega];exact HBs.out,aT hE (by simp) _⟩
     case measure=>simp [intOf];omega
    ·have H0:=ag (Gf (l:=ly) (k:=k) (by omega))
     have ha:=fun w=>Yk (Qa lx k) 0 cc hx0 (bM _) hd3.1 hd3.2 w
     go_wp2
     go_roundw
     case rel=>exact⟨k+1,_,_,by omega,by go_num,rfl,by have:=HS.out;rw [H0.out] at this;exact this,by rw [show lx.length+1 - (k+1)=lx.length - k from by omega];have:=HBs.out;rw [H0.out] at this;exact this,aT hE (by simp) _⟩
     case measure=>simp [intOf];omega
   ·have hk':k=lx.length:=by omega
    subst hk'
    have e1:lx.length+1 - lx.length=0+1:=by omega
    rw [e1] at hB
    have hcell:=hB.cell (i:=lx.length) (by simp [hd1'.out])
    rw [Dj _ _ _ _ hd1'.out.symm] at hcell
    simp only [Jc] at hcell
    have hfr:=hB.frozen lx.length
    have hBs:=hB.set lx.length cc
    rw [← hd1'.out,M5,hd1'.out] at hBs
    simp only [eW,fq] at hBs
    have hSL:=SL.Ga hBs (lx.length+1) (by simp [hd1'.out]) (by simp [hd1'.out];omega)
    have el:(ds++[cc]).length=lx.length+1:=by simp [hd1'.out]
    rw [ai (by omega),el] at hSL
    have hEs:Ext w _:=aT hE (p:=⟨w.heap.size,lx.length,none⟩) (by simp) (Jc cc)
    have hfin:DG W (ds++[cc])∧dv W (ds++[cc])=dv W lx+dv W ly:=by
     refine⟨hd2.append (DG.cons hd3.1 (by have:=Wl;omega) (DG.nil _)),?_⟩
     rw [XS,hd1'.out,hd4'.out,ai (aA _),ai hle]
    have HB:=ag hB;clear hB
    have HBs:=ag hBs;clear hBs
    have HSL:=ag hSL;clear hSL
    have HF:=ag hfin;clear hfin
    have HES:=ag hEs;clear hEs
    clear el e1 hst
    go_wp2_with (go_at_call 283;refine(KT _ _ _ HSL.out).mono ?_;rintro e w' ⟨⟨v',rfl,hv⟩,rfl⟩)
    go_ret
    exact⟨_,rfl,⟨_,hv,HF.out.1.Q4,Xi _,by rw [XG,HF.out.2]⟩,HES.out⟩
theorem Sj (v v':aa) (lx ly:List Int) (w:ab) (hx:DG W lx) (hy:DG W ly) (hs:SL w v Jc lx) (hs':SL w v' Jc ly) (h1:lx.length≤100000000000) (h2:ly.length≤100000000000) :
  Calls Tryz.prog 254 #[v,v'] w fun e w'=>ZP w (fun v w'=>∃ l,SL w' v Jc l∧DG W l∧NZ l∧dv W l=dv W lx+dv W ly) e w':=by
 obtain ⟨q,cap,rfl,hcap,hmax,hc⟩:=hs
 obtain ⟨q',cap',rfl,hcap',hmax',hc'⟩:=hs'
 by_cases h:lx.length<ly.length
 ·have:=Hu true q' q cap' cap ly lx w hy hx hc' hc h2 (by omega) (fun _=>h)
  rw [fQ] at this;exact this
 ·exact Hu false q q' cap cap' lx ly w hx hy hc hc' h1 (by omega) (fun h=>by cases h)
theorem Bb (v v':aa) (lx ly:List Int) (w:ab) (hx:DG W lx) (hy:DG W ly) (hs:SL w v Jc lx) (hs':SL w v' Jc ly) (h1:lx.length≤100000000000) (hle:ly.length≤lx.length) (hle2:dv W ly≤dv W lx) :
  Calls Tryz.prog 256 #[v,v'] w fun e w'=>ZP w (fun v w'=>∃ l,SL w' v Jc l∧DG W l∧NZ l∧dv W l=dv W lx - dv W ly) e w':=by
 obtain ⟨q,cap,rfl,hcap,hmax,hcx⟩:=hs
 obtain ⟨q',cap',rfl,hcap',hmax',hcy⟩:=hs'
 have HX:=ag hcx;clear hcx
 have HY:=ag hcy;clear hcy
 have HLE:=ag hle2;clear hle2
 have hmk:=fun w=>YC lx.length (by omega) w
 go_enter Tryz.func256,Tryz.ntmps256
 go_wp2
 go_loopw [14,6] (fun i c wr=>∃ (k:Nat) (ds:List Int) (cc:Int),k≤lx.length∧i = .int .i64 k∧c = .int .u64 cc∧Sm lx ly k ds cc∧YO wr w.heap.size 248 Jc (ds++az (lx.length - k) 0)∧Ext w wr)
  (fun i _ _=>lx.length - (intOf i).toNat)
 case atStart=>exact⟨0,[],0,cb _,rfl,rfl,⟨rfl,DG.nil _,by decide,by simp⟩,YO.made w _ Jc 0 _ _ rfl,(Ext.refl _).alloc _⟩
 case round =>
  obtain ⟨k,ds,cc,hk,rfl,rfl,hI,hB,hE⟩:=hrel
  have hst:=hI.step hx hy
  obtain ⟨hd1,hd2,hd3,hd4⟩:=hI
  have hd1':=ag hd1;clear hd1
  have hd4':=ag hd4;clear hd4
  by_cases hlt:k<lx.length
  ·obtain ⟨b,off,rfl,hb,hc⟩:=HX.out k hlt
   rw [Zo hlt] at hc
   have hc:=hE.cell hc
   simp only [Jc] at hc
   have e1:lx.length - k=(lx.length - (k+1))+1:=by omega
   rw [e1] at hB
   have hcell:=hB.cell (i:=k) (by simp [hd1'.out])
   rw [Dj _ _ _ _ hd1'.out.symm] at hcell
   simp only [Jc] at hcell
   have hfr:=hB.frozen k
   have hBs:=hB.set k (ZN (Qa lx k) (Qa ly k) cc)
   rw [← hd1'.out,M5,hd1'.out] at hBs
   have HB:=ag hB;clear hB
   have HBs:=ag hBs;clear hBs
   have HS:=ag hst;clear hst
   have hx0:=JZ hx k
   have hy0:=JZ hy k
   clear e1
   by_cases hlt2:k<ly.length
   ·obtain ⟨b2,off2,rfl,hb2,hc2⟩:=HY.out k hlt2
    rw [Zo hlt2] at hc2
    have hc2:=hE.cell hc2
    simp only [Jc] at hc2
    have ha:=fun w=>Gv (Qa lx k) (Qa ly k) cc hx0 hy0 hd3 w
    go_wp2
    go_roundw
    case rel=>exact⟨k+1,_,_,by omega,by go_num,rfl,HS.out,HBs.out,aT hE (by simp) _⟩
    case measure=>simp [intOf];omega
   ·have H0:=ag (Gf (l:=ly) (k:=k) (by omega))
    have ha:=fun w=>Gv (Qa lx k) 0 cc hx0 ⟨bM _,Jn⟩ hd3 w
    go_wp2
    go_roundw
    case rel=>exact⟨k+1,_,_,by omega,by go_num,rfl,by have:=HS.out;rw [H0.out] at this;exact this,by have:=HBs.out;rw [H0.out] at this;exact this,aT hE (by simp) _⟩
    case measure=>simp [intOf];omega
  ·have hk':k=lx.length:=by omega
   subst hk'
   rw [eO,eW,fq] at hB
   have hSL:=SL.Ga hB lx.length (by simp [hd1'.out]) (by simp [hd1'.out];omega)
   rw [ai (by simp [hd1'.out]),hd1'.out] at hSL
   have hfin:dv W ds=dv W lx - dv W ly:=by
    have h4:=hd4'.out
    rw [ai (aA _),ai hle] at h4
    have h5:=YB Jn hd2
    have h6:=Qu Jn hd2
    have h8:=HLE.out
    rw [hd1'.out] at h5
    have h7:cc=0∨cc=1:=by omega
    rcases h7 with rfl | rfl<;>omega
   have HB:=ag hB;clear hB
   have HSL:=ag hSL;clear hSL
   have HF:=ag hfin;clear hfin
   clear hst
   go_wp2_with (go_at_call 283;refine(KT _ _ _ HSL.out).mono ?_;rintro e w' ⟨⟨v',rfl,hv⟩,rfl⟩)
   go_ret
   exact⟨_,rfl,⟨_,hv,hd2.Q4,Xi _,by rw [XG,HF.out]⟩,hE⟩
theorem Vr {x y:Int} (h:x<y):Zd x y = -1:=if_pos h
theorem HH {x y:Int} (h:y<x):Zd x y=1:=by unfold Zd;rw [if_neg (by omega),if_neg (by omega)]
theorem ML (x:Int):Zd x x=0:=by unfold Zd;rw [if_neg (by omega),if_pos rfl]
theorem ZZ (v v':aa) (lx ly:List Int) (w:ab) (hx:DG W lx) (hy:DG W ly) (nx:NZ lx) (ny:NZ ly) (hs:SL w v Jc lx) (hs':SL w v' Jc ly) :
  Calls Tryz.prog 255 #[v,v'] w fun e w'=>e = .returned (.int .i64 (Zd (dv W lx) (dv W ly)))∧Ext w w':=by
 obtain ⟨q,cap,rfl,hcap,hmax,hcx⟩:=hs
 obtain ⟨q',cap',rfl,hcap',hmax',hcy⟩:=hs'
 have HX:=ag hcx;clear hcx
 have HY:=ag hcy;clear hcy
 rcases ff lx.length ly.length with h | h | h
 ·have HL:=ag (Vr (Xa Ex hx hy ny h))
  go_enter Tryz.func255,Tryz.ntmps255
  go_wp2
  go_ret
  exact⟨by rw [HL.out];rfl,Ext.refl _⟩
 ·go_enter Tryz.func255,Tryz.ntmps255
  have hb:((lx.length:Int) != (ly.length:Int))=false:=by simp [h]
  have HLL:=ag h;clear h
  go_wp2
  go_loopw [5] (fun i wr=>∃ k:Nat,k≤lx.length∧i = .int .i64 ((k:Int) - 1)∧lx.drop k=ly.drop k∧Ext w wr) (fun i _=>(intOf i+1).toNat)
  case atStart=>exact⟨lx.length,aA _,rfl,by rw [eM (aA _),eM (by rw [HLL.out];exact aA _)],Ext.refl _⟩
  case round =>
   obtain ⟨k,hk,rfl,hd,hE⟩:=hrel
   have HD:=ag hd;clear hd
   cases k with
   |zero =>
    have HF:Hid (Zd (dv W lx) (dv W ly)=0):=by
     have:=HD.out;rw [fy,fy] at this;rw [this];exact ML _
    go_wp2
    go_ret
    exact⟨by rw [HF.out];rfl,hE⟩
   |succ k =>
    have e1:((k+1:Nat):Int) - 1=(k:Int):=by omega
    rw [e1]
    have hk2:k<ly.length:=by have:=HLL.out;omega
    obtain ⟨b,off,rfl,hb1,hc⟩:=HX.out k (by omega)
    obtain ⟨b2,off2,rfl,hb2,hc2⟩:=HY.out k hk2
    rw [Nf (by omega)] at hc hc2
    have hc:=hE.cell hc
    have hc2:=hE.cell hc2
    simp only [Jc] at hc hc2
    have HLT:=ag (Sf Jn hx hy HLL.out k (by omega) HD.out)
    have HGT:=ag (Sf Jn hy hx HLL.out.symm k hk2 HD.out.symm)
    have HEQ:Hid (lx[k]=ly[k]→lx.drop k=ly.drop k):=by
     intro e;rw [bJ (by omega),bJ hk2,e,HD.out]
    generalize lx[k]=x at *
    generalize ly[k]=y at *
    clear e1
    rcases fj x y with g | g | g
    ·have hne:(x != y)=true:=by simp;omega
     have HL:=ag (Vr (HLT.out g))
     go_wp2
     go_quiet (fail)
     go_wp2
     go_quiet (fail)
     go_wp2
     go_ret
     exact⟨by rw [HL.out];rfl,(hE.drewN _).drewN _⟩
    ·have hne:(x != y)=false:=by simp;omega
     go_wp2
     go_quiet (fail)
     go_wp2
     go_roundw
     case rel=>exact⟨k,by omega,by go_num,HEQ.out g,hE.drewN _⟩
     case measure=>simp [intOf]
    ·have hne:(x != y)=true:=by simp;omega
     have HL:=ag (HH (HGT.out g))
     go_wp2
     go_quiet (fail)
     go_wp2
     go_quiet (fail)
     go_wp2
     go_ret
     exact⟨by rw [HL.out];rfl,(hE.drewN _).drewN _⟩
 ·have HL:=ag (HH (Xa Ex hy hx nx h))
  go_enter Tryz.func255,Tryz.ntmps255
  go_wp2
  go_ret
  exact⟨by rw [HL.out];rfl,Ext.refl _⟩
end Go.Proofs.YtknegjaeoffnbaaGreatDoor
namespace Go.Proofs
open Go.Shelf
def Tryz.EN:ax:=⟨fun | 169=>281 | n=>n,fun | 70=>281 | 9=>9 | 0=>0 | 72=>284 | 37=>282 | 127=>307 | 3=>3 | 5=>5 | n=>n,fun | n=>n⟩
theorem Tryz.jV:Go.Proofs.Lays.n169 Tryz.prog Tryz.EN:={
 mixed:=by kernel_rfl
 f169:=Tryz.func281.trans (congrArg some (by kernel_rfl))
 t0:=Tryz.underlying0
 a0:=Tryz.isAgg0
 z0:=Tryz.sizeOf0
 v0:=Tryz.zeroValue0
 t3:=Tryz.underlying3
 a3:=Tryz.isAgg3
 z3:=Tryz.sizeOf3
 v3:=Tryz.zeroValue3
 t9:=Tryz.underlying9
 a9:=Tryz.isAgg9
 z9:=Tryz.sizeOf9
 v9:=Tryz.zeroValue9
 t37:=Tryz.underlying282
 a37:=Tryz.isAgg282
 z37:=Tryz.sizeOf282
 v37:=Tryz.zeroValue282
 t70:=Tryz.underlying281
 a70:=Tryz.isAgg281
 z70:=Tryz.sizeOf281
 v70:=Tryz.zeroValue281
 t72:=Tryz.underlying284
 a72:=Tryz.isAgg284
 z72:=Tryz.sizeOf284
 v72:=Tryz.zeroValue284
 t127:=Tryz.underlying307
 a127:=Tryz.isAgg307
 z127:=Tryz.sizeOf307
 v127:=Tryz.zeroValue307 }
theorem Tryz.DO:Builder.Extra Tryz.prog Tryz.EN:={
 sizeBuilder:=by kernel_rfl
 liesBuilder:=by kernel_rfl
 t5:=Tryz.underlying5
 a5:=Tryz.isAgg5
 z5:=Tryz.sizeOf5
 v5:=Tryz.zeroValue5
 infoByte:=by kernel_rfl
 cellsByte:=by kernel_rfl
 sizeByte:=by kernel_rfl
 neB5:=by decide }
open Go.RowKit in
theorem Tryz.Builder_String_any (B b:Nat) (l:List UInt8) (w:ab) (h:Lib.IsBuilder 284 5 B b (Lib.byteCells l) w) (hBw:B≤w.heap.size) :
  Calls Tryz.prog 281 #[.pointer (some ⟨b,0,none⟩)] w fun e w'=>e = .returned (.string ⟨l.toArray⟩)∧Below B w w':=Any.Builder_String_any Tryz.jV Tryz.DO B b l w h hBw
def Tryz.Ty:ax:=⟨fun | 125=>214 | 128=>265 | 129=>266 | n=>n,fun | 46=>232 | 3=>3 | 51=>269 | 53=>248 | 4=>4 | 5=>5 | 9=>9 | n=>n,fun | n=>n⟩
theorem Tryz.jZ:Go.Proofs.Lays.n125 Tryz.prog Tryz.Ty:={
 mixed:=by kernel_rfl
 f125:=Tryz.func214.trans (congrArg some (by kernel_rfl))
 f128:=Tryz.func265.trans (congrArg some (by kernel_rfl))
 f129:=Tryz.func266.trans (congrArg some (by kernel_rfl))
 t3:=Tryz.underlying3
 a3:=Tryz.isAgg3
 z3:=Tryz.sizeOf3
 v3:=Tryz.zeroValue3
 t4:=Tryz.underlying4
 a4:=Tryz.isAgg4
 z4:=Tryz.sizeOf4
 v4:=Tryz.zeroValue4
 t5:=Tryz.underlying5
 a5:=Tryz.isAgg5
 z5:=Tryz.sizeOf5
 v5:=Tryz.zeroValue5
 t9:=Tryz.underlying9
 a9:=Tryz.isAgg9
 z9:=Tryz.sizeOf9
 v9:=Tryz.zeroValue9
 t46:=Tryz.underlying232
 a46:=Tryz.isAgg232
 z46:=Tryz.sizeOf232
 v46:=Tryz.zeroValue232
 t51:=Tryz.underlying269
 a51:=Tryz.isAgg269
 z51:=Tryz.sizeOf269
 v51:=Tryz.zeroValue269
 t53:=Tryz.underlying248
 a53:=Tryz.isAgg248
 z53:=Tryz.sizeOf248
 v53:=Tryz.zeroValue248 }
theorem Tryz.bits_Len (x:Int) (w:ab) (h0:0≤x) (h1:x≤18446744073709551615) :
  Calls Tryz.prog 214 #[.int .u64 x] w fun e w'=>e = .returned (.int .i64 (bg x.toNat))∧w'=w:=Any.bits_Len Tryz.jZ x w h0 h1
def Tryz.Tw:ax:=⟨fun | 134=>285 | 129=>266 | n=>n,fun | 53=>248 | 3=>3 | 4=>4 | 46=>232 | 5=>5 | 9=>9 | n=>n,fun | n=>n⟩
theorem Tryz.jX:Go.Proofs.Lays.n134 Tryz.prog Tryz.Tw:={
 mixed:=by kernel_rfl
 f129:=Tryz.func266.trans (congrArg some (by kernel_rfl))
 f134:=Tryz.func285.trans (congrArg some (by kernel_rfl))
 t3:=Tryz.underlying3
 a3:=Tryz.isAgg3
 z3:=Tryz.sizeOf3
 v3:=Tryz.zeroValue3
 t4:=Tryz.underlying4
 a4:=Tryz.isAgg4
 z4:=Tryz.sizeOf4
 v4:=Tryz.zeroValue4
 t5:=Tryz.underlying5
 a5:=Tryz.isAgg5
 z5:=Tryz.sizeOf5
 v5:=Tryz.zeroValue5
 t9:=Tryz.underlying9
 a9:=Tryz.isAgg9
 z9:=Tryz.sizeOf9
 v9:=Tryz.zeroValue9
 t46:=Tryz.underlying232
 a46:=Tryz.isAgg232
 z46:=Tryz.sizeOf232
 v46:=Tryz.zeroValue232
 t53:=Tryz.underlying248
 a53:=Tryz.isAgg248
 z53:=Tryz.sizeOf248
 v53:=Tryz.zeroValue248 }
theorem Tryz.bits_LeadingZeros64 (x:Int) (w:ab) (h0:0≤x) (h1:x≤18446744073709551615) :
  Calls Tryz.prog 285 #[.int .u64 x] w fun e w'=>e = .returned (.int .i64 (64 - (bg x.toNat:Int)))∧w'=w:=Any.bits_LeadingZeros64 Tryz.jX x w h0 h1
def Tryz.T0:ax:=⟨fun | 103=>161 | 210=>227 | 206=>271 | n=>n,fun | 9=>9 | 4=>4 | 24=>190 | 3=>3 | n=>n,fun | n=>n⟩
theorem Tryz.jc:Go.Proofs.Lays.n103 Tryz.prog Tryz.T0:={
 mixed:=by kernel_rfl
 f103:=Tryz.func161.trans (congrArg some (by kernel_rfl))
 f206:=Tryz.func271.trans (congrArg some (by kernel_rfl))
 f210:=Tryz.func227.trans (congrArg some (by kernel_rfl))
 t3:=Tryz.underlying3
 a3:=Tryz.isAgg3
 z3:=Tryz.sizeOf3
 v3:=Tryz.zeroValue3
 t4:=Tryz.underlying4
 a4:=Tryz.isAgg4
 z4:=Tryz.sizeOf4
 v4:=Tryz.zeroValue4
 t9:=Tryz.underlying9
 a9:=Tryz.isAgg9
 z9:=Tryz.sizeOf9
 v9:=Tryz.zeroValue9
 t24:=Tryz.underlying190
 a24:=Tryz.isAgg190
 z24:=Tryz.sizeOf190
 v24:=Tryz.zeroValue190 }
open Go.RowKit in
theorem Tryz.strings_CutPrefix (s p:ByteArray) (w:ab) :
  Calls Tryz.prog 161 #[.string s,.string p] w fun e w'=>e = .returned (.tuple #[.string ⟨(fF s.data.toList p.data.toList).toArray⟩,.bool (fK s.data.toList p.data.toList)])∧w'=w:=Any.strings_CutPrefix Tryz.jc s p w
def Tryz.zH:ax:=⟨fun | 215=>267 | n=>n,fun | 3=>3 | 4=>4 | n=>n,fun | n=>n⟩
def Tryz.Tz:ax:=⟨fun | 122=>216 | 215=>267 | n=>n,fun | 3=>3 | 4=>4 | n=>n,fun | n=>n⟩
theorem Tryz.ja:Go.Proofs.Lays.n122 Tryz.prog Tryz.Tz:={
 mixed:=by kernel_rfl
 f122:=Tryz.func216.trans (congrArg some (by kernel_rfl))
 f215:=Tryz.func267.trans (congrArg some (by kernel_rfl))
 t3:=Tryz.underlying3
 a3:=Tryz.isAgg3
 z3:=Tryz.sizeOf3
 v3:=Tryz.zeroValue3
 t4:=Tryz.underlying4
 a4:=Tryz.isAgg4
 z4:=Tryz.sizeOf4
 v4:=Tryz.zeroValue4 }
open Go.RowKit in
theorem Tryz.cmp_Compare_int (x y:Int) (w:ab) :
  Calls Tryz.prog 216 #[.int .i64 x,.int .i64 y] w fun e w'=>e = .returned (.int .i64 (Lib.compareInt x y))∧w'=w:=Any.cmp_Compare_int Tryz.ja x y w
def Tryz.Tu:ax:=⟨fun | 172=>231 | 244=>273 | 245=>274 | 247=>300 | 279=>301 | 280=>302 | 281=>303 | 282=>304 | 287=>314 | 316=>315 | 171=>277 | 205=>316 | 321=>325 | 322=>326 | 243=>305 | 246=>317 | 283=>318 | 284=>319 | 285=>320 | 286=>321 | 129=>266 | 317=>327 | 318=>328 | 319=>329 | 320=>330 | 337=>332 | 338=>333 | n=>n,fun | 9=>9 | 3=>3 | 75=>239 | 76=>240 | 4=>4 | 5=>5 | 167=>298 | 37=>282 | 0=>0 | 85=>299 | 2=>2 | 168=>301 | 53=>248 | 175=>313 | 46=>232 | 210=>317 | 127=>307 | 145=>330 | 143=>328 | 21=>21 | 171=>320 | 173=>322 | 212=>332 | 51=>269 | 20=>20 | 213=>333 | 232=>335 | 233=>336 | 80=>247 | n=>n,fun | 15=>3 | 16=>4 | 17=>5 | 18=>6 | 19=>7 | n=>n⟩
theorem Tryz.jU:Go.Proofs.Lays.n172 Tryz.prog Tryz.Tu:={
 mixed:=by kernel_rfl
 f129:=Tryz.func266.trans (congrArg some (by kernel_rfl))
 f171:=Tryz.func277.trans (congrArg some (by kernel_rfl))
 f172:=Tryz.func231.trans (congrArg some (by kernel_rfl))
 f205:=Tryz.func316.trans (congrArg some (by kernel_rfl))
 f243:=Tryz.func305.trans (congrArg some (by kernel_rfl))
 f244:=Tryz.func273.trans (congrArg some (by kernel_rfl))
 f245:=Tryz.func274.trans (congrArg some (by kernel_rfl))
 f246:=Tryz.func317.trans (congrArg some (by kernel_rfl))
 f247:=Tryz.func300.trans (congrArg some (by kernel_rfl))
 f279:=Tryz.func301.trans (congrArg some (by kernel_rfl))
 f280:=Tryz.func302.trans (congrArg some (by kernel_rfl))
 f281:=Tryz.func303.trans (congrArg some (by kernel_rfl))
 f282:=Tryz.func304.trans (congrArg some (by kernel_rfl))
 f283:=Tryz.func318.trans (congrArg some (by kernel_rfl))
 f284:=Tryz.func319.trans (congrArg some (by kernel_rfl))
 f285:=Tryz.func320.trans (congrArg some (by kernel_rfl))
 f286:=Tryz.func321.trans (congrArg some (by kernel_rfl))
 f287:=Tryz.func314.trans (congrArg some (by kernel_rfl))
 f316:=Tryz.func315.trans (congrArg some (by kernel_rfl))
 f317:=Tryz.func327.trans (congrArg some (by kernel_rfl))
 f318:=Tryz.func328.trans (congrArg some (by kernel_rfl))
 f319:=Tryz.func329.trans (congrArg some (by kernel_rfl))
 f320:=Tryz.func330.trans (congrArg some (by kernel_rfl))
 f321:=Tryz.func325.trans (congrArg some (by kernel_rfl))
 f322:=Tryz.func326.trans (congrArg some (by kernel_rfl))
 f337:=Tryz.func332.trans (congrArg some (by kernel_rfl))
 f338:=Tryz.func333.trans (congrArg some (by kernel_rfl))
 t0:=Tryz.underlying0
 a0:=Tryz.isAgg0
 z0:=Tryz.sizeOf0
 v0:=Tryz.zeroValue0
 t2:=Tryz.underlying2
 a2:=Tryz.isAgg2
 z2:=Tryz.sizeOf2
 v2:=Tryz.zeroValue2
 t3:=Tryz.underlying3
 a3:=Tryz.isAgg3
 z3:=Tryz.sizeOf3
 v3:=Tryz.zeroValue3
 t4:=Tryz.underlying4
 a4:=Tryz.isAgg4
 z4:=Tryz.sizeOf4
 v4:=Tryz.zeroValue4
 t5:=Tryz.underlying5
 a5:=Tryz.isAgg5
 z5:=Tryz.sizeOf5
 v5:=Tryz.zeroValue5
 t9:=Tryz.underlying9
 a9:=Tryz.isAgg9
 z9:=Tryz.sizeOf9
 v9:=Tryz.zeroValue9
 t20:=Tryz.underlying20
 a20:=Tryz.isAgg20
 z20:=Tryz.sizeOf20
 v20:=Tryz.zeroValue20
 t21:=Tryz.underlying21
 a21:=Tryz.isAgg21
 z21:=Tryz.sizeOf21
 v21:=Tryz.zeroValue21
 t37:=Tryz.underlying282
 a37:=Tryz.isAgg282
 z37:=Tryz.sizeOf282
 v37:=Tryz.zeroValue282
 t46:=Tryz.underlying232
 a46:=Tryz.isAgg232
 z46:=Tryz.sizeOf232
 v46:=Tryz.zeroValue232
 t51:=Tryz.underlying269
 a51:=Tryz.isAgg269
 z51:=Tryz.sizeOf269
 v51:=Tryz.zeroValue269
 t53:=Tryz.underlying248
 a53:=Tryz.isAgg248
 z53:=Tryz.sizeOf248
 v53:=Tryz.zeroValue248
 t75:=Tryz.underlying239
 a75:=Tryz.isAgg239
 z75:=Tryz.sizeOf239
 v75:=Tryz.zeroValue239
 t76:=Tryz.underlying240
 a76:=Tryz.isAgg240
 z76:=Tryz.sizeOf240
 v76:=Tryz.zeroValue240
 t85:=Tryz.underlying299
 a85:=Tryz.isAgg299
 z85:=Tryz.sizeOf299
 v85:=Tryz.zeroValue299
 t127:=Tryz.underlying307
 a127:=Tryz.isAgg307
 z127:=Tryz.sizeOf307
 v127:=Tryz.zeroValue307
 t143:=Tryz.underlying328
 a143:=Tryz.isAgg328
 z143:=Tryz.sizeOf328
 v143:=Tryz.zeroValue328
 t145:=Tryz.underlying330
 a145:=Tryz.isAgg330
 z145:=Tryz.sizeOf330
 v145:=Tryz.zeroValue330
 t167:=Tryz.underlying298
 a167:=Tryz.isAgg298
 z167:=Tryz.sizeOf298
 v167:=Tryz.zeroValue298
 t168:=Tryz.underlying301
 a168:=Tryz.isAgg301
 z168:=Tryz.sizeOf301
 v168:=Tryz.zeroValue301
 t171:=Tryz.underlying320
 a171:=Tryz.isAgg320
 z171:=Tryz.sizeOf320
 v171:=Tryz.zeroValue320
 t173:=Tryz.underlying322
 a173:=Tryz.isAgg322
 z173:=Tryz.sizeOf322
 v173:=Tryz.zeroValue322
 t175:=Tryz.underlying313
 a175:=Tryz.isAgg313
 z175:=Tryz.sizeOf313
 v175:=Tryz.zeroValue313
 t210:=Tryz.underlying317
 a210:=Tryz.isAgg317
 z210:=Tryz.sizeOf317
 v210:=Tryz.zeroValue317
 t212:=Tryz.underlying332
 a212:=Tryz.isAgg332
 z212:=Tryz.sizeOf332
 v212:=Tryz.zeroValue332
 t213:=Tryz.underlying333
 a213:=Tryz.isAgg333
 z213:=Tryz.sizeOf333
 t232:=Tryz.underlying335
 a232:=Tryz.isAgg335
 z232:=Tryz.sizeOf335
 v232:=Tryz.zeroValue335
 t233:=Tryz.underlying336
 a233:=Tryz.isAgg336
 z233:=Tryz.sizeOf336
 v233:=Tryz.zeroValue336
 g15:=by kernel_rfl
 g16:=by kernel_rfl
 g17:=by kernel_rfl
 g18:=by kernel_rfl
 g19:=by kernel_rfl }
open Go.RowKit in
theorem Tryz.strconv_Atoi (s:ByteArray) (n:Int) (hl:s.size≤18) (h:Lib.atoi s.data.toList=some n) (w:ab) :
  Calls Tryz.prog 231 #[.string s] w fun e w'=>e = .returned (.tuple #[.int .i64 n,.nilIface])∧∃ t,w'=Lib.bytesWorld w 5 t:=Any.strconv_Atoi Tryz.jU s n hl h w
def Tryz.Tx:ax:=⟨fun | 129=>266 | n=>n,fun | 53=>248 | 3=>3 | 4=>4 | 46=>232 | 5=>5 | 9=>9 | n=>n,fun | n=>n⟩
theorem Tryz.jY:Go.Proofs.Lays.n129 Tryz.prog Tryz.Tx:={
 mixed:=by kernel_rfl
 f129:=Tryz.func266.trans (congrArg some (by kernel_rfl))
 t3:=Tryz.underlying3
 a3:=Tryz.isAgg3
 z3:=Tryz.sizeOf3
 v3:=Tryz.zeroValue3
 t4:=Tryz.underlying4
 a4:=Tryz.isAgg4
 z4:=Tryz.sizeOf4
 v4:=Tryz.zeroValue4
 t5:=Tryz.underlying5
 a5:=Tryz.isAgg5
 z5:=Tryz.sizeOf5
 v5:=Tryz.zeroValue5
 t9:=Tryz.underlying9
 a9:=Tryz.isAgg9
 z9:=Tryz.sizeOf9
 v9:=Tryz.zeroValue9
 t46:=Tryz.underlying232
 a46:=Tryz.isAgg232
 z46:=Tryz.sizeOf232
 v46:=Tryz.zeroValue232
 t53:=Tryz.underlying248
 a53:=Tryz.isAgg248
 z53:=Tryz.sizeOf248
 v53:=Tryz.zeroValue248 }
theorem Tryz.bits_Len64 (x:Int) (w:ab) (h0:0≤x) (h1:x≤18446744073709551615) :
  Calls Tryz.prog 266 #[.int .u64 x] w fun e w'=>e = .returned (.int .i64 (bg x.toNat))∧w'=w:=Any.bits_Len64 Tryz.jY x w h0 h1
def Tryz.Ts:ax:=⟨fun | 283=>318 | n=>n,fun | 3=>3 | 9=>9 | 4=>4 | n=>n,fun | n=>n⟩
theorem Tryz.jS:Go.Proofs.Lays.n283 Tryz.prog Tryz.Ts:={
 mixed:=by kernel_rfl
 f283:=Tryz.func318.trans (congrArg some (by kernel_rfl))
 t3:=Tryz.underlying3
 a3:=Tryz.isAgg3
 z3:=Tryz.sizeOf3
 v3:=Tryz.zeroValue3
 t4:=Tryz.underlying4
 a4:=Tryz.isAgg4
 z4:=Tryz.sizeOf4
 v4:=Tryz.zeroValue4
 t9:=Tryz.underlying9
 a9:=Tryz.isAgg9
 z9:=Tryz.sizeOf9
 v9:=Tryz.zeroValue9 }
open Go.Lib in
theorem Tryz.internal_strconv_small (i:Nat) (h:i<100) (w:ab) :
  Calls Tryz.prog 318 #[.int .i64 i] w fun e w'=>e = .returned (.string ⟨(Lib.decDigits i).toArray⟩)∧w'=w:=Any.internal_strconv_small Tryz.jS i h w
def Tryz.SJ:ax:=⟨fun | 284=>319 | 129=>266 | 317=>327 | 318=>328 | n=>n,fun | 53=>248 | 3=>3 | 212=>332 | 0=>0 | 4=>4 | 46=>232 | 5=>5 | 9=>9 | n=>n,fun | 17=>5 | n=>n⟩
theorem Tryz.CH:Go.Proofs.LaysM.n284 Tryz.prog Tryz.SJ:={
 mixed:=by kernel_rfl
 f129:=Tryz.func266.trans (congrArg some (by kernel_rfl))
 f284:=Tryz.func319.trans (congrArg some (by kernel_rfl))
 f317:=Tryz.func327.trans (congrArg some (by kernel_rfl))
 f318:=Tryz.func328.trans (congrArg some (by kernel_rfl))
 t0:=Tryz.underlying0
 a0:=Tryz.isAgg0
 z0:=Tryz.sizeOf0
 v0:=Tryz.zeroValue0
 t3:=Tryz.underlying3
 a3:=Tryz.isAgg3
 z3:=Tryz.sizeOf3
 v3:=Tryz.zeroValue3
 t4:=Tryz.underlying4
 a4:=Tryz.isAgg4
 z4:=Tryz.sizeOf4
 v4:=Tryz.zeroValue4
 t5:=Tryz.underlying5
 a5:=Tryz.isAgg5
 z5:=Tryz.sizeOf5
 v5:=Tryz.zeroValue5
 t9:=Tryz.underlying9
 a9:=Tryz.isAgg9
 z9:=Tryz.sizeOf9
 v9:=Tryz.zeroValue9
 t46:=Tryz.underlying232
 a46:=Tryz.isAgg232
 z46:=Tryz.sizeOf232
 v46:=Tryz.zeroValue232
 t53:=Tryz.underlying248
 a53:=Tryz.isAgg248
 z53:=Tryz.sizeOf248
 v53:=Tryz.zeroValue248
 t212:=Tryz.underlying332
 a212:=Tryz.isAgg332
 z212:=Tryz.sizeOf332
 v212:=Tryz.zeroValue332
 g17:=by kernel_rfl
 i0:=by kernel_rfl
 i3:=by kernel_rfl
 i4:=by kernel_rfl
 i5:=by kernel_rfl
 i9:=by kernel_rfl
 i46:=by kernel_rfl
 i53:=by kernel_rfl
 i212:=by kernel_rfl
 m17:=by kernel_rfl }
open Go.Lib in
theorem Tryz.internal_strconv_numDigits (u:Nat) (h1:1≤u) (h2:u<18446744073709551616) (w:ab) (htab:Lib.TabIs Tryz.prog w "internal/strconv.uint64pow10" .u64 fR) :
  Calls Tryz.prog 319 #[.int .u64 u] w fun e w'=>e = .returned (.int .i64 (Lib.nDigits u))∧w'=w:=Any.internal_strconv_numDigits Tryz.CH u h1 h2 w htab
def Tryz.Tr:ax:=⟨fun | 285=>320 | n=>n,fun | 37=>282 | 53=>248 | 3=>3 | 4=>4 | 51=>269 | 9=>9 | 5=>5 | 0=>0 | n=>n,fun | n=>n⟩
theorem Tryz.jR:Go.Proofs.Lays.n285 Tryz.prog Tryz.Tr:={
 mixed:=by kernel_rfl
 f285:=Tryz.func320.trans (congrArg some (by kernel_rfl))
 t0:=Tryz.underlying0
 a0:=Tryz.isAgg0
 z0:=Tryz.sizeOf0
 v0:=Tryz.zeroValue0
 t3:=Tryz.underlying3
 a3:=Tryz.isAgg3
 z3:=Tryz.sizeOf3
 v3:=Tryz.zeroValue3
 t4:=Tryz.underlying4
 a4:=Tryz.isAgg4
 z4:=Tryz.sizeOf4
 v4:=Tryz.zeroValue4
 t5:=Tryz.underlying5
 a5:=Tryz.isAgg5
 z5:=Tryz.sizeOf5
 v5:=Tryz.zeroValue5
 t9:=Tryz.underlying9
 a9:=Tryz.isAgg9
 z9:=Tryz.sizeOf9
 v9:=Tryz.zeroValue9
 t37:=Tryz.underlying282
 a37:=Tryz.isAgg282
 z37:=Tryz.sizeOf282
 v37:=Tryz.zeroValue282
 t51:=Tryz.underlying269
 a51:=Tryz.isAgg269
 z51:=Tryz.sizeOf269
 v51:=Tryz.zeroValue269
 t53:=Tryz.underlying248
 a53:=Tryz.isAgg248
 z53:=Tryz.sizeOf248
 v53:=Tryz.zeroValue248 }
open Go.RowKit Go.Sort Go.Lib in
theorem Tryz.internal_strconv_formatBase10 (DF off cap:Nat) (u:Nat) (d:Array UInt8) (w:ab) (hH:Holds (fun(b:UInt8)=>bf .u8 (b.toNat:Int)) w DF off d) (hu:u<10^d.size) (hu64:u<18446744073709551616) (hsz:d.size<4611686018427387904) :
  Calls Tryz.prog 320 #[.slice (some ⟨DF,off,none⟩) d.size cap,.int .u64 u] w fun e w' =>
   e = .returned (.tuple #[])∧∃ (n v':Nat) (dk:Array UInt8),w'=(putRow (fun(b:UInt8)=>bf .u8 (b.toNat:Int)) w DF off dk).drewN n∧FmtInv d.size u 0 v' dk:=Any.internal_strconv_formatBase10 Tryz.jR DF off cap u d w hH hu hu64 hsz
def Tryz.SK:ax:=⟨fun | 171=>277 | 243=>305 | 246=>317 | 283=>318 | 284=>319 | 285=>320 | 286=>321 | 129=>266 | 317=>327 | 318=>328 | 319=>329 | 320=>330 | 337=>332 | 338=>333 | n=>n,fun | 3=>3 | 9=>9 | 2=>2 | 4=>4 | 171=>320 | 0=>0 | 53=>248 | 37=>282 | 5=>5 | 173=>322 | 212=>332 | 51=>269 | 20=>20 | 213=>333 | 46=>232 | 232=>335 | 233=>336 | n=>n,fun | 17=>5 | 18=>6 | 19=>7 | n=>n⟩
theorem Tryz.CI:Go.Proofs.LaysM.n171 Tryz.prog Tryz.SK:={
 mixed:=by kernel_rfl
 f129:=Tryz.func266.trans (congrArg some (by kernel_rfl))
 f171:=Tryz.func277.trans (congrArg some (by kernel_rfl))
 f243:=Tryz.func305.trans (congrArg some (by kernel_rfl))
 f246:=Tryz.func317.trans (congrArg some (by kernel_rfl))
 f283:=Tryz.func318.trans (congrArg some (by kernel_rfl))
 f284:=Tryz.func319.trans (congrArg some (by kernel_rfl))
 f285:=Tryz.func320.trans (congrArg some (by kernel_rfl))
 f286:=Tryz.func321.trans (congrArg some (by kernel_rfl))
 f317:=Tryz.func327.trans (congrArg some (by kernel_rfl))
 f318:=Tryz.func328.trans (congrArg some (by kernel_rfl))
 f319:=Tryz.func329.trans (congrArg some (by kernel_rfl))
 f320:=Tryz.func330.trans (congrArg some (by kernel_rfl))
 f337:=Tryz.func332.trans (congrArg some (by kernel_rfl))
 f338:=Tryz.func333.trans (congrArg some (by kernel_rfl))
 t0:=Tryz.underlying0
 a0:=Tryz.isAgg0
 z0:=Tryz.sizeOf0
 v0:=Tryz.zeroValue0
 t2:=Tryz.underlying2
 a2:=Tryz.isAgg2
 z2:=Tryz.sizeOf2
 v2:=Tryz.zeroValue2
 t3:=Tryz.underlying3
 a3:=Tryz.isAgg3
 z3:=Tryz.sizeOf3
 v3:=Tryz.zeroValue3
 t4:=Tryz.underlying4
 a4:=Tryz.isAgg4
 z4:=Tryz.sizeOf4
 v4:=Tryz.zeroValue4
 t5:=Tryz.underlying5
 a5:=Tryz.isAgg5
 z5:=Tryz.sizeOf5
 v5:=Tryz.zeroValue5
 t9:=Tryz.underlying9
 a9:=Tryz.isAgg9
 z9:=Tryz.sizeOf9
 v9:=Tryz.zeroValue9
 t20:=Tryz.underlying20
 a20:=Tryz.isAgg20
 z20:=Tryz.sizeOf20
 v20:=Tryz.zeroValue20
 t37:=Tryz.underlying282
 a37:=Tryz.isAgg282
 z37:=Tryz.sizeOf282
 v37:=Tryz.zeroValue282
 t46:=Tryz.underlying232
 a46:=Tryz.isAgg232
 z46:=Tryz.sizeOf232
 v46:=Tryz.zeroValue232
 t51:=Tryz.underlying269
 a51:=Tryz.isAgg269
 z51:=Tryz.sizeOf269
 v51:=Tryz.zeroValue269
 t53:=Tryz.underlying248
 a53:=Tryz.isAgg248
 z53:=Tryz.sizeOf248
 v53:=Tryz.zeroValue248
 t171:=Tryz.underlying320
 a171:=Tryz.isAgg320
 z171:=Tryz.sizeOf320
 v171:=Tryz.zeroValue320
 t173:=Tryz.underlying322
 a173:=Tryz.isAgg322
 z173:=Tryz.sizeOf322
 v173:=Tryz.zeroValue322
 t212:=Tryz.underlying332
 a212:=Tryz.isAgg332
 z212:=Tryz.sizeOf332
 v212:=Tryz.zeroValue332
 t213:=Tryz.underlying333
 a213:=Tryz.isAgg333
 z213:=Tryz.sizeOf333
 t232:=Tryz.underlying335
 a232:=Tryz.isAgg335
 z232:=Tryz.sizeOf335
 v232:=Tryz.zeroValue335
 t233:=Tryz.underlying336
 a233:=Tryz.isAgg336
 z233:=Tryz.sizeOf336
 v233:=Tryz.zeroValue336
 g17:=by kernel_rfl
 g18:=by kernel_rfl
 g19:=by kernel_rfl
 i0:=by kernel_rfl
 i2:=by kernel_rfl
 i3:=by kernel_rfl
 i4:=by kernel_rfl
 i5:=by kernel_rfl
 i9:=by kernel_rfl
 i20:=by kernel_rfl
 i37:=by kernel_rfl
 i46:=by kernel_rfl
 i51:=by kernel_rfl
 i53:=by kernel_rfl
 i171:=by kernel_rfl
 i173:=by kernel_rfl
 i212:=by kernel_rfl
 i232:=by kernel_rfl
 i233:=by kernel_rfl
 m17:=by kernel_rfl
 m18:=by kernel_rfl
 m19:=by kernel_rfl }
open Go.RowKit Go.Sort Go.Lib in
theorem Tryz.strconv_Itoa (n:Int) (h0 : -9223372036854775808≤n) (h1:n≤9223372036854775807) (w:ab) (htab:Lib.TabIs Tryz.prog w "internal/strconv.uint64pow10" .u64 fR) :
  Calls Tryz.prog 277 #[.int .i64 n] w fun e w'=>e = .returned (.string ⟨(Lib.itoa n).toArray⟩)∧∃ k os,w'=grow (w.drewN k) os:=Any.strconv_Itoa Tryz.CI n h0 h1 w htab
def Tryz.Tv:ax:=⟨fun | 145=>160 | 220=>226 | 219=>270 | 217=>296 | 225=>297 | 224=>298 | 267=>299 | 266=>312 | 314=>313 | n=>n,fun | 9=>9 | 4=>4 | 59=>188 | 3=>3 | 5=>5 | 46=>232 | 146=>311 | 51=>269 | n=>n,fun | 1=>0 | n=>n⟩
theorem Tryz.jW:Go.Proofs.Lays.n145 Tryz.prog Tryz.Tv:={
 mixed:=by kernel_rfl
 f145:=Tryz.func160.trans (congrArg some (by kernel_rfl))
 f217:=Tryz.func296.trans (congrArg some (by kernel_rfl))
 f219:=Tryz.func270.trans (congrArg some (by kernel_rfl))
 f220:=Tryz.func226.trans (congrArg some (by kernel_rfl))
 f224:=Tryz.func298.trans (congrArg some (by kernel_rfl))
 f225:=Tryz.func297.trans (congrArg some (by kernel_rfl))
 f266:=Tryz.func312.trans (congrArg some (by kernel_rfl))
 f267:=Tryz.func299.trans (congrArg some (by kernel_rfl))
 f314:=Tryz.func313.trans (congrArg some (by kernel_rfl))
 t3:=Tryz.underlying3
 a3:=Tryz.isAgg3
 z3:=Tryz.sizeOf3
 v3:=Tryz.zeroValue3
 t4:=Tryz.underlying4
 a4:=Tryz.isAgg4
 z4:=Tryz.sizeOf4
 v4:=Tryz.zeroValue4
 t5:=Tryz.underlying5
 a5:=Tryz.isAgg5
 z5:=Tryz.sizeOf5
 v5:=Tryz.zeroValue5
 t9:=Tryz.underlying9
 a9:=Tryz.isAgg9
 z9:=Tryz.sizeOf9
 v9:=Tryz.zeroValue9
 t46:=Tryz.underlying232
 a46:=Tryz.isAgg232
 z46:=Tryz.sizeOf232
 v46:=Tryz.zeroValue232
 t51:=Tryz.underlying269
 a51:=Tryz.isAgg269
 z51:=Tryz.sizeOf269
 v51:=Tryz.zeroValue269
 t59:=Tryz.underlying188
 a59:=Tryz.isAgg188
 z59:=Tryz.sizeOf188
 v59:=Tryz.zeroValue188
 t146:=Tryz.underlying311
 a146:=Tryz.isAgg311
 z146:=Tryz.sizeOf311
 v146:=Tryz.zeroValue311
 g1:=by kernel_rfl }
open Go.RowKit Go.Lib in
theorem Tryz.strings_Cut (s sep:ByteArray) (m:Int) (w:ab) (hs:s.size<4294967281) (hm:w.cell? ⟨0,0,none⟩=some (.int .i64 m)) :
  Calls Tryz.prog 160 #[.string s,.string sep] w fun e w'=>e = .returned (.tuple #[.string ⟨(fS s.data.toList sep.data.toList).1.toArray⟩,.string ⟨(fS s.data.toList sep.data.toList).2.1.toArray⟩,.bool (fS s.data.toList sep.data.toList).2.2])∧∃ n,w'=w.drewN n:=Any.strings_Cut Tryz.jW s sep m w hs hm
def Tryz.Ae:ax:=⟨fun | 99=>229 | 206=>271 | n=>n,fun | 9=>9 | 4=>4 | 3=>3 | n=>n,fun | n=>n⟩
theorem Tryz.yu:Go.Proofs.Lays.n99 Tryz.prog Tryz.Ae:={
 mixed:=by kernel_rfl
 f99:=Tryz.func229.trans (congrArg some (by kernel_rfl))
 f206:=Tryz.func271.trans (congrArg some (by kernel_rfl))
 t3:=Tryz.underlying3
 a3:=Tryz.isAgg3
 z3:=Tryz.sizeOf3
 v3:=Tryz.zeroValue3
 t4:=Tryz.underlying4
 a4:=Tryz.isAgg4
 z4:=Tryz.sizeOf4
 v4:=Tryz.zeroValue4
 t9:=Tryz.underlying9
 a9:=Tryz.isAgg9
 z9:=Tryz.sizeOf9
 v9:=Tryz.zeroValue9 }
open Go.RowKit Go.Lib in
theorem Tryz.strings_HasPrefix (s p:ByteArray) (w:ab) :
  Calls Tryz.prog 229 #[.string s,.string p] w fun e w'=>e = .returned (.bool (fK s.data.toList p.data.toList))∧w'=w:=Any.strings_HasPrefix Tryz.yu s p w
def Tryz.T1:ax:=⟨fun | 101=>230 | 208=>272 | 206=>271 | n=>n,fun | 9=>9 | 4=>4 | 3=>3 | n=>n,fun | n=>n⟩
theorem Tryz.jd:Go.Proofs.Lays.n101 Tryz.prog Tryz.T1:={
 mixed:=by kernel_rfl
 f101:=Tryz.func230.trans (congrArg some (by kernel_rfl))
 f206:=Tryz.func271.trans (congrArg some (by kernel_rfl))
 f208:=Tryz.func272.trans (congrArg some (by kernel_rfl))
 t3:=Tryz.underlying3
 a3:=Tryz.isAgg3
 z3:=Tryz.sizeOf3
 v3:=Tryz.zeroValue3
 t4:=Tryz.underlying4
 a4:=Tryz.isAgg4
 z4:=Tryz.sizeOf4
 v4:=Tryz.zeroValue4
 t9:=Tryz.underlying9
 a9:=Tryz.isAgg9
 z9:=Tryz.sizeOf9
 v9:=Tryz.zeroValue9 }
open Go.RowKit Go.Lib in
theorem Tryz.strings_TrimPrefix (s p:ByteArray) (w:ab) :
  Calls Tryz.prog 230 #[.string s,.string p] w fun e w'=>e = .returned (.string ⟨(fF s.data.toList p.data.toList).toArray⟩)∧w'=w:=Any.strings_TrimPrefix Tryz.jd s p w
def Tryz.Tt:ax:=⟨fun | 264=>244 | n=>n,fun | 53=>248 | 46=>232 | n=>n,fun | n=>n⟩
theorem Tryz.jT:Go.Proofs.Lays.n264 Tryz.prog Tryz.Tt:={
 mixed:=by kernel_rfl
 f264:=Tryz.func244.trans (congrArg some (by kernel_rfl))
 t46:=Tryz.underlying232
 a46:=Tryz.isAgg232
 z46:=Tryz.sizeOf232
 v46:=Tryz.zeroValue232
 t53:=Tryz.underlying248
 a53:=Tryz.isAgg248
 z53:=Tryz.sizeOf248
 v53:=Tryz.zeroValue248 }
open Go.RowKit Go.Lib in
theorem Tryz.bits_Mul64 (x y:Nat) (hx:x<18446744073709551616) (hy:y<18446744073709551616) (w:ab) :
  Calls Tryz.prog 244 #[.int .u64 x,.int .u64 y] w fun e w'=>e = .returned (.tuple #[.int .u64 ((x*y / 18446744073709551616:Nat):Int),.int .u64 ((x*y%18446744073709551616:Nat):Int)])∧w'=w:=Any.bits_Mul64 Tryz.jT x y hx hy w
def Tryz.EO:ax:=⟨fun | 105=>279 | 212=>307 | 99=>229 | 165=>308 | 166=>280 | 170=>309 | 169=>281 | 263=>322 | 264=>244 | 206=>271 | 240=>310 | 241=>323 | 276=>324 | 277=>331 | n=>n,fun | 9=>9 | 3=>3 | 4=>4 | 20=>20 | 0=>0 | 46=>232 | 109=>304 | 5=>5 | 72=>284 | 76=>240 | 51=>269 | 146=>311 | 53=>248 | 148=>249 | 70=>281 | 37=>282 | 75=>239 | 127=>307 | 164=>325 | 80=>247 | n=>n,fun | n=>n⟩
theorem Tryz.jb:Go.Proofs.Lays.n105 Tryz.prog Tryz.EO:={
 mixed:=by kernel_rfl
 f99:=Tryz.func229.trans (congrArg some (by kernel_rfl))
 f105:=Tryz.func279.trans (congrArg some (by kernel_rfl))
 f165:=Tryz.func308.trans (congrArg some (by kernel_rfl))
 f166:=Tryz.func280.trans (congrArg some (by kernel_rfl))
 f169:=Tryz.func281.trans (congrArg some (by kernel_rfl))
 f170:=Tryz.func309.trans (congrArg some (by kernel_rfl))
 f206:=Tryz.func271.trans (congrArg some (by kernel_rfl))
 f212:=Tryz.func307.trans (congrArg some (by kernel_rfl))
 f240:=Tryz.func310.trans (congrArg some (by kernel_rfl))
 f241:=Tryz.func323.trans (congrArg some (by kernel_rfl))
 f263:=Tryz.func322.trans (congrArg some (by kernel_rfl))
 f264:=Tryz.func244.trans (congrArg some (by kernel_rfl))
 f276:=Tryz.func324.trans (congrArg some (by kernel_rfl))
 f277:=Tryz.func331.trans (congrArg some (by kernel_rfl))
 t0:=Tryz.underlying0
 a0:=Tryz.isAgg0
 z0:=Tryz.sizeOf0
 v0:=Tryz.zeroValue0
 t3:=Tryz.underlying3
 a3:=Tryz.isAgg3
 z3:=Tryz.sizeOf3
 v3:=Tryz.zeroValue3
 t4:=Tryz.underlying4
 a4:=Tryz.isAgg4
 z4:=Tryz.sizeOf4
 v4:=Tryz.zeroValue4
 t5:=Tryz.underlying5
 a5:=Tryz.isAgg5
 z5:=Tryz.sizeOf5
 v5:=Tryz.zeroValue5
 t9:=Tryz.underlying9
 a9:=Tryz.isAgg9
 z9:=Tryz.sizeOf9
 v9:=Tryz.zeroValue9
 t20:=Tryz.underlying20
 a20:=Tryz.isAgg20
 z20:=Tryz.sizeOf20
 v20:=Tryz.zeroValue20
 t37:=Tryz.underlying282
 a37:=Tryz.isAgg282
 z37:=Tryz.sizeOf282
 v37:=Tryz.zeroValue282
 t46:=Tryz.underlying232
 a46:=Tryz.isAgg232
 z46:=Tryz.sizeOf232
 v46:=Tryz.zeroValue232
 t51:=Tryz.underlying269
 a51:=Tryz.isAgg269
 z51:=Tryz.sizeOf269
 v51:=Tryz.zeroValue269
 t53:=Tryz.underlying248
 a53:=Tryz.isAgg248
 z53:=Tryz.sizeOf248
 v53:=Tryz.zeroValue248
 t70:=Tryz.underlying281
 a70:=Tryz.isAgg281
 z70:=Tryz.sizeOf281
 v70:=Tryz.zeroValue281
 t72:=Tryz.underlying284
 a72:=Tryz.isAgg284
 z72:=Tryz.sizeOf284
 v72:=Tryz.zeroValue284
 t75:=Tryz.underlying239
 a75:=Tryz.isAgg239
 z75:=Tryz.sizeOf239
 v75:=Tryz.zeroValue239
 t76:=Tryz.underlying240
 a76:=Tryz.isAgg240
 z76:=Tryz.sizeOf240
 v76:=Tryz.zeroValue240
 t109:=Tryz.underlying304
 a109:=Tryz.isAgg304
 z109:=Tryz.sizeOf304
 v109:=Tryz.zeroValue304
 t127:=Tryz.underlying307
 a127:=Tryz.isAgg307
 z127:=Tryz.sizeOf307
 v127:=Tryz.zeroValue307
 t146:=Tryz.underlying311
 a146:=Tryz.isAgg311
 z146:=Tryz.sizeOf311
 v146:=Tryz.zeroValue311
 t148:=Tryz.underlying249
 a148:=Tryz.isAgg249
 z148:=Tryz.sizeOf249
 v148:=Tryz.zeroValue249
 t164:=Tryz.underlying325
 a164:=Tryz.isAgg325
 z164:=Tryz.sizeOf325
 v164:=Tryz.zeroValue325 }
theorem Tryz.DP:Builder.Extra Tryz.prog Tryz.EO:={
 sizeBuilder:=by kernel_rfl
 liesBuilder:=by kernel_rfl
 t5:=Tryz.underlying5
 a5:=Tryz.isAgg5
 z5:=Tryz.sizeOf5
 v5:=Tryz.zeroValue5
 infoByte:=by kernel_rfl
 cellsByte:=by kernel_rfl
 sizeByte:=by kernel_rfl
 neB5:=by decide }
open Go.RowKit Go.Lib in
theorem Tryz.strings_Repeat (s:ByteArray) (c:Nat) (w:ab) (hc:c≤9223372036854775807) (hlen:s.size*c≤140737488355328) :
  Calls Tryz.prog 279 #[.string s,.int .i64 c] w fun e w'=>e = .returned (.string ⟨(Lib.repeatL s.data.toList c).toArray⟩)∧Below w.heap.size w w':=Any.strings_Repeat Tryz.jb Tryz.DP s c w hc hlen
end Go.Proofs
namespace Go.Proofs.YtknegjaeoffnbaaGreatDoor
open Go.RowKit
section
variable {P:au} {N:Nat} {m:Sl} {S:ab→Prop} {ty:ae} {T yT:ae} {x y:af} {a b:Nat} {k:IntKind}
theorem S4 (n:Int):IntKind.u64.wrap n=n%18446744073709551616:=IntKind.wrap_u64 n
theorem AM (hx:ev m x=some (.int .u64 (a:Int))) (hy:ev m y=some (.int k (b:Int))) (z:Nat) (h:b≤64∧a*2^b%18446744073709551616=z):Qt P N m S (.binOp .shl T x y yT) ty (.int .u64 (z:Int)):=fun s w _ _ _ _ ha _=>by
 have h1:min b 64=b:=by omega
 have h2:¬ ((b:Int)<0):=by omega
 have h3:IntKind.u64.wrap ((a:Int)*2^b)=(z:Int):=by
  rw [S4,← h.2,bR,aX,aW];rfl
 simp [execOp,ha.ev hx,ha.ev hy,eqGuard,binOp,fJ,bO,h1,h2,h3]
theorem Rv (hx:ev m x=some (.int .u64 (a:Int))) (hy:ev m y=some (.int k (b:Int))) (z:Nat) (h:b≤64∧a / 2^b=z):Qt P N m S (.binOp .shr T x y yT) ty (.int .u64 (z:Int)):=fun s w _ _ _ _ ha _=>by
 have h1:min b 64=b:=by omega
 have h2:¬ ((b:Int)<0):=by omega
 have h3:(a:Int) / 2^b=(z:Int):=by
  rw [← h.2,bS,aW];rfl
 simp [execOp,ha.ev hx,ha.ev hy,eqGuard,binOp,fJ,bO,h1,h2]
 exact h3
theorem Vp (n:Nat) (h:n<18446744073709551616):(aR 64 (n:Int)).toNat=n:=by
 rw [BitVec.toNat_ofInt]
 have h3:(((2^64:Nat):Int))=18446744073709551616:=by decide
 rw [h3];omega
theorem Oe (hx:ev m x=some (.int .u64 (a:Int))) (hy:ev m y=some (.int .u64 ((4294967295:Nat):Int))) (z:Nat) (h:a<18446744073709551616∧a%4294967296=z):Qt P N m S (.binOp .and T x y yT) ty (.int .u64 (z:Int)):=fun s w _ _ _ _ ha _=>by
 have e:IntKind.u64.wrap (((aR 64 (a:Int) &&& aR 64 ((4294967295:Nat):Int)).toNat:Nat):Int)=(z:Int):=by
  rw [BitVec.toNat_and,Vp a h.1,Vp _ (by decide),show(4294967295:Nat)=2^32 - 1 by decide,Nat.and_two_pow_sub_one_eq_mod,S4]
  have:=h.2
  omega
 have e2:(do eqGuard .and T x y (.int .u64 (a:Int)) (.int .u64 ((4294967295:Nat):Int));binOp .and T (.int .u64 (a:Int)) (.int .u64 ((4294967295:Nat):Int)):Sem aa).run P w = .ok (.int .u64 (z:Int)) w:=by
  simp only [eqGuard,binOp,fm,ar,aJ,aw]
  rw [← e];rfl
 simp only [execOp,ha.ev hx,ha.ev hy]
 simp only [ar] at e2 ⊢
 rw [e2];rfl
theorem dG (hx:ev m x=some (.int .u64 (a:Int))) (hy:ev m y=some (.int .u64 (b:Int))) (z:Nat) (h:a<18446744073709551616∧(∃ c k,a=c*2^k∧b<2^k)∧b<18446744073709551616∧a+b=z):Qt P N m S (.binOp .or T x y yT) ty (.int .u64 (z:Int)):=fun s w _ _ _ _ ha _=>by
 obtain ⟨h1,⟨c,k,h2,h3⟩,h4,h5⟩:=h
 have e:IntKind.u64.wrap (((aR 64 (a:Int) ||| aR 64 (b:Int)).toNat:Nat):Int)=(z:Int):=by
  have h7:a ||| b=a+b:=by rw [h2,aF,Nat.two_pow_add_eq_or_of_lt h3]
  have h8:a ||| b<2^64:=Nat.or_lt_two_pow h1 h4
  rw [BitVec.toNat_or,Vp a h1,Vp b h4,S4]
  omega
 have e2:(do eqGuard .or T x y (.int .u64 (a:Int)) (.int .u64 (b:Int));binOp .or T (.int .u64 (a:Int)) (.int .u64 (b:Int)):Sem aa).run P w = .ok (.int .u64 (z:Int)) w:=by
  simp only [eqGuard,binOp,fm,ar,aJ,aw]
  rw [← e];rfl
 simp only [execOp,ha.ev hx,ha.ev hy]
 simp only [ar] at e2 ⊢
 rw [e2];rfl
theorem WY (hx:ev m x=some (.int .u64 (a:Int))) (hy:ev m y=some (.int .u64 (b:Int))) (z:Nat) (h:(a+b)%18446744073709551616=z):Qt P N m S (.binOp .add T x y yT) ty (.int .u64 (z:Int)) :=
 QU hx hy (by show some (bf .u64 (IntKind.u64.wrap ((a:Int)+b)))=_;rw [S4];congr 2;omega)
theorem VQ (hx:ev m x=some (.int .u64 (a:Int))) (hy:ev m y=some (.int .u64 (b:Int))) (z:Nat) (h:a*b%18446744073709551616=z):Qt P N m S (.binOp .mul T x y yT) ty (.int .u64 (z:Int)) :=
 QU hx hy (by show some (bf .u64 (IntKind.u64.wrap ((a:Int)*b)))=_;rw [S4,← aX];congr 2;omega)
theorem WX (hx:ev m x=some (.int .u64 (a:Int))) (hy:ev m y=some (.int .u64 (b:Int))) (z:Nat) (h:b<18446744073709551616∧(a+18446744073709551616 - b)%18446744073709551616=z):Qt P N m S (.binOp .sub T x y yT) ty (.int .u64 (z:Int)) :=
 QU hx hy (by show some (bf .u64 (IntKind.u64.wrap ((a:Int) - b)))=_;rw [S4];congr 2;omega)
theorem AN (hx:ev m x=some (.int .u64 (a:Int))) (hy:ev m y=some (.int .u64 (b:Int))) (z:Nat) (h:0<b∧a<18446744073709551616∧a / b=z):Qt P N m S (.binOp .quo T x y yT) ty (.int .u64 (z:Int)):=by
 have:=LW (P:=P) (N:=N) (m:=m) (S:=S) (ty:=ty) (T:=T) (yT:=yT) hx hy (by omega)
 have e:IntKind.u64.wrap ((a:Int).tdiv b)=(z:Int):=by
  have h1:a / b≤a:=Nat.div_le_self a b
  rw [Int.tdiv_eq_ediv_of_nonneg (by omega),← bS,S4,h.2.2]
  omega
 rw [e] at this;exact this
theorem yP (hx:ev m x=some (.int .u64 (a:Int))) (hy:ev m y=some (.int .u64 (b:Int))) (z:Nat) (h:0<b∧a%b=z):Qt P N m S (.binOp .rem T x y yT) ty (.int .u64 (z:Int)):=by
 have:=Kn (P:=P) (N:=N) (m:=m) (S:=S) (ty:=ty) (T:=T) (yT:=yT) hx hy (by omega) (by omega)
 rw [← bR,h.2] at this;exact this
end
section
variable {D yn1 yn0 u un q r:Nat}
theorem CN (hD:D=4294967296) (h:q*yn1+r=u) (hc:q*yn0≤D*r+un):q*(yn1*D+yn0)≤u*D+un:=by
 subst hD
 rw [fU,← fH,← h]
 generalize q*yn1=A at *
 generalize q*yn0=B at *
 omega
theorem jh (hy:0<yn1*D+yn0) (hq:(u*D+un) / (yn1*D+yn0)≤q) (h:q*(yn1*D+yn0)≤u*D+un):q=(u*D+un) / (yn1*D+yn0) :=
 Nat.le_antisymm ((Nat.le_div_iff_mul_le hy).2 h) hq
theorem Di (hD:D=4294967296) (hy:0<yn1*D+yn0) (h:q*yn1+r=u) (hq:(u*D+un) / (yn1*D+yn0)≤q) (hc:q*yn0≤D*r+un):q=(u*D+un) / (yn1*D+yn0):=jh hy hq (CN hD h hc)
theorem Bw (hD:D=4294967296) (hy:0<yn1*D+yn0) (h0:yn0<D) (h:q*yn1+r=u) (hq:(u*D+un) / (yn1*D+yn0)≤q) (hqD:q≤D) (hr:D≤r):q=(u*D+un) / (yn1*D+yn0):=by
 refine Di hD hy h hq ?_
 have h1:q*yn0≤D*D:=fB hqD (by omega)
 have h2:D*D≤D*r:=eZ D hr
 omega
theorem Yp (hD:D=4294967296) (hy:0<yn1*D+yn0) (hu:u<yn1*D+yn0) (hun:un<D) (h:q*yn1+r=u) (hc:D≤q∨D*r+un<q*yn0):(u*D+un) / (yn1*D+yn0)<q:=by
 rw [aY hy]
 rcases hc with hc | hc
 ·have h1:D*(yn1*D+yn0)≤q*(yn1*D+yn0):=bc _ hc
  have h2:(u+1)*D≤(yn1*D+yn0)*D:=bc _ hu
  rw [aH] at h2
  rw [aF D] at h1
  omega
 ·subst hD
  rw [fU,← fH,← h]
  generalize q*yn1=A at *
  generalize q*yn0=B at *
  omega
theorem Nc (hD:D=4294967296) (h1:2147483648≤yn1) (hun:un<D):(u*D+un) / (yn1*D+yn0)≤u / yn1:=by
 have h2:0<yn1*D:=by subst hD;omega
 refine er (Nat.div_le_div_left (Nat.le_add_right _ yn0) h2) ?_
 rw [aF yn1,← Nat.div_div_eq_div_mul]
 have:(u*D+un) / D=u:=by subst hD;omega
 rw [this];exact aA _
theorem ER (hD:D=4294967296) (h1:2147483648≤yn1) (h0:yn0<D) (hu:u<yn1*D+yn0):u / yn1≤D+1:=by
 have:u / yn1<D+2:=by
  rw [aY (by omega)]
  subst hD;omega
 omega
end
structure Rb (yn1 yn0 u un:Nat) where
 q:Nat
 r:Nat
 h:q*yn1+r=u
 le:(u*4294967296+un) / (yn1*4294967296+yn0)≤q
 up:q≤4294967297
 lo:r<4294967296
theorem Yo {q yn1 r u:Nat} (h:q*yn1+r=u) (hq:1≤q):(q - 1)*yn1+(r+yn1)=u:=by
 obtain ⟨k,rfl⟩:∃ k,q=k+1:=⟨q - 1,by omega⟩
 rw [aH] at h
 rw [Nat.add_sub_cancel];omega
theorem Fo {q a:Nat} (hq:q<4294967296) (ha:a<4294967296):q*a<18446744073709551616:=by
 have:q*a≤4294967295*4294967295:=fB (by omega) (by omega)
 omega
theorem FY {P:au} {N:Nat} {m:Sl} {S:ab→Prop} {ty:ae} {src dst:ae} {x:af} {k':IntKind} {n:Nat} (hx:ev m x=some (.int k' (n:Int))) (hs:(P.underlying src).isSome=true) (hk:RD P dst=some .u64) (h:n<18446744073709551616):Qt P N m S (.convert src dst x) ty (.int .u64 (n:Int)):=by
 have:=Pv (P:=P) (N:=N) (m:=m) (S:=S) (ty:=ty) hx hs hk
 rw [S4,bN (by omega) (by omega)] at this;exact this
theorem QT.same [Dr] {P:au} {f:FuncId} {args:List aa} {w:ab} {F:Gs} {v:aa} (he:Enters P f) (hF:Fits F w) (h:Calls P f args.toArray w fun e w'=>e = .returned v∧w'=w):QT P f args w F (fun(_:Unit)=>v) (fun _ _=>True) :=
 ⟨he,h.mono fun e w' ⟨h1,h2⟩=>⟨(),F,h1,by rw [h2];exact PZ.refl _,Gs.le_refl F,fun _ _=>rfl,by rw [h2];exact hF,fun _ _=>trivial⟩⟩
theorem Fg {y:Nat} (h0:0<y) (h1:y<18446744073709551616):∃ s:Nat,(64 - (bg y:Int))=s∧s<64∧y*2^s<18446744073709551616∧9223372036854775808≤y*2^s:=by
 obtain ⟨g1,g2,g3⟩:=Lib.bitLenAux_bounds 64 y h1 (by omega)
 have g4:bg y≤64:=Lib.bitLen_le y 64 (by omega) h1
 change 1≤bg y at g1
 change 2^(bg y - 1)≤y at g2
 change y<2^bg y at g3
 generalize bg y=n at *
 refine⟨64 - n,by omega,by omega,?_,?_⟩
 ·have e:2^n*2^(64 - n)=18446744073709551616:=by rw [← eB,show n+(64 - n)=64 by omega]
  rw [← e];exact Nat.mul_lt_mul_of_pos_right g3 (eE _)
 ·have e:2^(n - 1)*2^(64 - n)=9223372036854775808:=by rw [← eB,show n - 1+(64 - n)=63 by omega]
  rw [← e];exact bc _ g2
theorem yk {w:ab} {F:Gs} {y s:Nat} (hF:Fits F w) (h1:y<18446744073709551616) (hs:(64 - (bg y:Int))=s):QT Tryz.prog 285 [.int .u64 (y:Int)] w F (fun(_:Unit)=>.int .i64 (s:Int)) (fun _ _=>True) :=
 QT.same (enters_of Tryz.func285 (by rfl) rfl) hF ((Tryz.bits_LeadingZeros64 (y:Int) w (by omega) (by omega)).mono fun e w' ⟨h2,h3⟩=>⟨by rw [h2,eu,hs],h3⟩)
theorem Iv {A B R1 R0 u v v1 v0:Nat} (h1:A+R1=u*4294967296+v1) (h2:B+R0=R1*4294967296+v0) (h3:v=v1*4294967296+v0):A*4294967296+B+R0=u*18446744073709551616+v:=by
 subst h3;omega
theorem UA {q a r:Nat} (h:((q*a:Nat):Int)>(r:Int)):1≤q:=by
 rcases e9 q with h0 | h0
 ·subst h0;simp at h;omega
 ·exact h0
theorem yx {q:Nat} (h:q<4294967296):q*4294967296%18446744073709551616=q*4294967296:=by omega
theorem yy {q p:Nat} (h:q<4294967296) (k:p<4294967296):(q*4294967296+p)%18446744073709551616=q*4294967296+p:=by omega
theorem ju {w:ab} {F:Gs} {h l y:Nat} (hF:Fits F w) (hh:h<y) (hl:l<18446744073709551616) (hy:y<18446744073709551616) :
  QT Tryz.prog 284 [.int .u64 (h:Int),.int .u64 (l:Int),.int .u64 (y:Int)] w F (fun(_:Unit)=>.tuple #[.int .u64 (((h*18446744073709551616+l) / y:Nat):Int),.int .u64 (((h*18446744073709551616+l)%y:Nat):Int)]) (fun _ _=>True):=by
 obtain ⟨s,hs,hs64,hY1,hY2⟩:=Fg (by omega) hy
 obtain ⟨Y,hYe⟩:∃ Y,Y=y*2^s:=⟨_,rfl⟩
 obtain ⟨a1,ha1⟩:∃ a1,a1=Y / 4294967296:=⟨_,rfl⟩
 obtain ⟨a0,ha0⟩:∃ a0,a0=Y%4294967296:=⟨_,rfl⟩
 obtain ⟨u,hu⟩:∃ u,u=h*2^s+l / 2^(64 - s):=⟨_,rfl⟩
 obtain ⟨v,hv⟩:∃ v,v=l*2^s%18446744073709551616:=⟨_,rfl⟩
 obtain ⟨v1,hv1⟩:∃ v1,v1=v / 4294967296:=⟨_,rfl⟩
 obtain ⟨v0,hv0⟩:∃ v0,v0=v%4294967296:=⟨_,rfl⟩
 rw [← hYe] at hY1 hY2
 have hA1:2147483648≤a1:=by omega
 have ha0l:a0<4294967296:=by omega
 have hv1l:v1<4294967296:=by omega
 have hv0l:v0<4294967296:=by omega
 have hYa:a1*4294967296+a0=Y:=by omega
 have e64:2^(64 - s)*2^s=18446744073709551616:=by rw [← eB,show 64 - s+s=64 by omega]
 have hp:=eE s
 have hlow:l / 2^(64 - s)<2^s:=by rw [aY (eE _),aF,e64];exact hl
 have hhs:h*2^s+2^s≤Y:=by have:=bc (2^s) hh;rw [Nat.succ_mul] at this;omega
 have huY:u<Y:=by omega
 have hNv:u*18446744073709551616+v=(h*18446744073709551616+l)*2^s:=by
  have h1:l*2^s / 18446744073709551616=l / 2^(64 - s):=by rw [← e64,Nat.mul_div_mul_right _ _ hp]
  have h2:=aV (l*2^s) 18446744073709551616
  rw [h1,← hv] at h2
  rw [hu,aH,aH,Nat.mul_right_comm]
  omega
 obtain ⟨Q1,hQ1⟩:∃ Q1,Q1=(u*4294967296+v1) / (a1*4294967296+a0):=⟨_,rfl⟩
 obtain ⟨R1,hR1⟩:∃ R1,R1=(u*4294967296+v1)%(a1*4294967296+a0):=⟨_,rfl⟩
 have hY0:0<a1*4294967296+a0:=by omega
 have hR1l:R1<Y:=by rw [hR1,← hYa];exact ej _ hY0
 have hD1:Q1*Y+R1=u*4294967296+v1:=by rw [hQ1,hR1,← hYa,aF];exact aV _ _
 have hQ1l:Q1<4294967296:=by rw [hQ1,aY hY0,hYa];omega
 obtain ⟨Q0,hQ0⟩:∃ Q0,Q0=(R1*4294967296+v0) / (a1*4294967296+a0):=⟨_,rfl⟩
 obtain ⟨R0,hR0⟩:∃ R0,R0=(R1*4294967296+v0)%(a1*4294967296+a0):=⟨_,rfl⟩
 have hR0l:R0<Y:=by rw [hR0,← hYa];exact ej _ hY0
 have hD0:Q0*Y+R0=R1*4294967296+v0:=by rw [hQ0,hR0,← hYa,aF];exact aV _ _
 have hQ0l:Q0<4294967296:=by rw [hQ0,aY hY0,hYa];omega
 have hall:(Q1*4294967296+Q0)*Y+R0=(h*18446744073709551616+l)*2^s:=by
  rw [← hNv,aH,Nat.mul_right_comm]
  exact Iv hD1 hD0 (by omega)
 have hq:(h*18446744073709551616+l) / y=Q1*4294967296+Q0:=by
  have:=Nat.mul_div_mul_right (h*18446744073709551616+l) y hp
  rw [← this,← hall,← hYe,aF _ Y,Nat.mul_add_div (by omega),Nat.div_eq_of_lt hR0l,eP]
 have hr:(h*18446744073709551616+l)%y=R0 / 2^s:=by
  have:=Nat.mul_mod_mul_right (2^s) (h*18446744073709551616+l) y
  rw [← hall,← hYe,aF _ Y,Nat.mul_add_mod,bD hR0l] at this
  rw [this,Nat.mul_div_cancel _ hp]
 refine QT.intro (G:=fun _=>True) Tryz.func284 rfl (by rfl) rfl rfl hF (fun F' hF'=>trivial)<|wE<|wB rfl<|wD rfl<|QG<|wF rfl<|QA (QU rfl rfl rfl)<|QE<|QC ?_
 refine QQ rfl (fun hc=>?_) (fun hc=>?_)
 ·exact absurd hc (by simp at hc;omega)
 ·
  refine QO<|QC<|QG<|wF rfl<|wA rfl<|QA (QU rfl rfl rfl)<|QE<|QC ?_
  refine QQ rfl (fun hc=>?_) (fun hc=>?_)
  ·exact absurd hc (by simp at hc;omega)
  ·
   refine QO<|QC<|QG<|wF rfl<|QA (QU rfl rfl rfl)<|QE<|QC ?_
   refine QQ rfl (fun hc=>?_) (fun hc=>?_)
   ·
    refine QG<|JV wG mixed (by kernel_rfl)<|QK (QD rfl)<|QK (QD rfl)<|QK (AN rfl rfl (l / y) (⟨by omega,by omega,rfl⟩))<|QK (QD rfl)<|QK (QD rfl)<|QK (yP rfl rfl (l%y) (⟨by omega,rfl⟩))<|QK (QF rfl)<|QK (QF rfl)<|Q3<|QC<|QS ?_
    exact Ja () rfl (.tmp rfl (.tmp rfl .nil)) (by have h0:h=0:=(by simp at hc;omega);subst h0;simp) (fun _ _=>trivial)
   ·
    refine QO<|QC<|wF rfl<|QH rfl (fun w F hF hG=>yk (s:=s) hF (by omega) hs) (fun c35=>QA (FY rfl gW zJ (by omega))<|wD rfl<|wF rfl<|wA rfl<|QA (AM rfl rfl (Y) (⟨by omega,by rw [← hYe];omega⟩))<|wD rfl<|wF rfl<|QA (Rv (b:=32) rfl rfl (a1) (⟨by decide,ha1.symm⟩))<|wB rfl<|QE<|QC ?_)
    refine wF rfl<|QA (Oe rfl rfl (a0) (⟨by omega,ha0.symm⟩))<|wD rfl<|wF rfl<|wA rfl<|QA (AM rfl rfl (h*2^s) (⟨by omega,bD (by omega)⟩))<|wA rfl<|wA rfl<|QA (WX (a:=64) rfl rfl (64 - s) (⟨by omega,by omega⟩))<|QA (Rv rfl rfl (l / 2^(64 - s)) (⟨by omega,rfl⟩))<|QA (dG rfl rfl (u) (⟨by omega,⟨h,s,rfl,hlow⟩,by omega,hu.symm⟩))<|wD rfl<|wF rfl<|wA rfl<|QA (AM rfl rfl (v) (⟨by omega,hv.symm⟩)) ?_
    refine wD rfl<|wF rfl<|QA (Rv (b:=32) rfl rfl (v1) (⟨by decide,hv1.symm⟩))<|wD rfl<|wF rfl<|QA (Oe rfl rfl (v0) (⟨by omega,hv0.symm⟩))<|wD rfl<|wF rfl<|wA rfl<|QA (AN rfl rfl (u / a1) (⟨by omega,by omega,rfl⟩))<|wB rfl<|QE<|QC ?_
    refine wF rfl<|wA rfl<|wA rfl<|QA (VQ rfl rfl (u / a1*a1) (by have:=bF u a1;omega))<|QA (WX rfl rfl (u%a1) (by have:=aV u a1;rw [aF] at this;have:=bF u a1;omega))<|wB rfl<|QE<|QC ?_
    refine Ky (ι:=Unit) (fun _=>[(2,.int .u64 ((Y:Nat):Int)),(8,.int .u64 ((s:Nat):Int)),(9,.int .u64 ((a1:Nat):Int)),(10,.int .u64 ((a0:Nat):Int)),(11,.int .u64 ((u:Nat):Int)),(13,.int .u64 ((v1:Nat):Int)),(14,.int .u64 ((v0:Nat):Int)),(15,.int .u64 ((Q1:Nat):Int))]) (fun _=>[]) (fun _ _=>True) ?_ ?_
    ·
     refine QX<|Xb (ι:=Rb a1 a0 u v1) (fun i=>[(2,.int .u64 ((Y:Nat):Int)),(8,.int .u64 ((s:Nat):Int)),(9,.int .u64 ((a1:Nat):Int)),(10,.int .u64 ((a0:Nat):Int)),(11,.int .u64 ((u:Nat):Int)),(13,.int .u64 ((v1:Nat):Int)),(14,.int .u64 ((v0:Nat):Int)),(15,.int .u64 ((i.q:Nat):Int)),(16,.int .u64 ((i.r:Nat):Int))]) (fun _=>[]) (fun _ _=>True) (fun i=>i.q) ⟨u / a1,u%a1,by rw [aF];exact aV u a1,Nc rfl hA1 hv1l,ER rfl hA1 ha0l (by omega),by have:=ej u (show a1>0 by omega);omega⟩ wS wG (fun _ _=>trivial) (fun i=>QG<|wF rfl<|QA (QU rfl rfl rfl)<|wA rfl ?_)
     refine Qn (t:=69) rfl (fun hb69=>?_) (fun hb69=>?_)
     ·
      refine QN rfl rfl rfl<|QN rfl rfl rfl<|QN rfl rfl rfl<|QN rfl rfl rfl<|QN rfl rfl rfl<|QN rfl rfl rfl<|QN rfl rfl rfl<|QN rfl rfl rfl<|QA (Qi rfl rfl rfl)<|QE<|QC ?_
      refine QQ rfl (fun hc=>?_) (fun hc=>?_)
      ·
       refine QO<|QC<|QX<|wF rfl<|QA (WX (b:=1) rfl rfl (i.q - 1) (⟨by decide,by have:=i.up;have:=wI hb69;omega⟩))<|wD rfl<|wF rfl<|wA rfl<|QA (WY rfl rfl (i.r+a1) (by have:=i.lo;omega))<|wD rfl<|wF rfl<|QA (QU rfl rfl rfl)<|QE<|QC ?_
       refine QQ rfl (fun hc=>?_) (fun hc=>?_)
       ·
        refine Qz ?_
        repeat (first | refine Qb ?_ | refine QV (by rfl) ?_)
        refine Qc ?_
        simp only [decide_eq_true_eq] at *;have more:=Yp (un:=v1) (D:=4294967296) rfl (by omega) (by omega) (by omega) i.h (.inl (by omega));exact J0 () ⟨rfl,rfl,rfl,rfl,rfl,rfl,rfl,congrArg (fun n:Nat=>some (bf .u64 (n:Int))) ((Bw rfl (by omega) ha0l (Yo i.h (by omega)) (by rw [← hQ1];rw [← hQ1] at more;omega) (by have:=i.up;omega) (by omega)).trans hQ1.symm),trivial⟩ wG (fun _ _=>trivial)
       ·
        refine QO<|Qk ?_
        simp only [decide_eq_true_eq,decide_eq_false_iff_not] at *;have more:=Yp (un:=v1) (D:=4294967296) rfl (by omega) (by omega) (by omega) i.h (.inl (by omega));exact Qo (⟨i.q - 1,i.r+a1,Yo i.h (by omega),by omega,by have:=i.up;omega,by omega⟩:Rb a1 a0 u v1) (by show i.q - 1<i.q;omega) wS wG (fun _ _=>trivial)
      ·
       refine Qz ?_
       repeat (first | refine Qb ?_ | refine QV (by rfl) ?_)
       refine Qc ?_
       cases hc
     ·
      refine QL rfl rfl<|wA rfl<|QL rfl rfl<|wA rfl<|QL rfl rfl<|QA (VQ rfl rfl (i.q*a0) (bD (Fo (by have:=wJ hb69;omega) ha0l)))<|QL rfl rfl<|wA rfl<|QL rfl rfl<|QA (VQ (a:=4294967296) rfl rfl (4294967296*i.r) (by have:=i.lo;omega))<|QL rfl rfl<|wA rfl<|QL rfl rfl<|QA (WY rfl rfl (4294967296*i.r+v1) (by have:=i.lo;omega))<|QL rfl rfl<|QA (QU rfl rfl rfl)<|QA (Qh rfl rfl rfl)<|QE<|QC ?_
      refine QQ rfl (fun hc=>?_) (fun hc=>?_)
      ·
       refine QO<|QC<|QX<|wF rfl<|QA (WX (b:=1) rfl rfl (i.q - 1) (⟨by decide,by have:=i.up;have:=UA (wI hc);omega⟩))<|wD rfl<|wF rfl<|wA rfl<|QA (WY rfl rfl (i.r+a1) (by have:=i.lo;omega))<|wD rfl<|wF rfl<|QA (QU rfl rfl rfl)<|QE<|QC ?_
       refine QQ rfl (fun hc=>?_) (fun hc=>?_)
       ·
        refine Qz ?_
        repeat (first | refine Qb ?_ | refine QV (by rfl) ?_)
        refine Qc ?_
        simp only [decide_eq_true_eq] at *;have more:=Yp (un:=v1) (D:=4294967296) rfl (by omega) (by omega) (by omega) i.h (.inr (by omega));exact J0 () ⟨rfl,rfl,rfl,rfl,rfl,rfl,rfl,congrArg (fun n:Nat=>some (bf .u64 (n:Int))) ((Bw rfl (by omega) ha0l (Yo i.h (by omega)) (by rw [← hQ1];rw [← hQ1] at more;omega) (by have:=i.up;omega) (by omega)).trans hQ1.symm),trivial⟩ wG (fun _ _=>trivial)
       ·
        refine QO<|Qk ?_
        simp only [decide_eq_true_eq,decide_eq_false_iff_not] at *;have more:=Yp (un:=v1) (D:=4294967296) rfl (by omega) (by omega) (by omega) i.h (.inr (by omega));exact Qo (⟨i.q - 1,i.r+a1,Yo i.h (by omega),by omega,by have:=i.up;omega,by omega⟩:Rb a1 a0 u v1) (by show i.q - 1<i.q;omega) wS wG (fun _ _=>trivial)
      ·
       refine Qz ?_
       repeat (first | refine Qb ?_ | refine QV (by rfl) ?_)
       refine Qc ?_
       simp only [decide_eq_false_iff_not] at *;exact J0 () ⟨rfl,rfl,rfl,rfl,rfl,rfl,rfl,congrArg (fun n:Nat=>some (bf .u64 (n:Int))) ((Di rfl (by omega) i.h i.le (by omega)).trans hQ1.symm),trivial⟩ wG (fun _ _=>trivial)
    ·intro i
     refine wF rfl<|QA (VQ (b:=4294967296) rfl rfl (u*4294967296%18446744073709551616) (rfl))<|wA rfl<|QA (WY rfl rfl ((u*4294967296+v1)%18446744073709551616) (by omega))<|wA rfl<|wA rfl<|QA (VQ rfl rfl (Q1*Y%18446744073709551616) (rfl))<|QA (WX rfl rfl (R1) (⟨by omega,by generalize Q1*Y=B at *;omega⟩))<|wD rfl<|wF rfl<|wA rfl<|QA (AN rfl rfl (R1 / a1) (⟨by omega,by omega,rfl⟩))<|wD rfl<|wF rfl<|wA rfl ?_
     refine wA rfl<|QA (VQ rfl rfl (R1 / a1*a1) (by have:=bF R1 a1;omega))<|QA (WX rfl rfl (R1%a1) (by have:=aV R1 a1;rw [aF] at this;have:=bF R1 a1;omega))<|wB rfl<|QE<|QC ?_
     refine Ky (ι:=Unit) (fun _=>[(2,.int .u64 ((Y:Nat):Int)),(8,.int .u64 ((s:Nat):Int)),(14,.int .u64 ((v0:Nat):Int)),(15,.int .u64 ((Q1:Nat):Int)),(17,.int .u64 ((R1:Nat):Int)),(18,.int .u64 ((Q0:Nat):Int))]) (fun _=>[]) (fun _ _=>True) ?_ ?_
     ·
      refine QX<|Xb (ι:=Rb a1 a0 R1 v0) (fun i=>[(2,.int .u64 ((Y:Nat):Int)),(8,.int .u64 ((s:Nat):Int)),(9,.int .u64 ((a1:Nat):Int)),(10,.int .u64 ((a0:Nat):Int)),(14,.int .u64 ((v0:Nat):Int)),(15,.int .u64 ((Q1:Nat):Int)),(17,.int .u64 ((R1:Nat):Int)),(18,.int .u64 ((i.q:Nat):Int)),(16,.int .u64 ((i.r:Nat):Int))]) (fun _=>[]) (fun _ _=>True) (fun i=>i.q) ⟨R1 / a1,R1%a1,by rw [aF];exact aV R1 a1,Nc rfl hA1 hv0l,ER rfl hA1 ha0l (by omega),by have:=ej R1 (show a1>0 by omega);omega⟩ wS wG (fun _ _=>trivial) (fun i=>QG<|wF rfl<|QA (QU rfl rfl rfl)<|wA rfl ?_)
      refine Qn (t:=104) rfl (fun hb104=>?_) (fun hb104=>?_)
      ·
       refine QN rfl rfl rfl<|QN rfl rfl rfl<|QN rfl rfl rfl<|QN rfl rfl rfl<|QN rfl rfl rfl<|QN rfl rfl rfl<|QN rfl rfl rfl<|QN rfl rfl rfl<|QA (Qi rfl rfl rfl)<|QE<|QC ?_
       refine QQ rfl (fun hc=>?_) (fun hc=>?_)
       ·
        refine QO<|QC<|QX<|wF rfl<|QA (WX (b:=1) rfl rfl (i.q - 1) (⟨by decide,by have:=i.up;have:=wI hb104;omega⟩))<|wD rfl<|wF rfl<|wA rfl<|QA (WY rfl rfl (i.r+a1) (by have:=i.lo;omega))<|wD rfl<|wF rfl<|QA (QU rfl rfl rfl)<|QE<|QC ?_
        refine QQ rfl (fun hc=>?_) (fun hc=>?_)
        ·
         refine Qz ?_
         repeat (first | refine Qb ?_ | refine QV (by rfl) ?_)
         refine Qc ?_
         simp only [decide_eq_true_eq] at *;have more:=Yp (un:=v0) (D:=4294967296) rfl (by omega) (by omega) (by omega) i.h (.inl (by omega));exact J0 () ⟨rfl,rfl,rfl,rfl,rfl,congrArg (fun n:Nat=>some (bf .u64 (n:Int))) ((Bw rfl (by omega) ha0l (Yo i.h (by omega)) (by rw [← hQ0];rw [← hQ0] at more;omega) (by have:=i.up;omega) (by omega)).trans hQ0.symm),trivial⟩ wG (fun _ _=>trivial)
        ·
         refine QO<|Qk ?_
         simp only [decide_eq_true_eq,decide_eq_false_iff_not] at *;have more:=Yp (un:=v0) (D:=4294967296) rfl (by omega) (by omega) (by omega) i.h (.inl (by omega));exact Qo (⟨i.q - 1,i.r+a1,Yo i.h (by omega),by omega,by have:=i.up;omega,by omega⟩:Rb a1 a0 R1 v0) (by show i.q - 1<i.q;omega) wS wG (fun _ _=>trivial)
       ·
        refine Qz ?_
        repeat (first | refine Qb ?_ | refine QV (by rfl) ?_)
        refine Qc ?_
        cases hc
      ·
       refine QL rfl rfl<|wA rfl<|QL rfl rfl<|wA rfl<|QL rfl rfl<|QA (VQ rfl rfl (i.q*a0) (bD (Fo (by have:=wJ hb104;omega) ha0l)))<|QL rfl rfl<|wA rfl<|QL rfl rfl<|QA (VQ (a:=4294967296) rfl rfl (4294967296*i.r) (by have:=i.lo;omega))<|QL rfl rfl<|wA rfl<|QL rfl rfl<|QA (WY rfl rfl (4294967296*i.r+v0) (by have:=i.lo;omega))<|QL rfl rfl<|QA (QU rfl rfl rfl)<|QA (Qh rfl rfl rfl)<|QE<|QC ?_
       refine QQ rfl (fun hc=>?_) (fun hc=>?_)
       ·
        refine QO<|QC<|QX<|wF rfl<|QA (WX (b:=1) rfl rfl (i.q - 1) (⟨by decide,by have:=i.up;have:=UA (wI hc);omega⟩))<|wD rfl<|wF rfl<|wA rfl<|QA (WY rfl rfl (i.r+a1) (by have:=i.lo;omega))<|wD rfl<|wF rfl<|QA (QU rfl rfl rfl)<|QE<|QC ?_
        refine QQ rfl (fun hc=>?_) (fun hc=>?_)
        ·
         refine Qz ?_
         repeat (first | refine Qb ?_ | refine QV (by rfl) ?_)
         refine Qc ?_
         simp only [decide_eq_true_eq] at *;have more:=Yp (un:=v0) (D:=4294967296) rfl (by omega) (by omega) (by omega) i.h (.inr (by omega));exact J0 () ⟨rfl,rfl,rfl,rfl,rfl,congrArg (fun n:Nat=>some (bf .u64 (n:Int))) ((Bw rfl (by omega) ha0l (Yo i.h (by omega)) (by rw [← hQ0];rw [← hQ0] at more;omega) (by have:=i.up;omega) (by omega)).trans hQ0.symm),trivial⟩ wG (fun _ _=>trivial)
        ·
         refine QO<|Qk ?_
         simp only [decide_eq_true_eq,decide_eq_false_iff_not] at *;have more:=Yp (un:=v0) (D:=4294967296) rfl (by omega) (by omega) (by omega) i.h (.inr (by omega));exact Qo (⟨i.q - 1,i.r+a1,Yo i.h (by omega),by omega,by have:=i.up;omega,by omega⟩:Rb a1 a0 R1 v0) (by show i.q - 1<i.q;omega) wS wG (fun _ _=>trivial)
       ·
        refine Qz ?_
        repeat (first | refine Qb ?_ | refine QV (by rfl) ?_)
        refine Qc ?_
        simp only [decide_eq_false_iff_not] at *;exact J0 () ⟨rfl,rfl,rfl,rfl,rfl,congrArg (fun n:Nat=>some (bf .u64 (n:Int))) ((Di rfl (by omega) i.h i.le (by omega)).trans hQ0.symm),trivial⟩ wG (fun _ _=>trivial)
     ·intro i
      refine wF rfl<|QA (VQ (b:=4294967296) rfl rfl (Q1*4294967296) (yx hQ1l))<|wA rfl<|QA (WY rfl rfl (Q1*4294967296+Q0) (yy hQ1l hQ0l))<|wA rfl<|QA (VQ (b:=4294967296) rfl rfl (R1*4294967296%18446744073709551616) (rfl))<|wA rfl<|QA (WY rfl rfl ((R1*4294967296+v0)%18446744073709551616) (by omega))<|wA rfl<|wA rfl<|QA (VQ rfl rfl (Q0*Y%18446744073709551616) (rfl))<|QA (WX rfl rfl (R0) (⟨by omega,by generalize Q0*Y=B at *;omega⟩))<|wA rfl<|QA (Rv rfl rfl (R0 / 2^s) (⟨by omega,rfl⟩))<|wB rfl<|wD rfl<|QS ?_
      exact Ja () rfl (.tmp rfl (.tmp rfl .nil)) (by rw [hq,hr]) (fun _ _=>trivial)
open Go.RowKit Ig
def Xo (x y:Int):Int:=x*y / W
def J1 (x y:Int):Int:=x*y%W
theorem Yn (x y:Int) (w:ab) (hx:0≤x∧x<W) (hy:0≤y∧y<W) :
  Calls Tryz.prog 244 #[.int .u64 x,.int .u64 y] w fun e w'=>e = .returned (.tuple #[.int .u64 (Xo x y),.int .u64 (J1 x y)])∧w=w':=by
 obtain ⟨a,rfl⟩:=av hx.1
 obtain ⟨b,rfl⟩:=av hy.1
 have hW:W=18446744073709551616:=rfl
 refine(Tryz.bits_Mul64 a b (by omega) (by omega) w).mono ?_
 rintro e w' ⟨rfl,rfl⟩
 refine⟨?_,rfl⟩
 unfold Xo J1
 rw [hW]
 simp only [bS,bR,aX]
 rfl
def Ar (h l y:Int):Int:=(h*W+l) / y
def I5 (h l y:Int):Int:=(h*W+l)%y
def AF (w:ab):Gs:=fun b=>match w.heap[b]? with | some (.cells c T _)=>some (c,T) | _=>none
theorem TM (w:ab):Fits (AF w) w:=by
 refine⟨fun b c T h=>?_,fun b c fr h=>?_⟩
 ·unfold AF at h
  split at h
  ·rename_i c' T' fr e;cases h;exact⟨fr,e⟩
  ·cases h
 ·unfold AF;rw [h]
theorem RL (h l y:Int) (w:ab) (hh:0≤h∧h<y) (hl:0≤l∧l<W) (hy:y<W) :
  Calls Tryz.prog 284 #[.int .u64 h,.int .u64 l,.int .u64 y] w fun e w'=>e = .returned (.tuple #[.int .u64 (Ar h l y),.int .u64 (I5 h l y)])∧Ext w w':=by
 obtain ⟨a,rfl⟩:=av hh.1
 obtain ⟨b,rfl⟩:=av hl.1
 obtain ⟨c,rfl⟩:=av (show 0≤y by omega)
 have hW:W=18446744073709551616:=rfl
 refine(ju (TM w) (h:=a) (l:=b) (y:=c) (by omega) (by omega) (by omega)).2.mono ?_
 rintro e w' ⟨_,F',rfl,hx,_⟩
 refine⟨?_,hx.toBelow⟩
 unfold Ar I5
 rw [hW]
 simp only [bS,bR,aX,Int.natCast_add]
 rfl
theorem CF (x:Int) (w:ab) (hx:0<x∧x<W) :
  Calls Tryz.prog 285 #[.int .u64 x] w fun e w'=>(∃ s:Nat,e = .returned (.int .i64 s)∧s<64∧x*2^s<W∧9223372036854775808≤x*2^s)∧w=w':=by
 obtain ⟨a,rfl⟩:=av (show 0≤x by omega)
 have hW:W=18446744073709551616:=rfl
 obtain ⟨s,h1,h2,h3,h4⟩:=Fg (y:=a) (by omega) (by omega)
 refine(Tryz.bits_LeadingZeros64 (a:Int) w (by omega) (by omega)).mono ?_
 rintro e w' ⟨rfl,rfl⟩
 refine⟨⟨s,?_,h2,?_,?_⟩,rfl⟩
 ·rw [eu,h1]
 ·rw [hW];have:((a*2^s:Nat):Int)<18446744073709551616:=by omega
  simpa [aX,aW] using this
 ·have:(9223372036854775808:Int)≤((a*2^s:Nat):Int):=by omega
  simpa [aX,aW] using this
theorem MD {x y o c:Int} (hx:0≤x∧x<W) (hy:0≤y∧y<W) (ho:0≤o∧o<W) (hc:0≤c∧c<W) :
  (0≤Xo x y∧Xo x y<W)∧(0≤J1 x y∧J1 x y<W) ∧
  (0≤XH (J1 x y) o 0∧XH (J1 x y) o 0<W) ∧
  (0≤Xo x y+Xf (J1 x y) o 0∧Xo x y+Xf (J1 x y) o 0<W) ∧
  (0≤XH (XH (J1 x y) o 0) c 0∧XH (XH (J1 x y) o 0) c 0<W) ∧
  (0≤Xo x y+Xf (J1 x y) o 0+Xf (XH (J1 x y) o 0) c 0∧Xo x y+Xf (J1 x y) o 0+Xf (XH (J1 x y) o 0) c 0<W) ∧
  XH (XH (J1 x y) o 0) c 0+W*(Xo x y+Xf (J1 x y) o 0+Xf (XH (J1 x y) o 0) c 0)=x*y+o+c:=by
 have hm0:0≤x*y:=aQ hx.1 hy.1
 have hm1:x*y≤(W - 1)*(W - 1):=fC (by omega) (by omega) hy.1 (by simp only [Wl];omega)
 have e1:J1 x y+W*Xo x y=x*y:=by unfold J1 Xo;rw [fQ];exact Int.mul_ediv_add_emod _ _
 have l0:0≤J1 x y:=Int.emod_nonneg _ (by decide)
 have l1:J1 x y<W:=Int.emod_lt_of_pos _ Jn
 have h0:0≤Xo x y:=fz hm0 (by decide)
 generalize x*y=m at *
 generalize J1 x y=lo at *
 generalize Xo x y=hi at *
 have a:=Wk (x:=lo) (y:=o) (c:=0) ⟨l0,l1⟩ ho (by decide)
 generalize XH lo o 0=lo1 at *
 generalize Xf lo o 0=c1 at *
 have a':=Wk (x:=lo1) (y:=c) (c:=0) a.2.1 hc (by decide)
 generalize XH lo1 c 0=lo2 at *
 generalize Xf lo1 c 0=c2 at *
 simp only [Wl] at *
 omega
def Y3 (la lb:List Int) (i j:Nat) (x:Int) (o:List Int) (c:Int):Prop :=
 o.length=la.length+lb.length∧DG W o∧(∀ p,i+lb.length≤p→Qa o p=0)∧(0≤c∧c<W) ∧
  dv W o+W^(i+j)*c=dv W (la.take i)*dv W lb+W^i*(x*dv W (lb.take j))
theorem Y3.step {la lb o:List Int} {i j:Nat} {x c:Int} (h:Y3 la lb i j x o c) (hx:0≤x∧x<W) (hb:DG W lb) (hj:j<lb.length) (hi:i<la.length) :
  Y3 la lb i (j+1) x (o.set (i+j) (XH (XH (J1 x (Qa lb j)) (Qa o (i+j)) 0) c 0))
   (Xo x (Qa lb j)+Xf (J1 x (Qa lb j)) (Qa o (i+j)) 0+Xf (XH (J1 x (Qa lb j)) (Qa o (i+j)) 0) c 0):=by
 obtain ⟨h1,h2,h3,h4,h5⟩:=h
 obtain ⟨_,_,_,_,m1,m2,m3⟩:=MD hx (JZ hb j) (JZ h2 (i+j)) h4
 refine⟨by simpa using h1,h2.set _ m1.1 m1.2,?_,m2,?_⟩
 ·intro p hp
  rw [Y1 (by omega),if_neg (by omega)];exact h3 p hp
 ·rw [Ge W (by omega),J7,← fI,aO]
  generalize XH (XH (J1 x (Qa lb j)) (Qa o (i+j)) 0) c 0=lo at *
  generalize Xo x (Qa lb j)+Xf (J1 x (Qa lb j)) (Qa o (i+j)) 0+Xf (XH (J1 x (Qa lb j)) (Qa o (i+j)) 0) c 0=hi at *
  have e:W^(i+j)*(lo+W*hi)=W^(i+j)*(x*Qa lb j+Qa o (i+j)+c):=by rw [m3]
  rw [fV] at *
  grind
theorem Y3.row {la lb o:List Int} {i:Nat} {x c:Int} (h:Y3 la lb i lb.length x o c) (hi:i<la.length) (hx:x=Qa la i) :
  Y3 la lb (i+1) 0 0 (o.set (i+lb.length) c) 0:=by
 obtain ⟨h1,h2,h3,h4,h5⟩:=h
 refine⟨by simpa using h1,h2.set _ h4.1 h4.2,?_,⟨bM _,Jn⟩,?_⟩
 ·intro p hp
  rw [Y1 (by omega),if_neg (by omega)];exact h3 p (by omega)
 ·rw [Ge W (by omega),h3 _ (aA _),J7,← hx]
  rw [bP] at h5
  simp only [Int.mul_zero,Int.add_zero,Int.zero_mul,Int.sub_zero]
  rw [h5];grind
theorem Y3.start (la lb:List Int):Y3 la lb 0 0 0 (az (la.length+lb.length) 0) 0:=by
 refine⟨by simp,DG.replicate Jn _,?_,⟨bM _,Jn⟩,by rw [No];simp⟩
 intro p _;unfold Qa;split<;>simp
theorem Y3.next {la lb o:List Int} {i:Nat} {c y:Int} (h:Y3 la lb i 0 0 o c) (x:Int) (hc:c=0) (hy:y=0):Y3 la lb i 0 x o y:=by
 obtain ⟨h1,h2,h3,h4,h5⟩:=h
 subst hc hy
 exact⟨h1,h2,h3,h4,by simpa using h5⟩
theorem Bm (v v':aa) (la lb:List Int) (w:ab) (ha:DG W la) (hb:DG W lb) (hs:SL w v Jc la) (hs':SL w v' Jc lb) (h1:la.length≤100000000000) (h2:lb.length≤100000000000) :
  Calls Tryz.prog 246 #[v,v'] w fun e w'=>ZP w (fun v w'=>∃ l,SL w' v Jc l∧DG W l∧NZ l∧dv W l=dv W la*dv W lb) e w':=by
 obtain ⟨q,cap,rfl,hcap,hmax,hca⟩:=hs
 obtain ⟨q',cap',rfl,hcap',hmax',hcb⟩:=hs'
 have HA:=ag hca;clear hca
 have HB:=ag hcb;clear hcb
 have hmk:=fun w=>YC (la.length+lb.length) (by omega) w
 have ec:((la.length+lb.length:Nat):Int)=(la.length:Int)+lb.length:=by omega
 simp only [ec] at hmk
 clear ec
 go_enter Tryz.func246,Tryz.ntmps246
 go_wp2
 go_loopw [22] (fun i wr=>∃ (k:Nat) (o:List Int),k≤la.length∧i = .int .i64 k∧Y3 la lb k 0 0 o 0∧YO wr w.heap.size 248 Jc o∧Ext w wr)
  (fun i _=>la.length - (intOf i).toNat)
 case atStart=>exact⟨0,_,cb _,rfl,Y3.start la lb,YO.made w _ Jc 0 _ _ rfl,(Ext.refl _).alloc _⟩
 case round =>
  obtain ⟨k,o,hk,rfl,hI,hBl,hE⟩:=hrel
  rename_i wr _
  obtain ⟨wo,rfl⟩:∃ wo:ab,wo=wr:=⟨_,rfl⟩
  clear hmk
  by_cases hlt:k<la.length
  ·obtain ⟨b,off,rfl,hbl,hc⟩:=HA.out k hlt
   rw [Zo hlt] at hc
   have hc:=hE.cell hc
   simp only [Jc] at hc
   have hx:=JZ ha k
   have HI:=ag hI;clear hI
   have HBl:=ag hBl;clear hBl
   go_wp2
   go_loopw [29,8] (fun j c wr=>∃ (m:Nat) (o:List Int) (cc:Int),m≤lb.length∧j = .int .i64 m∧c = .int .u64 cc∧Y3 la lb k m (Qa la k) o cc∧YO wr w.heap.size 248 Jc o∧Ext w wr)
    (fun j _ _=>lb.length - (intOf j).toNat)
   case atStart=>exact⟨0,o,0,cb _,rfl,rfl,HI.out.next _ rfl rfl,HBl.out,hE⟩
   case round =>
    clear HI HBl hE hc
    obtain ⟨m,o,cc,hm,rfl,rfl,hI,hBl,hE⟩:=hrel
    by_cases hlt2:m<lb.length
    ·obtain ⟨b2,off2,rfl,hb2,hc2⟩:=HB.out m hlt2
     rw [Zo hlt2] at hc2
     have hc2:=hE.cell hc2
     simp only [Jc] at hc2
     have hst:=hI.step hx hb hlt2 hlt
     obtain ⟨hd1,hd2,hd3,hd4,hd5⟩:=hI
     clear hd3 hd5
     have hd1':=ag hd1
     have hol:k+m<o.length:=by omega
     clear hd1
     have hy:=JZ hb m
     have ho:=JZ hd2 (k+m)
     have hcell:=hBl.cell (i:=k+m) hol
     rw [Zo hol] at hcell
     simp only [Jc] at hcell
     have hfr:=hBl.frozen (k+m)
     have HBs:=ag (hBl.set (k+m) (XH (XH (J1 (Qa la k) (Qa lb m)) (Qa o (k+m)) 0) cc 0))
     have HS:=ag hst
     clear hst hBl
     obtain ⟨g1,g2,g3,g4,g5,g6,_⟩:=MD hx hy ho hd4
     generalize hmy:Xo (Qa la k) (Qa lb m)=mh at *
     generalize hml:J1 (Qa la k) (Qa lb m)=ml at *
     have HMH:=ag hmy
     have HML:=ag hml
     clear hmy hml
     have ha1:=fun w=>Yk ml (Qa o (k+m)) 0 g2.1 ho.1 (by decide) (by decide) w
     have ha2:=fun w=>Yk (XH ml (Qa o (k+m)) 0) cc 0 g3.1 hd4.1 (by decide) (by decide) w
     have b1:0≤mh+Xf ml (Qa o (k+m)) 0:=g4.1
     have b2:mh+Xf ml (Qa o (k+m)) 0≤18446744073709551615:=by have:=g4.2;simp only [Wl] at this;omega
     have b3:0≤mh+Xf ml (Qa o (k+m)) 0+Xf (XH ml (Qa o (k+m)) 0) cc 0:=g6.1
     have b4:mh+Xf ml (Qa o (k+m)) 0+Xf (XH ml (Qa o (k+m)) 0) cc 0≤18446744073709551615:=by have:=g6.2;simp only [Wl] at this;omega
     go_wp2_with (go_at_call 244;refine(Yn _ _ _ hx hy).mono ?_;rw [HMH.out,HML.out];rintro e w' ⟨rfl,rfl⟩)
     go_roundw
     case rel=>exact⟨m+1,_,_,by omega,by go_num,rfl,HS.out,HBs.out,aT hE (by simp) _⟩
     case measure=>simp [intOf];omega
    ·have hk':m=lb.length:=by omega
     subst hk'
     have hst:=hI.row hlt rfl
     obtain ⟨hd1,hd2,hd3,hd4,hd5⟩:=hI
     clear hd3 hd5
     have hol:k+lb.length<o.length:=by omega
     clear hd1
     have hcell:=hBl.cell (i:=k+lb.length) hol
     rw [Zo hol] at hcell
     simp only [Jc] at hcell
     have hfr:=hBl.frozen (k+lb.length)
     have HBs:=ag (hBl.set (k+lb.length) cc)
     have HS:=ag hst
     clear hst hBl
     go_wp2
     go_roundw
     case rel=>exact⟨k+1,_,by omega,by go_num,HS.out,HBs.out,aT hE (by simp) _⟩
     case measure=>simp [intOf];omega
  ·have hk':k=la.length:=by omega
   subst hk'
   obtain ⟨hd1,hd2,hd3,hd4,hd5⟩:=hI
   have hSL:=SL.Ga hBl (la.length+lb.length) (by omega) (by omega)
   rw [ai (by omega),hd1] at hSL
   have HSL:=ag hSL
   rw [bP] at hd5
   have HF:=ag hd5
   clear hd5 hSL hd1 hBl
   go_wp2_with (go_at_call 283;refine(KT _ _ _ HSL.out).mono ?_;rintro e w' ⟨⟨v',rfl,hv⟩,rfl⟩)
   go_ret
   exact⟨_,rfl,⟨_,hv,hd2.Q4,Xi _,by rw [XG];have:=HF.out;simpa using this⟩,hE⟩
end Go.Proofs.YtknegjaeoffnbaaGreatDoor
