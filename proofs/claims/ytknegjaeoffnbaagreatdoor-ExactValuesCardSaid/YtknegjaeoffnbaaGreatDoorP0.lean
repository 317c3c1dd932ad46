/- Steps of the proof of the theorem in the last file. -/
import Derived.WalkKit
import Derived.WalkSpells
import Derived.WalkLawsBesides
import Derived.Lib.Hide
import Derived.Deep.RegionHeld3
import Derived.StillTail
import Derived.Deep.LoopGhost
import Derived.IntWalk
import Derived.Test.YtknegjaeoffnbaaGreatDoorProg
import Derived.KernelRfl
import Derived.Deep.QuietTactic
import Derived.BigQuiet
import Derived.Laws.Externs
import Derived.Shelf.Strings.Builder1
import Derived.Shelf.Strings.Builder2
import Derived.Shelf.Small.Bits
import Derived.Shelf.Small.Wraps
import Derived.Shelf.Strconv.Atoi
import Derived.Shelf.Strconv.Itoa0
import Derived.Shelf.Strconv.Itoa1
import Derived.Shelf.LaysM
import Derived.Shelf.Strconv.Itoa2
import Derived.Shelf.Strconv.Itoa3
import Derived.Shelf.Strings.Search1
import Derived.Shelf.Strings.Search2
import Derived.Shelf.Strings.Cut
import Derived.Shelf.Strings.Prefix
import Derived.Shelf.Bits.Mul64
import Derived.Shelf.Strings.Repeat
import Derived.Ground.Names2Prog
import Derived.Shelf.Slices.Clone
import Derived.Shelf.Slices.SearchI
import Derived.Ground.SlgnProg
import Derived.Shelf.SlicesE.Clone
import Derived.Laws.BitsAllLaws
import Derived.StillTailTactics
set_option linter.all false
set_option maxHeartbeats 4000000
namespace Go.Proofs.YtknegjaeoffnbaaGreatDoor
section
open Go.RowKit
structure Gz (α:Type) where
 val:α→Value
 ty:TypeId
instance {α:Type}:CoeFun (Gz α) (fun _=>α→Value):=⟨Gz.val⟩
def JY:Gz Int:=⟨fun x=>.int .u64 x,248⟩
def cy:Gz Int:=⟨fun x=>.int .i64 x,3⟩
def KS (w:World) (b:Nat) (E:TypeId):Prop:=∃ c fr,w.heap[b]?=some (.cells c E fr)
theorem KS.lt {w:World} {b E:Nat} (h:KS w b E):b<w.heap.size:=by
 obtain ⟨c,fr,h⟩:=h
 rcases Nat.lt_or_ge b w.heap.size with g | g
 ·exact g
 ·rw [Array.getElem?_eq_none g] at h;cases h
theorem KS.uniq {w:World} {b E E':Nat} (h:KS w b E) (h':KS w b E'):E=E':=by
 obtain ⟨c,fr,h⟩:=h;obtain ⟨c',fr',h'⟩:=h'
 rw [h] at h';cases h';rfl
def Row {α:Type} [Inhabited α] (w:World) (b off:Nat) (enc:Gz α) (l:List α):Prop:=∀ i,i<l.length→w.cell? ⟨b,off+i,none⟩=some (enc (l.getD i default))
abbrev Ext (w w':World):Prop:=Below w.heap.size w w'
theorem Ext.refl (w:World):Ext w w:=Below.refl _ _
theorem Ext.trans {a b c:World} (h:Ext a b) (k:Ext b c):Ext a c:=Below.trans h (Below.mono k h.size)
theorem Ext.xt {a w w':World} (h:Ext a w) (h1:w'.os=w.os) (h2:w'.tape=w.tape) (h3:w'.output=w.output) (h4:w.heap.size≤w'.heap.size) (h5:∀ i,i<a.heap.size→w'.heap[i]?=w.heap[i]?):Ext a w' :=
 ⟨h1.trans h.os,h2.trans h.tape,h3.trans h.output,Nat.le_trans h.size h4,fun i hi=>(h5 i hi).trans (h.block i hi)⟩
theorem Ext.alloc {a w:World} (h:Ext a w) (o:Obj):Ext a (w.alloc o):=Below.alloc h h.size o
theorem Ext.drew {a w:World} (h:Ext a w):Ext a w.drew:=Below.drew h
theorem Ext.drewN {a w:World} (h:Ext a w) (n:Nat):Ext a (w.drewN n):=⟨h.os,h.tape,h.output,h.size,h.block⟩
theorem Ext.cell {w w':World} (h:Ext w w') {p:Addr} {v:Value} (hv:w.cell? p=some v):w'.cell? p=some v:=by
 rw [Below.cell h (World.block_lt_of_cell? w p hv)];exact hv
theorem Ext.Xl {a w:World} (h:Ext a w) {p:Addr} (hp:a.heap.size≤p.block) (u:Value):Ext a (w.setCell p u):=Below.setCell h hp u
theorem KS.ext {w w':World} {b E:Nat} (h:KS w b E) (k:Below w.heap.size w w'):KS w' b E:=by
 obtain ⟨c,fr,e⟩:=id h
 exact⟨c,fr,by rw [k.block b h.lt];exact e⟩
theorem Ext.of_eq {w w':World} (h:w=w'):Ext w w':=h ▸ Ext.refl w
def Cells {α:Type} [Inhabited α] (w:World) (q:Option Addr) (enc:Gz α) (l:List α):Prop :=
 ∀ i,i<l.length→∃ b off,q=some ⟨b,off,none⟩∧KS w b enc.ty∧w.cell? ⟨b,off+i,none⟩=some (enc (l.getD i default))
theorem Xc {w:World} {b o b' o':Nat} {v u:Value} (h:b≠b') (hc:w.cell? ⟨b,o,none⟩=some u):(w.setCell ⟨b',o',none⟩ v).cell? ⟨b,o,none⟩=some u:=by
 rw [World.cell?_setCell_other _ _ _ _ (fun e=>h (congrArg Addr.block e).symm)];exact hc
theorem Ext.rules {W w:World} (h:Ext W w):(∀ b o,b<W.heap.size→w.cell? ⟨b,o,none⟩=W.cell? ⟨b,o,none⟩)∧(∀ b o,b<W.heap.size→w.frozen? ⟨b,o,none⟩=W.frozen? ⟨b,o,none⟩)∧W.heap.size≤w.heap.size :=
 ⟨fun b o hb=>Below.cell h (p:=⟨b,o,none⟩) hb,fun b o hb=>Below.frozen h (p:=⟨b,o,none⟩) hb,h.size⟩
def SL {α:Type} [Inhabited α] (w:World) (v:Value) (enc:Gz α) (l:List α):Prop :=
 ∃ q cap,v = .slice q l.length cap∧l.length≤cap∧(cap:Int)≤9223372036854775807∧Cells w q enc l
theorem Row.ext {α:Type} [Inhabited α] {w w':World} (h:Ext w w') {b off:Nat} {enc:Gz α} {l:List α} (hr:Row w b off enc l):Row w' b off enc l :=
 fun i hi=>h.cell (hr i hi)
theorem Cells.ext {α:Type} [Inhabited α] {w w':World} (h:Ext w w') {q:Option Addr} {enc:Gz α} {l:List α} (hr:Cells w q enc l):Cells w' q enc l:=by
 intro i hi;obtain ⟨b,off,h1,h2,h3⟩:=hr i hi
 exact⟨b,off,h1,h2.ext h,h.cell h3⟩
theorem SL.ext {α:Type} [Inhabited α] {w w':World} (h:Ext w w') {v:Value} {enc:Gz α} {l:List α} (hs:SL w v enc l):SL w' v enc l:=by
 obtain ⟨q,cap,h1,h2,h3,h4⟩:=hs
 exact⟨q,cap,h1,h2,h3,h4.ext h⟩
theorem SL.nil {α:Type} [Inhabited α] (w:World) (enc:Gz α):SL w (.slice none 0 0) enc ([]:List α) :=
 ⟨none,0,rfl,Nat.le_refl _,by decide,fun i hi=>by cases hi⟩
theorem Cells.take {α:Type} [Inhabited α] {w:World} {q:Option Addr} {enc:Gz α} {l:List α} (hr:Cells w q enc l) (n:Nat):Cells w q enc (l.take n):=by
 intro i hi
 have h1:i<l.length:=by rw [List.length_take] at hi;omega
 have h2:i<n:=by rw [List.length_take] at hi;omega
 have e:(l.take n).getD i default=l.getD i default:=by simp [List.getD,h2]
 rw [e];exact hr i h1
theorem Row.cells {α:Type} [Inhabited α] {w:World} {b off:Nat} {enc:Gz α} {l:List α} (hr:Row w b off enc l) (hb:KS w b enc.ty):Cells w (some ⟨b,off,none⟩) enc l :=
 fun i hi=>⟨b,off,rfl,hb,hr i hi⟩
theorem Row.take {α:Type} [Inhabited α] {w:World} {b off:Nat} {enc:Gz α} {l:List α} (hr:Row w b off enc l) (n:Nat):Row w b off enc (l.take n):=by
 intro i hi
 have h1:i<l.length:=by rw [List.length_take] at hi;omega
 have h2:i<n:=by rw [List.length_take] at hi;omega
 have e:(l.take n).getD i default=l.getD i default:=by simp [List.getD,h2]
 rw [e];exact hr i h1
theorem Row.drop {α:Type} [Inhabited α] {w:World} {b off:Nat} {enc:Gz α} {l:List α} (hr:Row w b off enc l) (n:Nat):Row w b (off+n) enc (l.drop n):=by
 intro i hi
 have h1:n+i<l.length:=by rw [List.length_drop] at hi;omega
 have e:(l.drop n).getD i default=l.getD (n+i) default:=by simp [List.getD,List.getElem?_drop]
 rw [e,Nat.add_assoc];exact hr _ h1
def YD {α:Type} (w:World) (b:Nat) (E:TypeId) (enc:Gz α) (l:List α):Prop:=w.heap[b]?=some (.cells (l.map enc.val).toArray E (0,0))
theorem YD.cell {α:Type} [Inhabited α] {w:World} {b E:Nat} {enc:Gz α} {l:List α} (h:YD w b E enc l) {i:Nat} (hi:i<l.length):w.cell? ⟨b,i,none⟩=some (enc (l.getD i default)):=by
 have h':w.heap[b]?=some (.cells (l.map enc.val).toArray E (0,0)):=h
 simp [World.cell?,h',hi,List.getD]
theorem YD.frozen {α:Type} {w:World} {b E:Nat} {enc:Gz α} {l:List α} (h:YD w b E enc l) (i:Nat):w.frozen? ⟨b,i,none⟩=false:=by
 have h':w.heap[b]?=some (.cells (l.map enc.val).toArray E (0,0)):=h
 simp [World.frozen?,h']
theorem YD.lt {α:Type} {w:World} {b E:Nat} {enc:Gz α} {l:List α} (h:YD w b E enc l):b<w.heap.size:=by
 have h':w.heap[b]?=some (.cells (l.map enc.val).toArray E (0,0)):=h
 rcases Nat.lt_or_ge b w.heap.size with g | g
 ·exact g
 ·rw [Array.getElem?_eq_none g] at h';cases h'
theorem YD.set {α:Type} {w:World} {b E:Nat} {enc:Gz α} {l:List α} (h:YD w b E enc l) (i:Nat) (x:α):YD (w.setCell ⟨b,i,none⟩ (enc x)) b E enc (l.set i x):=by
 have h':w.heap[b]?=some (.cells (l.map enc.val).toArray E (0,0)):=h
 have hs:(l.set i x).map enc.val=(l.map enc.val).set i (enc x):=List.map_set
 unfold YD World.setCell
 simp [Array.getElem?_modify,h',hs]
theorem YD.ext {α:Type} {w w':World} {b E:Nat} {enc:Gz α} {l:List α} (h:YD w b E enc l) (k:Ext w w'):YD w' b E enc l:=by
 have:=k.block b h.lt
 unfold YD;rw [this];exact h
theorem YD.row {α:Type} [Inhabited α] {w:World} {b E:Nat} {enc:Gz α} {l:List α} (h:YD w b E enc l):Row w b 0 enc l:=by
 intro i hi;rw [Nat.zero_add];exact h.cell hi
theorem YD.new {α:Type} (w:World) (E:Nat) (enc:Gz α) (l:List α) (c:Array Value) (hc:c=(l.map enc.val).toArray):YD (w.alloc (.cells c E)) w.heap.size E enc l:=by
 subst hc;show(w.heap.push _)[w.heap.size]?=_;simp
theorem YD.uU {α:Type} (w:World) (b E:Nat) (enc:Gz α) (l:List α) (c:Array Value) (hc:c=(l.map enc.val).toArray) (hb:b=w.heap.size):YD (w.alloc (.cells c E)) b E enc l:=by
 subst hb;exact YD.new w E enc l c hc
theorem YD.drew {α:Type} {w:World} {b E:Nat} {enc:Gz α} {l:List α} (h:YD w b E enc l):YD w.drew b E enc l:=h
theorem YD.drewN {α:Type} {w:World} {b E:Nat} {enc:Gz α} {l:List α} (h:YD w b E enc l) (n:Nat):YD (w.drewN n) b E enc l:=h
theorem YD.made {α:Type} (w:World) (E:Nat) (enc:Gz α) (x:α) (n:Nat) (z:Value) (hz:z=enc x):YD (w.alloc (.cells (madeCells #[z] n) E)) w.heap.size E enc (List.replicate n x):=by
 refine YD.new w E enc _ _ ?_
 subst hz
 apply Array.ext
 ·simp [madeCells]
 ·intro i h1 h2;simp [madeCells,Nat.mod_one]
theorem YD.NL {α:Type} {w:World} {b E:Nat} {enc:Gz α} {l:List α} (h:YD w b E enc l):KS w b E:=⟨_,_,h⟩
theorem SL.W8 {α:Type} [Inhabited α] {w:World} {b:Nat} {enc:Gz α} {l:List α} (h:YD w b enc.ty enc l) (n:Nat) (hn:n≤l.length) (hm:(l.length:Int)≤9223372036854775807) :
  SL w (.slice (some ⟨b,0,none⟩) n l.length) enc (l.take n) :=
 ⟨_,l.length,by rw [List.length_take,Nat.min_eq_left hn],by rw [List.length_take];omega,hm,(h.row.cells h.NL).take n⟩
def Bx (w:World) (b:Nat) (T:TypeId) (cs:List Value):Prop:=w.heap[b]?=some (.cells cs.toArray T (0,0))
theorem Bx.new (w:World) (T:TypeId) (c:Array Value):Bx (w.alloc (.cells c T)) w.heap.size T c.toList:=by
 show(w.heap.push _)[w.heap.size]?=_;simp
theorem Bx.lt {w:World} {b T:Nat} {cs:List Value} (h:Bx w b T cs):b<w.heap.size:=by
 have h':w.heap[b]?=some (.cells cs.toArray T (0,0)):=h
 rcases Nat.lt_or_ge b w.heap.size with g | g
 ·exact g
 ·rw [Array.getElem?_eq_none g] at h';cases h'
theorem Bx.ext {w w':World} {b T:Nat} {cs:List Value} (h:Bx w b T cs) (k:Ext w w'):Bx w' b T cs:=by
 unfold Bx;rw [k.block b h.lt];exact h
theorem Bx.alloc {w:World} {b T:Nat} {cs:List Value} (h:Bx w b T cs) (o:Obj):Bx (w.alloc o) b T cs:=h.ext ((Ext.refl w).alloc o)
theorem Bx.drew {w:World} {b T:Nat} {cs:List Value} (h:Bx w b T cs):Bx w.drew b T cs:=h
theorem Bx.drewN {w:World} {b T:Nat} {cs:List Value} (h:Bx w b T cs) (n:Nat):Bx (w.drewN n) b T cs:=h
theorem Bx.at {w:World} {b T:Nat} {cs:List Value} (h:Bx w b T cs) (i:Nat) (c:Value) (hi:cs[i]?=some c):w.cell? ⟨b,i,none⟩=some c:=by
 have h':w.heap[b]?=some (.cells cs.toArray T (0,0)):=h
 simp [World.cell?,h',hi]
theorem Bx.free {w:World} {b T:Nat} {cs:List Value} (h:Bx w b T cs) (i:Nat):w.frozen? ⟨b,i,none⟩=false:=by
 have h':w.heap[b]?=some (.cells cs.toArray T (0,0)):=h
 simp [World.frozen?,h']
theorem Bx.one {w:World} {b T:Nat} {c0:Value} (h:Bx w b T [c0]):w.cell? ⟨b,0,none⟩=some c0∧w.frozen? ⟨b,0,none⟩=false :=
 ⟨h.at 0 c0 rfl,h.free 0⟩
theorem Bx.two {w:World} {b T:Nat} {c0 c1:Value} (h:Bx w b T [c0,c1]):w.cell? ⟨b,0,none⟩=some c0∧w.cell? ⟨b,1,none⟩=some c1∧w.frozen? ⟨b,0,none⟩=false∧w.frozen? ⟨b,1,none⟩=false :=
 ⟨h.at 0 c0 rfl,h.at 1 c1 rfl,h.free 0,h.free 1⟩
theorem Bx.set {w:World} {b T:Nat} {cs:List Value} (h:Bx w b T cs) (i:Nat) (c:Value):Bx (w.setCell ⟨b,i,none⟩ c) b T (cs.set i c):=by
 have h':w.heap[b]?=some (.cells cs.toArray T (0,0)):=h
 unfold Bx World.setCell;simp [Array.getElem?_modify,h']
theorem Bx.Hj {w:World} {b T b' o:Nat} {cs:List Value} {v:Value} (h:Bx w b T cs) (hb:b≠b'):Bx (w.setCell ⟨b',o,none⟩ v) b T cs:=by
 unfold Bx;rw [Below.heap_setCell _ _ _ _ hb];exact h
theorem Bx.NL {w:World} {b T:Nat} {cs:List Value} (h:Bx w b T cs):KS w b T:=⟨_,_,h⟩
def DT (E:TypeId):Prop:=E=248∨E=3
instance (E:TypeId):Decidable (DT E):=by unfold DT;infer_instance
structure Kp (w w':World):Prop where
 size:w.heap.size≤w'.heap.size
 block:∀ b E,KS w b E→DT E→w'.heap[b]?=w.heap[b]?
theorem Kp.refl (w:World):Kp w w:=⟨Nat.le_refl _,fun _ _ _ _=>rfl⟩
theorem Kp.U8 {w w':World} (h:Ext w w'):Kp w w':=⟨h.size,fun b _ hb _=>h.block b hb.lt⟩
theorem Kp.trans {a b c:World} (h:Kp a b) (k:Kp b c):Kp a c :=
 ⟨Nat.le_trans h.size k.size,fun i E hi hE=>by
  have e:=h.block i E hi hE
  have hi':KS b i E:=by obtain ⟨x,fr,hx⟩:=hi;exact⟨x,fr,by rw [e];exact hx⟩
  exact(k.block i E hi' hE).trans e⟩
theorem Kp.ext {a b c:World} (h:Kp a b) (k:Ext b c):Kp a c:=h.trans (Kp.U8 k)
theorem Kp.drew {a b:World} (h:Kp a b):Kp a b.drew:=⟨h.size,h.block⟩
theorem Kp.drewN {a b:World} (h:Kp a b) (n:Nat):Kp a (b.drewN n):=⟨h.size,h.block⟩
theorem Kp.set {a w:World} (h:Kp a w) {R T:Nat} (hT:KS w R T) (hD:¬ DT T) (i:Nat) (v:Value):Kp a (w.setCell ⟨R,i,none⟩ v) :=
 h.trans ⟨by simp [World.setCell],fun b E hb hE=>Below.heap_setCell _ _ _ _ (by rintro rfl;exact hD ((hb.uniq hT) ▸ hE))⟩
theorem KS.set {w:World} {b T:Nat} (h:KS w b T) (R i:Nat) (v:Value):KS (w.setCell ⟨R,i,none⟩ v) b T:=by
 obtain ⟨c,fr,h⟩:=h
 by_cases e:b=R
 ·subst e;exact⟨_,_,by unfold World.setCell;simp [Array.getElem?_modify,h];exact⟨rfl,rfl⟩⟩
 ·exact⟨c,fr,by rw [Below.heap_setCell _ _ _ _ e];exact h⟩
theorem KS.kp {w w':World} {b E:Nat} (h:KS w b E) (k:Kp w w') (hE:DT E):KS w' b E:=by
 obtain ⟨c,fr,e⟩:=id h
 exact⟨c,fr,by rw [k.block b E h hE];exact e⟩
theorem Cells.kp {α:Type} [Inhabited α] {w w':World} (k:Kp w w') {q:Option Addr} {enc:Gz α} (hE:DT enc.ty) {l:List α} (hr:Cells w q enc l):Cells w' q enc l:=by
 intro i hi;obtain ⟨b,off,h1,h2,h3⟩:=hr i hi
 exact⟨b,off,h1,h2.kp k hE,by rw [World.cell?_of_block (w:=w) (k.block b _ h2 hE)];exact h3⟩
end
section
open Go
section
variable {P:Program} {md:Region.Mode}
def KJ (md:Region.Mode) (ops:Array Oper) (n:Nat):Bool :=
 (List.range n).all fun i=>match ops[i]? with
  |some o=>o.after.all fun e=>!Region.binds md e||decide (e.on<i)
  |none=>false
theorem Xr {ops:Array Oper} {n:Nat} (h:KJ md ops n=true) {i:Nat} (hi:i<n):∃ o,ops[i]?=some o∧∀ e∈o.after,Region.binds md e=true→e.on<i:=by
 have h1:=List.all_eq_true.1 h i (List.mem_range.2 hi)
 cases ho:ops[i]? with
 |none=>rw [ho] at h1;cases h1
 |some o =>
  rw [ho] at h1
  refine⟨o,rfl,fun e he hb=>?_⟩
  have h2:=Array.all_eq_true_iff_forall_mem.1 h1 e he
  simpa [hb] using h2
def Zr (n m:Nat):Array Bool:=(Array.range m).map fun i=>decide (i<n)
theorem EA {n m:Nat} {listed:Array Bool} (hs:listed.size=m) (h1:∀ i,i<n→i<m→listed.getD i false=true) (h2:∀ i,n≤i→i<m→listed.getD i false=false):listed=Zr n m:=by
 apply Array.ext
 ·simp [Zr,hs]
 ·intro i hi hj
  have him:i<m:=by omega
  by_cases h:i<n
  ·have:=h1 i h him
   simp [hi] at this
   simp [Zr,h,this]
  ·have:=h2 i (by omega) him
   simp [hi] at this
   simp [Zr,h,this]
def Si (P:Program) (ops:Array Oper) (Q:Exit→Act→World→Prop) (tl:List Oper):Exit→Act→World→Prop
 |.normal,a,w=>wpList P ops Q tl a w
 |e,a,w=>Q e a w
theorem Sa {o:Oper} {ops:Array Oper} {Q:Exit→Act→World→Prop} {tl:List Oper} {a:Act} {w:World} {K K':Act→World→Prop} (h:∀ a w,K a w→K' a w)
  (hh:o.wp P a w K (Si P ops Q tl)):o.wp P a w K' Q:=by
 unfold Oper.wp at *
 generalize (execOp a.eval o).run P w=r at *
 cases r with
 |ok n w' =>
  cases n<;>simp only [Oper.upon] at hh ⊢ <;>
   first
    |exact h _ _ hh
    |exact Calls.mono hh (fun e w'' he=>by cases e<;>first | exact h _ _ he | exact he)
    |exact Rows.mono hh (fun _ _ he=>h _ _ he)
 |halt x w'=>cases x<;>simp only [Oper.upon] at hh ⊢<;>exact hh
theorem GD {l:List Oper} {n i:Nat} (hi:i<n):(l.take n).toArray[i]?=l.toArray[i]?:=by
 simp [hi]
theorem WB {l:List Oper} {n:Nat} {lh la:Array Bool} (hn:n<l.length) (hs:Region.sinkB md l.toArray n=true) (hc:Region.chainB md l.toArray n=true) (ho:KJ md l.toArray n=true)
  (inv:HeadInv md l.toArray n la) (hsz:lh.size=n) (hrel:∀ i,i<n→la.getD i true=lh.getD i true) {k:Nat} (hk:k<n) (hun:lh.getD k true=false) :
  (∀ i,i∈Region.ready md l.toArray la↔i∈Region.ready md (l.take n).toArray lh)∧Region.ready md (l.take n).toArray lh≠[]:=by
 have hrel2:∀ i,i<n→la.getD i false=lh.getD i false:=by
  intro i hi
  have h:=hrel i hi
  have h1:i<la.size:=by rw [inv.size];simp;omega
  have h2:i<lh.size:=by omega
  simp [h1,h2] at h ⊢;exact h
 have hhead:∀ i,i<n→(i∈Region.ready md l.toArray la↔i∈Region.ready md (l.take n).toArray lh):=by
  intro i hi
  rw [mem_ready,mem_ready,hrel i hi,GD hi]
  refine and_congr_right fun _=>exists_congr fun o=>and_congr_right fun hoi=>?_
  obtain ⟨o',ho',hed⟩:=Xr ho hi
  have:o'=o:=Option.some.inj (ho'.symm.trans hoi)
  subst this
  refine forall_congr' fun e=>forall_congr' fun he=>forall_congr' fun hb=>?_
  rw [hrel2 e.on (by have:=hed e he hb;omega)]
 have hex:∃ i,i<n∧lh.getD i true=false∧∀ j,j<i→lh.getD j true=true:=by
  clear hhead hrel hrel2
  induction k using Nat.strongRecOn with
  |_ k ih =>
   by_cases h:∃ j,j<k∧lh.getD j true=false
   ·obtain ⟨j,hj,hj2⟩:=h;exact ih j hj (by omega) hj2
   ·exact⟨k,hk,hun,fun j hj=>by
     cases hv:lh.getD j true with
     |true=>rfl
     |false=>exact absurd ⟨j,hj,hv⟩ h⟩
 refine⟨fun i=>?_,?_⟩
 ·by_cases hi:i<n
  ·exact hhead i hi
  ·constructor
   ·intro h
    exact absurd h (tail_waits hs hc (by simpa using hn) inv _ k rfl hk (by rw [hrel k hk];exact hun) i (by omega))
   ·intro h
    obtain ⟨_,o,ho',_⟩:=mem_ready.1 h
    have:=(Array.getElem?_eq_some_iff.1 ho').1
    simp at this;omega
 ·obtain ⟨i,hi,h1,h2⟩:=hex
  intro hnil
  have:i∈Region.ready md (l.take n).toArray lh:=by
   rw [mem_ready]
   obtain ⟨o',ho',hed⟩:=Xr ho hi
   refine⟨h1,o',by rw [GD hi];exact ho',fun e he hb=>?_⟩
   have h3:=h2 e.on (hed e he hb)
   have h4:e.on<lh.size:=by have:=hed e he hb;omega
   simp [h4] at h3 ⊢;exact h3
  rw [hnil] at this;cases this
theorem Mf {ops:Array Oper} {Q:Exit→Act→World→Prop}:∀ (f:Nat) (listed:Array Bool) (a:Act) (w:World),wpAny P md ops Q f listed a w→wpAny P md ops Q (f+1) listed a w
 |0,listed,a,w,h=>⟨fun _=>h.2,fun i hi=>(by rw [h.1] at hi;cases hi)⟩
 |f+1,listed,a,w,h=>⟨h.1,fun i hi=>wpOp_mono (fun a' w' h'=>Mf f _ a' w' h') (h.2 i hi)⟩
theorem Se {ops:Array Oper} {Q:Exit→Act→World→Prop} (f:Nat) (listed:Array Bool) (a:Act) (w:World) (g:Nat) (h:wpAny P md ops Q g listed a w):wpAny P md ops Q (f+g) listed a w:=by
 induction f with
 |zero=>rw [Nat.zero_add];exact h
 |succ f ih=>rw [show f+1+g=(f+g)+1 by omega];exact Mf _ _ _ _ ih
theorem N9 {ops:Array Oper} {Q:Exit→Act→World→Prop} {tl:List Oper} (h:LetsOut (Si P ops Q tl)):LetsOut Q:=by
 obtain ⟨a,w,h⟩:=h;exact⟨a,w,h⟩
def Bf (ops:Array Oper) (n:Nat):Bool :=
 (List.range n).all fun i=>match ops[i]? with
  |some o=>(match o.guard with | none=>true | some (g,_)=>decide (g<n))
  |none=>false
theorem H9 {l:List Oper} {n g:Nat} (hg:g<n) (t:Array Value):yielded (l.take n).toArray t g=yielded l.toArray t g:=by
 unfold yielded;rw [GD hg]
theorem Fe {l:List Oper} {n i:Nat} {Q:Exit→Act→World→Prop} {tl:List Oper} {K:Act→World→Prop} {a:Act} {w:World} (hi:i<n) (hgd:Bf l.toArray n=true)
  (h:wpOp P (l.take n).toArray (Si P l.toArray Q tl) i K a w):wpOp P l.toArray Q i K a w:=by
 unfold wpOp at *
 rw [GD hi] at h
 cases ho:l.toArray[i]? with
 |none=>simp only [ho] at h ⊢;exact h
 |some o =>
  simp only [ho] at h ⊢
  have hw:Region.wanted o (yielded (l.take n).toArray a.tmps)=Region.wanted o (yielded l.toArray a.tmps):=by
   have h1:=List.all_eq_true.1 hgd i (List.mem_range.2 hi)
   rw [ho] at h1
   unfold Region.wanted
   cases hg:o.guard with
   |none=>rfl
   |some gw =>
    obtain ⟨g,want⟩:=gw
    simp only [hg] at h1
    simp only [H9 (l:=l) (by simpa using h1)]
  rw [hw] at h
  split
  ·rename_i hw2
   rw [if_pos hw2] at h
   rcases h with h | ⟨h1,h2⟩
   ·exact .inl (Sa (fun _ _ h=>h) h)
   ·exact .inr ⟨h1,N9 h2⟩
  ·rename_i hw2
   rw [if_neg hw2] at h;exact h
theorem Sd {l:List Oper} {n:Nat} {Q:Exit→Act→World→Prop} (hn:n<l.length) (hs:Region.sinkB md l.toArray n=true) (hc:Region.chainB md l.toArray n=true) (ho:KJ md l.toArray n=true)
  (hgd:Bf l.toArray n=true) (hseq:Region.seqB md l.toArray (l.length - n) n (Zr n l.length)=true) :
  ∀ (f:Nat) (lh la:Array Bool) (a:Act) (w:World),HeadInv md l.toArray n la→lh.size=n→(∀ i,i<n→la.getD i true=lh.getD i true) →
   wpAny P md (l.take n).toArray (Si P l.toArray Q (l.drop n)) f lh a w→wpAny P md l.toArray Q (f+(l.length - n)) la a w:=by
 have fin:∀ (f:Nat) (lh la:Array Bool) (a:Act) (w:World),HeadInv md l.toArray n la→lh.size=n→(∀ i,i<n→la.getD i true=lh.getD i true) →
   Region.ready md (l.take n).toArray lh=[]→wpList P l.toArray Q (l.drop n) a w→wpAny P md l.toArray Q (f+(l.length - n)) la a w:=by
  intro f lh la a w inv hsz hrel hr h
  have hall:∀ i,i<n→lh.getD i true=true:=by
   intro i hi
   cases hv:lh.getD i true with
   |true=>rfl
   |false=>exact absurd hr (WB hn hs hc ho inv hsz hrel hi hv).2
  have hla:la=Zr n l.length:=by
   refine EA (by simpa using inv.size) (fun i hi hi2=>?_) (fun i hi hi2=>?_)
   ·have h1:=(hrel i hi).trans (hall i hi)
    have h2:i<la.size:=by rw [inv.size];simpa using hi2
    simp [h2] at h1 ⊢;exact h1
   ·exact getD_both (inv.tail i hi (by simpa using hi2))
  subst hla
  refine Se f _ _ _ _ ?_
  have:=wpAny_of_seq (P:=P) (Q':=Q) (l.drop n) n (Zr n l.length) a w (fun j=>by simp [List.getElem?_drop]) (by simpa using hseq) h
  simpa using this
 intro f
 induction f with
 |zero=>intro lh la a w inv hsz hrel h;exact fin 0 lh la a w inv hsz hrel h.1 h.2
 |succ f ih =>
  intro lh la a w inv hsz hrel h
  by_cases hr:Region.ready md (l.take n).toArray lh=[]
  ·exact fin (f+1) lh la a w inv hsz hrel hr (h.1 hr)
  ·obtain ⟨k,hk⟩:=List.exists_mem_of_ne_nil _ hr
   have hk2:=(mem_ready.1 hk)
   have hkn:k<n:=by
    obtain ⟨_,o,ho',_⟩:=hk2
    have:=(Array.getElem?_eq_some_iff.1 ho').1
    simp at this;omega
   have hiff:=(WB hn hs hc ho inv hsz hrel hkn hk2.1).1
   rw [show f+1+(l.length - n)=(f+(l.length - n))+1 by omega]
   refine⟨fun h0=>absurd ((hiff k).2 hk) (by rw [h0];simp),fun i hi=>?_⟩
   have hi':=(hiff i).1 hi
   have hin:i<n:=by
    obtain ⟨_,o,ho',_⟩:=mem_ready.1 hi'
    have:=(Array.getElem?_eq_some_iff.1 ho').1
    simp at this;omega
   have h2:=Fe hin hgd (h.2 i hi')
   refine wpOp_mono (fun a' w' h3=>ih _ _ a' w' (inv.set hi hin) (by simpa using hsz) (fun j hj=>?_) h3) h2
   by_cases hij:i=j
   ·subst hij
    have h1:i<la.size:=by rw [inv.size];simp;omega
    have h2:i<lh.size:=by omega
    simp [h1,h2]
   ·rw [getD_set_ne true hij,getD_set_ne true hij];exact hrel j hj
def Hh (l:List Oper) (n:Nat):Bool :=
 decide (n<l.length)&&Region.sinkB .any l.toArray n&&Region.chainB .any l.toArray n&&KJ .any l.toArray n&&Bf l.toArray n&&Region.seqB .any l.toArray (l.length - n) n (Zr n l.length)
theorem EV {id:Nat} {Q:Exit→Act→World→Prop} {a:Act} {w:World} {l:List Oper} (n:Nat) (hm:P.follows .mixedOrders=true) (hB:Hh l n=true)
  (h:wpAny P .any (l.take n).toArray (Si P l.toArray Q (l.drop n)) n (Array.replicate n false) a { w with drawn:=w.drawn+1 }):(Code.region id l.toArray true).wp P Q a w:=by
 simp only [Hh,Bool.and_eq_true,decide_eq_true_eq] at hB
 obtain ⟨⟨⟨⟨⟨hn,hs⟩,hc⟩,ho⟩,hg⟩,hseq⟩:=hB
 refine wp_region_any hm ?_
 have inv0:HeadInv .any l.toArray n (Array.replicate l.toArray.size false) :=
  ⟨by simp,fun j oj _ hl=>(by rw [getD_replicate_false] at hl;cases hl),fun t _ ht=>getD_in (by simpa using ht) (getD_replicate_false _ _)⟩
 have:=Sd (P:=P) (md:=.any) (Q:=Q) hn hs hc ho hg hseq n (Array.replicate n false) (Array.replicate l.toArray.size false) a { w with drawn:=w.drawn+1 } inv0 (by simp)
  (fun i hi=>by
   have h1:i<l.length:=(by omega)
   simp [hi,h1]) h
 rw [show n+(l.length - n)=l.toArray.size by simp;omega] at this
 exact this
def Ju:Op→Bool
 |.move _ | .assign _ | .pick .. | .nilCheck _ | .binOp .. | .unOp .. | .convert .. | .fieldAddr .. | .field .. | .indexAddr .. | .index .. | .extract .. | .slice .. | .build .. | .load .. | .makeFunc .. | .lookup ..=>true
 |.call { callee:=.builtin b,.. }=>match b with | .len | .cap | .min | .max=>true | _=>false
 |_=>false
section
variable {ops:Array Oper} {Q:Exit→Act→World→Prop} {S:World→Prop}
def N8 (P:Program) (ops:Array Oper) (Q:Exit→Act→World→Prop) (S:World→Prop):List Nat→Act→World→Prop
  | [],a,w=>Q .normal a w
  | i::r,a,w=>∃ o,ops[i]?=some o ∧
      ((Ju o.op=true∧∃ v,YieldsIf P ops S o v a∧N8 P ops Q S r (a.put o.dst v) w) ∨
       (Ju o.op=false∧wpOp P ops (fun _ _ _=>False) i (fun a' w'=>S w'∧N8 P ops Q S r a' w') a w))
theorem Cr {i:Nat} {o:Oper} {K:Act→World→Prop} {a:Act} {w:World} (hi:ops[i]?=some o) (h:wpOp P ops (fun _ _ _=>False) i K a w) :
  ∃ u w' d,K ({ a with defers:=d }.put o.dst u) w':=by
 unfold wpOp at h
 simp only [hi] at h
 split at h
 ·rcases h with h | ⟨_,_,_,h⟩
  ·unfold Oper.wp at h
   generalize (execOp a.eval o).run P w=r at *
   cases r with
   |ok n w' =>
    cases n<;>simp only [Oper.upon] at h
    case value u=>exact⟨u,w',a.defers,h⟩
    case skip=>exact⟨undef,w',a.defers,h⟩
    case defer d=>exact⟨undef,w',d::a.defers,h⟩
    case enter f args =>
     obtain ⟨e,w'',fr,hR,_⟩:=h []
     cases e with
     |returned u=>exact⟨u,w'',a.defers,hR⟩
     |panicked c=>exact hR.elim
     |outgrown=>obtain ⟨_,_,h⟩:=hR;exact h.elim
    case row row args =>
     obtain ⟨u,w'',hR,_⟩:=h default []
     exact⟨u,w'',a.defers,hR⟩
    all_goals exact h.elim
   |halt x w'=>cases x<;>simp only [Oper.upon] at h<;>exact h.elim
  ·exact h.elim
 ·exact⟨undef,w,a.defers,h⟩
theorem Sb {j:Nat} {oi oj:Oper} {v:Value} (hj:ops[j]?=some oj) (hap:oi.apart ops oj=true) (hsj:∀ cs b,oj.op≠.select cs b)
  {K:Act→World→Prop} {a:Act} {w:World} (h:wpOp P ops (fun _ _ _=>False) j (fun a' w'=>K (a'.put oi.dst v) w') a w) :
  wpOp P ops (fun _ _ _=>False) j K (a.put oi.dst v) w:=by
 obtain ⟨h1,h2,h3⟩:=Oper.apart_spec hap
 unfold wpOp at *
 simp only [hj] at *
 rw [wanted_put oj a oi.dst v h1]
 split
 ·rename_i hw
  simp only [hw,if_true] at h
  rcases h with h | ⟨hasks,hlets⟩
  case inr=>exact .inr ⟨by unfold Oper.asks at *;rw [execOp_put oj hsj a oi.dst v h1];exact hasks,hlets⟩
  refine .inl ?_
  unfold Oper.wp at *
  rw [execOp_put oj hsj a oi.dst v h1]
  generalize (execOp a.eval oj).run P w=r at *
  cases r with
  |ok n w' =>
   cases n<;>simp only [Oper.upon] at h ⊢
   case value u=>rw [Act.put_comm a v u h2];exact h
   case skip=>rw [Act.put_comm a v undef h2];exact h
   case defer d=>rw [Act.put_defers,Act.put_comm _ v undef h2];exact h
   case enter f args =>
    refine Calls.mono h fun e w'' he=>?_
    cases e with
    |returned u=>show K _ _;rw [Act.put_comm a v u h2];exact he
    |panicked c=>exact he
    |outgrown=>exact he
   case row row args=>exact Rows.mono h fun u w'' he=>(by rw [Act.put_comm a v u h2];exact he)
  |halt x w'=>cases x<;>simp only [Oper.upon] at h ⊢
 ·rename_i hw
  simp only [hw] at h
  rw [Act.put_comm a v undef h2];exact h
theorem YieldsIf.uniq {o:Oper} {v v':Value} {a:Act} {w:World} (hS:S w) (h:YieldsIf P ops S o v a) (h':YieldsIf P ops S o v' a):v=v':=by
 rcases h with ⟨h1,h2⟩ | ⟨h1,h2⟩<;>rcases h' with ⟨g1,g2⟩ | ⟨g1,g2⟩
 ·have:=(h2 w hS).symm.trans (g2 w hS)
  simpa using this
 ·rw [h1] at g1;cases g1
 ·rw [h1] at g1;cases g1
 ·rw [h2,g2]
theorem Ni {x y:Oper} (h:x.apart ops y=true):y.apart ops x=true:=by
 obtain ⟨h1,h2,h3⟩:=Oper.apart_spec h
 unfold Oper.apart
 cases hx:x.dst with
 |none=>cases hy:y.dst with
  |none=>rfl
  |some e=>simpa using h3 e hy
 |some d =>
  have g1:=h1 d hx
  have g2:=h2 d hx
  cases hy:y.dst with
  |none=>simpa using g1
  |some e =>
   have g3:=h3 e hy
   rw [hy] at g2
   simp only [ne_eq,Option.some.injEq] at g2
   simp [g3,g1]
   exact fun h=>g2 h.symm
theorem Hq {j:Nat} {oj:Oper} {post:List Nat} (hoj:ops[j]?=some oj) (hq:Ju oj.op=true) (hsel:∀ (j:Nat) (o:Oper) cs b,ops[j]?=some o→o.op≠.select cs b) :
  ∀ (pre:List Nat) (a:Act) (w:World),(∀ k∈pre,∀ ok,ops[k]?=some ok→oj.apart ops ok=true)→N8 P ops Q S (pre++j::post) a w →
   ∃ v,YieldsIf P ops S oj v a∧N8 P ops Q S (pre++post) (a.put oj.dst v) w
 |[],a,w,_,h=>by
  obtain ⟨o,ho,h⟩:=h
  have:o=oj:=Option.some.inj (ho.symm.trans hoj)
  subst this
  rcases h with ⟨_,v,h1,h2⟩ | ⟨h1,_⟩
  ·exact⟨v,h1,h2⟩
  ·rw [hq] at h1;cases h1
 |k::pre,a,w,hap,h=>by
  obtain ⟨ok,hok,h⟩:=h
  have hk:=hap k (by simp) ok hok
  obtain ⟨p1,p2,p3⟩:=Oper.apart_spec hk
  rcases h with ⟨hqk,vk,hyk,h⟩ | ⟨hqk,h⟩
  ·obtain ⟨v,hy,h⟩:=Hq hoj hq hsel pre _ w (fun i hi=>hap i (by simp [hi])) h
   have hy':YieldsIf P ops S oj v a:=by
    refine hy.of_same ?_ ?_
    ·exact(execOp_put oj (fun cs b=>hsel j oj cs b hoj) a ok.dst vk p3).symm
    ·exact(wanted_put oj a ok.dst vk p3).symm
   refine⟨v,hy',ok,hok,.inl ⟨hqk,vk,?_,?_⟩⟩
   ·refine hyk.of_same ?_ ?_
    ·exact execOp_put ok (fun cs b=>hsel k ok cs b hok) a oj.dst v p1
    ·exact wanted_put ok a oj.dst v p1
   ·rw [Act.put_comm a v vk p2];exact h
  ·have h2:=wpOp_mono (fun a' w' (h:S w'∧N8 P ops Q S (pre++j::post) a' w')=>(⟨h.1,Hq hoj hq hsel pre a' w' (fun i hi=>hap i (by simp [hi])) h.2⟩ :
    S w'∧∃ v,YieldsIf P ops S oj v a'∧N8 P ops Q S (pre++post) (a'.put oj.dst v) w')) h
   obtain ⟨u,w1,d,hS1,v0,hy0,_⟩:=Cr hok h2
   have back:∀ (d:List Deferred) (u v:Value),YieldsIf P ops S oj v ({ a with defers:=d }.put ok.dst u)→YieldsIf P ops S oj v a:=fun d u v hy=>by
    refine hy.of_same ?_ ?_
    ·rw [execOp_put oj (fun cs b=>hsel j oj cs b hoj) _ ok.dst u p3];rfl
    ·rw [wanted_put oj _ ok.dst u p3]
   have hya:=back d u v0 hy0
   refine⟨v0,hya,ok,hok,.inr ⟨hqk,?_⟩⟩
   refine Sb hok hk (fun cs b=>hsel k ok cs b hok) ?_
   have h3:wpOp P ops (fun _ _ _=>False) k (fun a' w'=>(YieldsIf P ops S oj v0 a')∧(S w'∧∃ v,YieldsIf P ops S oj v a'∧N8 P ops Q S (pre++post) (a'.put oj.dst v) w')) a w:=by
    have I9:∀ (u:Value),YieldsIf P ops S oj v0 (a.put ok.dst u):=fun u=>by
     refine hya.of_same ?_ ?_
     ·exact execOp_put oj (fun cs b=>hsel j oj cs b hoj) a ok.dst u p3
     ·exact wanted_put oj a ok.dst u p3
    have keepd:∀ (d:Deferred) (u:Value),YieldsIf P ops S oj v0 ({ a with defers:=d::a.defers }.put ok.dst u):=fun d u=>by
     refine hya.of_same ?_ ?_
     ·rw [execOp_put oj (fun cs b=>hsel j oj cs b hoj) _ ok.dst u p3];rfl
     ·rw [wanted_put oj _ ok.dst u p3]
    clear h
    unfold wpOp at h2 ⊢
    simp only [hok] at h2 ⊢
    split
    ·rename_i hw
     simp only [hw,if_true] at h2
     rcases h2 with h2 | h2
     case inr=>exact .inr h2
     refine .inl ?_
     unfold Oper.wp at *
     generalize (execOp a.eval ok).run P w=r at *
     cases r with
     |ok n w' =>
      cases n<;>simp only [Oper.upon] at h2 ⊢
      case value u=>exact⟨I9 u,h2⟩
      case skip=>exact⟨I9 _,h2⟩
      case defer d=>exact⟨keepd d _,h2⟩
      case enter f args =>
       refine Calls.mono h2 fun e w'' he=>?_
       cases e with
       |returned u=>exact⟨I9 u,he⟩
       |panicked c=>exact he
       |outgrown=>exact he
      case row row args=>exact Rows.mono h2 fun u w'' he=>⟨I9 u,he⟩
     |halt x w'=>cases x<;>simp only [Oper.upon] at h2 ⊢
    ·rename_i hw
     simp only [hw] at h2
     exact⟨I9 _,h2⟩
   refine wpOp_mono (fun a' w' h=>?_) h3
   obtain ⟨hy,hS,v,hy2,hl⟩:=h
   have:v=v0:=YieldsIf.uniq hS hy2 hy
   subst this
   exact⟨hS,hl⟩
end
section
variable {ops:Array Oper} {Q:Exit→Act→World→Prop} {S:World→Prop}
theorem Sc {i:Nat} {K:Act→World→Prop} {a:Act} {w:World} (h:wpOp P ops (fun _ _ _=>False) i K a w):wpOp P ops Q i K a w:=by
 unfold wpOp at *
 cases ho:ops[i]? with
 |none=>simp only [ho] at h ⊢;exact h
 |some o =>
  simp only [ho] at h ⊢
  split
  ·rename_i hw
   rw [if_pos hw] at h
   rcases h with h | ⟨_,_,_,h⟩
   ·refine .inl ?_
    unfold Oper.wp at *
    generalize (execOp a.eval o).run P w=r at *
    cases r with
    |ok n w' =>
     cases n<;>simp only [Oper.upon] at h ⊢
     all_goals first
      |exact h
      |exact Calls.mono h fun e w'' he=>by
        cases e with
        |returned u=>exact he
        |panicked c=>exact he.elim
        |outgrown=>obtain ⟨_,_,h⟩:=he;exact h.elim
    |halt x w'=>cases x<;>simp only [Oper.upon] at h ⊢
   ·exact h.elim
  ·rename_i hw
   rw [if_neg hw] at h;exact h
def Ho (md:Region.Mode) (acc:List Nat) (o:Oper):Nat:=o.after.foldl (fun s e=>if Region.binds md e then s ||| 2^e.on ||| acc.getD e.on 0 else s) 0
def NF (md:Region.Mode) (ops:List Oper):List Nat:=ops.foldl (fun acc o=>acc++[Ho md acc o]) []
theorem NR {md:Region.Mode} {acc:List Nat} {i:Nat}:∀ (l:List Edge) (s:Nat),(l.foldl (fun s e=>if Region.binds md e then s ||| 2^e.on ||| acc.getD e.on 0 else s) s).testBit i=true →
  s.testBit i=true∨∃ e∈l,Region.binds md e=true∧(i=e.on∨(acc.getD e.on 0).testBit i=true)
 |[],s,h=>.inl h
 |e::l,s,h=>by
  rw [List.foldl_cons] at h
  rcases NR l _ h with h | ⟨e',he',h⟩
  ·split at h
   ·rename_i hb
    rw [Nat.testBit_or,Nat.testBit_or,Nat.testBit_two_pow] at h
    simp only [Bool.or_eq_true,decide_eq_true_eq] at h
    rcases h with (h | h) | h
    ·exact .inl h
    ·exact .inr ⟨e,by simp,hb,.inl h.symm⟩
    ·exact .inr ⟨e,by simp,hb,.inr h⟩
   ·exact .inl h
  ·exact .inr ⟨e',by simp [he'],h⟩
theorem TU {md:Region.Mode} {acc:List Nat} {o:Oper} {i:Nat} (h:(Ho md acc o).testBit i=true):∃ e∈o.after,Region.binds md e=true∧(i=e.on∨(acc.getD e.on 0).testBit i=true):=by
 unfold Ho at h
 rw [← Array.foldl_toList] at h
 rcases NR _ _ h with h | ⟨e,he,h⟩
 ·simp at h
 ·exact⟨e,by simpa using he,h⟩
theorem Ps (md:Region.Mode):∀ (l:List Oper) (acc:List Nat),∃ r,l.foldl (fun acc o=>acc++[Ho md acc o]) acc=acc++r∧r.length=l.length ∧
  ∀ k o,l[k]?=some o→r[k]?=some (Ho md (acc++r.take k) o)
 |[],acc=>⟨[],by simp,rfl,fun k o h=>by simp at h⟩
 |o::l,acc=>by
  obtain ⟨r,h1,h2,h3⟩:=Ps md l (acc++[Ho md acc o])
  refine⟨Ho md acc o::r,by simp [h1],by simp [h2],fun k o' h=>?_⟩
  cases k with
  |zero=>simp at h;subst h;simp
  |succ k =>
   simp at h
   have:=h3 k o' h
   simpa using this
theorem AG {md:Region.Mode} {l:List Oper} {k i:Nat} {o:Oper} (ho:l[k]?=some o) (hord:∀ e∈o.after,Region.binds md e=true→e.on<k) (h:((NF md l).getD k 0).testBit i=true) :
  ∃ e∈o.after,Region.binds md e=true∧(i=e.on∨((NF md l).getD e.on 0).testBit i=true):=by
 obtain ⟨r,h1,h2,h3⟩:=Ps md l []
 have e1:NF md l=r:=by unfold NF;rw [h1];simp
 rw [e1] at h ⊢
 have h4:=h3 k o ho
 rw [List.getD,h4] at h
 obtain ⟨e,he,hb,hi⟩:=TU h
 refine⟨e,he,hb,hi.imp id fun hi=>?_⟩
 have hlt:=hord e he hb
 have hk:k<r.length:=by rcases Nat.lt_or_ge k r.length with g | g;exact g;rw [List.getElem?_eq_none g] at h4;cases h4
 have e2:([]++r.take k).getD e.on 0=r.getD e.on 0:=by simp [List.getD,hlt]
 rw [e2] at hi;exact hi
def lexB (md:Region.Mode) (l:List Oper):Bool :=
 let ms:=NF md l
 Region.noSelect l.toArray&&KJ md l.toArray l.length&&(List.range l.length).all fun j=>match l[j]? with
  |none=>false
  |some oj=>(List.range j).all fun i=>match l[i]? with
   |none=>false
   |some oi=>if Ju oi.op||Ju oj.op then(Region.waitsFor md l.toArray j i||oi.apart l.toArray oj) else(ms.getD j 0).testBit i
theorem DS {l:List Oper} (h:lexB md l=true) {i j:Nat} (hij:i<j) {oi oj:Oper} (hi:l[i]?=some oi) (hj:l[j]?=some oj) :
  if Ju oi.op||Ju oj.op then(Region.waitsFor md l.toArray j i||oi.apart l.toArray oj)=true else((NF md l).getD j 0).testBit i=true:=by
 simp only [lexB,Bool.and_eq_true] at h
 have hjl:j<l.length:=by rcases Nat.lt_or_ge j l.length with g | g;exact g;rw [List.getElem?_eq_none g] at hj;cases hj
 have h1:=List.all_eq_true.1 h.2 j (List.mem_range.2 hjl)
 rw [hj] at h1
 have h2:=List.all_eq_true.1 h1 i (List.mem_range.2 hij)
 rw [hi] at h2
 simp only at h2
 split
 ·rename_i g;rw [if_pos g] at h2;exact h2
 ·rename_i g;rw [if_neg g] at h2;exact h2
theorem TT {l:List Oper} {listed:Array Bool} (hord:KJ md l.toArray l.length=true) (hcl:∀ j oj,l.toArray[j]?=some oj→listed.getD j false=true→∀ e∈oj.after,Region.binds md e=true→listed.getD e.on false=true) :
  ∀ (k:Nat) (o:Oper),l[k]?=some o→(∀ e∈o.after,Region.binds md e=true→listed.getD e.on false=true)→∀ i,((NF md l).getD k 0).testBit i=true→listed.getD i false=true:=by
 intro k
 induction k using Nat.strongRecOn with
 |_ k ih =>
  intro o ho hd i hi
  have hk:k<l.length:=by rcases Nat.lt_or_ge k l.length with g | g;exact g;rw [List.getElem?_eq_none g] at ho;cases ho
  obtain ⟨o',ho',hed⟩:=Xr hord hk
  have:o'=o:=Option.some.inj (ho'.symm.trans (by simpa using ho))
  subst this
  obtain ⟨e,he,hb,h⟩:=AG ho hed hi
  have h1:=hd e he hb
  rcases h with rfl | h
  ·exact h1
  ·have hlt:=hed e he hb
   obtain ⟨oe,hoe,_⟩:=Xr hord (Nat.lt_trans hlt hk)
   exact ih e.on hlt oe (by simpa using hoe) (hcl e.on oe hoe h1) i h
theorem qY {l:List Oper} (hB:lexB md l=true) (hQ:∀ c a d v w,Q (.panic c) (Act.put a d v) w→Q (.panic c) a w) :
  ∀ (m:Nat) (r:List Nat) (listed:Array Bool) (a:Act) (w:World),r.length=m→r.Pairwise (·<·)→(∀ i,i∈r↔i<l.length∧listed.getD i true=false)→listed.size=l.length →
   (∀ j oj,l.toArray[j]?=some oj→listed.getD j false=true→∀ e∈oj.after,Region.binds md e=true→listed.getD e.on false=true)→S w→N8 P l.toArray Q S r a w→wpAnyH P md l.toArray Q S m listed a w:=by
 have hB':=hB
 simp only [lexB,Bool.and_eq_true] at hB'
 obtain ⟨⟨hns,hord⟩,_⟩:=hB'
 have hsel:=Region.noSelect_spec hns
 intro m
 induction m with
 |zero =>
  intro r listed a w hm hs hr hsz hcl hS h
  have:r=[]:=List.length_eq_zero_iff.1 hm
  subst this
  refine⟨?_,h⟩
  rw [List.eq_nil_iff_forall_not_mem]
  intro i hi
  obtain ⟨h1,o,ho,_⟩:=mem_ready.1 hi
  have hlt:i<l.length:=by have:=(Array.getElem?_eq_some_iff.1 ho).1;simpa using this
  have:=(hr i).2 ⟨hlt,h1⟩
  cases this
 |succ m ih =>
  intro r listed a w hm hs hr hsz hcl hS h
  match r,hm,hs,hr,h with
  |i::r,hm,hs,hr,h =>
  have hil:=(hr i).1 (by simp)
  have hmin:∀ j,j<i→listed.getD j false=true:=by
   intro j hj
   cases hv:listed.getD j false with
   |true=>rfl
   |false =>
    have hjl:j<l.length:=by omega
    have:=(hr j).2 ⟨hjl,getD_in (by omega) hv⟩
    rcases List.mem_cons.1 this with e | e
    ·omega
    ·have:=(List.pairwise_cons.1 hs).1 j e;omega
  obtain ⟨oi,hoi,hed⟩:=Xr hord hil.1
  have hri:i∈Region.ready md l.toArray listed:=mem_ready.2 ⟨hil.2,oi,hoi,fun e he hb=>hmin _ (hed e he hb)⟩
  have next:∀ j,j∈Region.ready md l.toArray listed→j∈(i::r)→∀ a' w',S w'→N8 P l.toArray Q S ((i::r).erase j) a' w'→wpAnyH P md l.toArray Q S m (listed.setIfInBounds j true) a' w':=by
   intro j hj hjr a' w' hS' h'
   have hjsz:j<listed.size:=by rw [hsz];exact((hr j).1 hjr).1
   refine ih ((i::r).erase j) _ a' w' (by rw [List.length_erase_of_mem hjr];simp at hm ⊢;omega) (hs.sublist List.erase_sublist) (fun k=>?_) (by simpa using hsz) (fun k ok hk hl e he hb=>?_) hS' h'
   ·rw [List.Nodup.mem_erase_iff (hs.imp (fun h=>Nat.ne_of_lt h)),hr k]
    by_cases hjk:j=k
    ·subst hjk;simp [hjsz]
    ·rw [getD_set_ne true hjk];simp [Ne.symm hjk]
   ·by_cases hjk:j=k
    ·subst hjk
     obtain ⟨_,oj,hoj,hall⟩:=mem_ready.1 hj
     have:ok=oj:=Option.some.inj (hk.symm.trans hoj)
     subst this
     exact getD_set_true (hall e he hb)
    ·rw [getD_set_ne false hjk] at hl
     exact getD_set_true (hcl k ok hk hl e he hb)
  have take:∀ j oj,j∈Region.ready md l.toArray listed→l.toArray[j]?=some oj→Ju oj.op=true→j∈(i::r)→wpAnyH P md l.toArray Q S (m+1) listed a w:=by
   intro j oj hj hoj hq hjr
   obtain ⟨pre,post,hpp⟩:=List.append_of_mem hjr
   have hjs:=mem_ready.1 hj
   have happ:∀ k ok,l.toArray[k]?=some ok→k≠j→listed.getD k true=false→(∀ e∈ok.after,Region.binds md e=true→e.on≠j)→oj.apart l.toArray ok=true:=by
    intro k ok hok hkj hun hno
    have hnw:Region.waitsFor md l.toArray k j=false:=by
     cases hv:Region.waitsFor md l.toArray k j with
     |false=>rfl
     |true =>
      obtain ⟨o',ho',e,he,hb,hon⟩:=Region.waitsFor_spec hv
      have:o'=ok:=Option.some.inj (ho'.symm.trans hok)
      subst this
      exact absurd hon (hno e he hb)
    have hnw2:Region.waitsFor md l.toArray j k=false:=by
     cases hv:Region.waitsFor md l.toArray j k with
     |false=>rfl
     |true =>
      obtain ⟨o',ho',e,he,hb,hon⟩:=Region.waitsFor_spec hv
      obtain ⟨_,o2,ho2,hall⟩:=hjs
      have:o'=o2:=Option.some.inj (ho'.symm.trans ho2)
      subst this
      have:=hall e he hb
      rw [hon,getD_both hun] at this;cases this
    rcases Nat.lt_or_gt_of_ne hkj with hlt | hgt
    ·have:=DS hB hlt (by simpa using hok) (by simpa using hoj)
     rw [if_pos (by simp [hq]),hnw2] at this
     exact Ni (by simpa using this)
    ·have:=DS hB hgt (by simpa using hoj) (by simpa using hok)
     rw [if_pos (by simp [hq]),hnw] at this
     simpa using this
   have hfront:=Hq (P:=P) (Q:=Q) (S:=S) hoj hq hsel pre a w (post:=post) (fun k hk ok hok=>by
    have hkr:k∈(i::r):=by rw [hpp];simp [hk]
    have hkj:k<j:=by
     rw [hpp] at hs
     exact(List.pairwise_append.1 hs).2.2 k hk j (by simp)
    refine happ k ok hok (by omega) ((hr k).1 hkr).2 (fun e he hb heq=>?_)
    obtain ⟨o',ho',hed'⟩:=Xr hord ((hr k).1 hkr).1
    have:o'=ok:=Option.some.inj (ho'.symm.trans hok)
    subst this
    have:=hed' e he hb;omega) (by rw [← hpp];exact h)
   obtain ⟨v,hy,h'⟩:=hfront
   have herase:(i::r).erase j=pre++post:=by
    rw [hpp,List.erase_append_right,List.erase_cons_head]
    intro hmem
    rw [hpp] at hs
    have:=(List.pairwise_append.1 hs).2.2 j hmem j (by simp)
    omega
   exact wpAnyH_first hoj hsel (fun c a w h=>hQ c a _ v w h) m listed a w happ hj hy hS (next j hj hjr _ w hS (by rw [herase];exact h'))
  by_cases hex:∃ j oj,j∈Region.ready md l.toArray listed∧l.toArray[j]?=some oj∧Ju oj.op=true
  ·obtain ⟨j,oj,hj,hoj,hq⟩:=hex
   have hjl:j<l.length:=by have:=(Array.getElem?_eq_some_iff.1 hoj).1;simpa using this
   exact take j oj hj hoj hq ((hr j).2 ⟨hjl,(mem_ready.1 hj).1⟩)
  ·
   have hone:∀ j∈Region.ready md l.toArray listed,j=i:=by
    intro j hj
    obtain ⟨hjun,oj,hoj,hall⟩:=mem_ready.1 hj
    have hjl:j<l.length:=by have:=(Array.getElem?_eq_some_iff.1 hoj).1;simpa using this
    have hjr:=(hr j).2 ⟨hjl,hjun⟩
    rcases List.mem_cons.1 hjr with e | e
    ·exact e
    ·have hlt:=(List.pairwise_cons.1 hs).1 j e
     have hqj:Ju oj.op=false:=by
      cases hv:Ju oj.op with
      |false=>rfl
      |true=>exact absurd ⟨j,oj,hj,hoj,hv⟩ hex
     have hqi:Ju oi.op=false:=by
      cases hv:Ju oi.op with
      |false=>rfl
      |true=>exact absurd ⟨i,oi,hri,hoi,hv⟩ hex
     have:=DS hB hlt (by simpa using hoi) (by simpa using hoj)
     rw [if_neg (by simp [hqi,hqj])] at this
     have:=TT hord hcl j oj (by simpa using hoj) hall i this
     rw [getD_both hil.2] at this;cases this
   refine⟨fun h0=>(by rw [h0] at hri;cases hri),fun j hj=>?_⟩
   have:=hone j hj
   subst this
   obtain ⟨o,ho,h⟩:=h
   have:o=oi:=Option.some.inj (ho.symm.trans hoi)
   subst this
   rcases h with ⟨hq,_⟩ | ⟨_,h⟩
   ·exact absurd ⟨j,o,hri,ho,hq⟩ hex
   ·refine Sc (wpOp_mono (fun a' w' h=>⟨h.1,?_⟩) h)
    exact next j hri (by simp) a' w' h.1 (by rw [List.erase_cons_head];exact h.2)
end
section
variable {Q:Exit→Act→World→Prop} {S:World→Prop}
def TW (P:Program) (ops:Array Oper) (Q:Exit→Act→World→Prop) (S:World→Prop):List Oper→Act→World→Prop
  | [],a,w=>Q .normal a w
  | o::r,a,w =>
      (Ju o.op=true∧∃ v,YieldsIf P ops S o v a∧TW P ops Q S r (a.put o.dst v) w) ∨
       (Ju o.op=false∧if Region.wanted o (yielded ops a.tmps) then o.wp P a w (fun a' w'=>S w'∧TW P ops Q S r a' w') (fun _ _ _=>False) else S w∧TW P ops Q S r (a.put o.dst undef) w)
theorem Kt {ops:Array Oper}:∀ (l:List Oper) (k:Nat) (a:Act) (w:World),(∀ j,j<l.length→l[j]?=ops[k+j]?)→TW P ops Q S l a w→N8 P ops Q S (List.range' k l.length) a w
 |[],k,a,w,_,h=>h
 |o::l,k,a,w,hl,h=>by
  have h0:ops[k]?=some o:=by simpa using (hl 0 (by simp)).symm
  have hl':∀ j,j<l.length→l[j]?=ops[k+1+j]?:=fun j hj=>by
   have:=hl (j+1) (by simp;omega)
   rw [show k+1+j=k+(j+1) by omega,← this];simp
  rw [List.length_cons,List.range'_succ]
  refine⟨o,h0,?_⟩
  rcases h with ⟨h1,v,h2,h3⟩ | ⟨h1,h2⟩
  ·exact .inl ⟨h1,v,h2,Kt l (k+1) _ w hl' h3⟩
  ·refine .inr ⟨h1,?_⟩
   unfold wpOp
   simp only [h0]
   split
   ·rename_i hw
    rw [if_pos hw] at h2
    exact .inl (Oper.wp_mono (fun a' w' h=>⟨h.1,Kt l (k+1) a' w' hl' h.2⟩) h2)
   ·rename_i hw
    rw [if_neg hw] at h2
    exact⟨h2.1,Kt l (k+1) _ w hl' h2.2⟩
theorem Vl {l:List Oper} {Q':Exit→Act→World→Prop} (hB:lexB .any l=true) (hQ:∀ c a w,¬ Q' (.panic c) a w) {a:Act} {w:World} (hS:S w) (h:TW P l.toArray Q' S l a w) :
  wpAny P .any l.toArray Q' l.length (Array.replicate l.length false) a w:=by
 refine wpAny_of_held _ _ _ _ (qY hB (fun c a d v w h=>absurd h (hQ c _ w)) l.length (List.range' 0 l.length) _ a w (by simp) List.pairwise_lt_range' (fun i=>?_) (by simp) (fun j oj _ hl=>(by rw [getD_replicate_false] at hl;cases hl)) hS (Kt l 0 a w (fun j _=>by simp) h))
 rw [List.mem_range'_1]
 constructor
 ·intro h
  have:i<l.length:=by omega
  simp [this]
 ·intro h;omega
def Xs (K:Act→World→Prop):Exit→Act→World→Prop
 |.normal,a,w=>K a w
 |_,_,_=>False
theorem Oper.LQ {o:Oper} {a:Act} {w:World} {K:Act→World→Prop} {Q Q':Exit→Act→World→Prop} (hq:∀ e a w,Q e a w→Q' e a w) (h:o.wp P a w K Q):o.wp P a w K Q':=by
 unfold Oper.wp at *
 generalize (execOp a.eval o).run P w=r at *
 cases r with
 |ok n w' =>
  cases n<;>simp only [Oper.upon] at h ⊢
  all_goals first
   |exact h
   |exact Calls.mono h fun e w'' he=>by
     cases e with
     |returned u=>exact he
     |panicked c=>exact hq _ _ _ he
     |outgrown=>obtain ⟨a,w,h⟩:=he;exact⟨a,w,hq _ _ _ h⟩
 |halt x w'=>cases x<;>simp only [Oper.upon] at h ⊢;exact hq _ _ _ h
theorem Ub {ops:Array Oper} {i:Nat} {K:Act→World→Prop} {Q Q':Exit→Act→World→Prop} {a:Act} {w:World} (hq:∀ e a w,Q e a w→Q' e a w) (h:wpOp P ops Q i K a w):wpOp P ops Q' i K a w:=by
 unfold wpOp at *
 cases ho:ops[i]? with
 |none=>simp only [ho] at h ⊢;exact h
 |some o =>
  simp only [ho] at h ⊢
  split
  ·rename_i hw
   rw [if_pos hw] at h
   exact h.imp (Oper.LQ hq) (fun⟨h1,a,w,h2⟩=>⟨h1,a,w,hq _ _ _ h2⟩)
  ·rename_i hw;rw [if_neg hw] at h;exact h
theorem Vb {ops:Array Oper} {Q Q':Exit→Act→World→Prop} (hq:∀ e a w,Q e a w→Q' e a w):∀ (f:Nat) (listed:Array Bool) (a:Act) (w:World),wpAny P md ops Q f listed a w→wpAny P md ops Q' f listed a w
 |0,_,_,_,h=>⟨h.1,hq _ _ _ h.2⟩
 |f+1,_,_,_,h=>⟨fun h0=>hq _ _ _ (h.1 h0),fun i hi=>Ub hq (wpOp_mono (fun a' w' h'=>Vb hq f _ a' w' h') (h.2 i hi))⟩
theorem N1 {id:Nat} {a:Act} {w:World} {l:List Oper} (hm:P.follows .mixedOrders=true) (hB:lexB .any l=true) (hS:S { w with drawn:=w.drawn+1 })
  (h:TW P l.toArray (Xs (Q .normal)) S l a { w with drawn:=w.drawn+1 }):(Code.region id l.toArray true).wp P Q a w:=by
 refine wp_region_any hm ?_
 have:=Vl (P:=P) (Q':=Xs (Q .normal)) hB (fun c a w h=>h) hS h
 simpa using Vb (Q':=Q) (fun e a w h=>by cases e<;>first | exact h | exact h.elim) _ _ _ _ this
theorem Gp {id:Nat} {a:Act} {w:World} {l:List Oper} (n:Nat) (hm:P.follows .mixedOrders=true) (hB:Hh l n=true) (hB2:lexB .any (l.take n)=true) (hS:S { w with drawn:=w.drawn+1 })
  (h:TW P (l.take n).toArray (Xs (fun a w=>wpList P l.toArray Q (l.drop n) a w)) S (l.take n) a { w with drawn:=w.drawn+1 }):(Code.region id l.toArray true).wp P Q a w:=by
 refine EV n hm hB ?_
 have hn:n<l.length:=by simp only [Hh,Bool.and_eq_true,decide_eq_true_eq] at hB;exact hB.1.1.1.1.1
 have:=Vl (P:=P) hB2 (fun c a w h=>h) hS h
 have e:(l.take n).length=n:=by simp;omega
 rw [e] at this
 exact Vb (fun e a w h=>by cases e<;>first | exact h | exact h.elim) _ _ _ _ this
end
end
end
section
open Go.RowKit
abbrev Gs:=Nat→Option (Array Value×TypeId)
def Gs.le (F F':Gs):Prop:=∀ b x,F b=some x→F' b=some x
theorem Gs.le_refl (F:Gs):Gs.le F F:=fun _ _ h=>h
theorem Gs.le_trans {F F' F'':Gs} (h:Gs.le F F') (k:Gs.le F' F''):Gs.le F F'':=fun b x hx=>k b x (h b x hx)
class Dr where
 on:Prop
instance (priority:=10) cw:Dr:=⟨False⟩
class Df where
 ds:List Deferred
instance (priority:=10) VA:Df:=⟨[]⟩
structure PI [Dr] (w w':World):Prop extends Below w.heap.size w w' where
 dr:Dr.on→w.drawn≤w'.drawn
section
variable [Dr]
theorem PI.refl (w:World):PI w w:=⟨Ext.refl w,fun _=>Nat.le_refl _⟩
theorem PI.trans {a b c:World} (h:PI a b) (k:PI b c):PI a c:=⟨Ext.trans h.toBelow k.toBelow,fun d=>Nat.le_trans (h.dr d) (k.dr d)⟩
theorem PI.alloc {a w:World} (h:PI a w) (o:Obj):PI a (w.alloc o):=⟨Ext.alloc h.toBelow o,h.dr⟩
theorem PI.drew {a w:World} (h:PI a w):PI a w.drew:=⟨Ext.drew h.toBelow,fun d=>Nat.le_succ_of_le (h.dr d)⟩
end
theorem PI.of {w w':World} (h:Ext w w'):PI w w':=⟨h,fun d=>d.elim⟩
section
variable [Dr] [df:Df]
structure Fits (F:Gs) (w:World):Prop where
 row:∀ b c T,F b=some (c,T)→∃ fr,w.heap[b]?=some (.cells c T fr)
 all:∀ b c fr,w.heap[b]?=some (.cells c 248 fr)→F b=some (c,248)
theorem Fits.drew {F:Gs} {w:World} (h:Fits F w):Fits F w.drew:=⟨h.row,h.all⟩
theorem Fits.lt {F:Gs} {w:World} (h:Fits F w) {b:Nat} {x:Array Value×TypeId} (hb:F b=some x):b<w.heap.size:=by
 obtain ⟨fr,h⟩:=h.row b x.1 x.2 hb
 rcases Nat.lt_or_ge b w.heap.size with g | g
 ·exact g
 ·rw [Array.getElem?_eq_none g] at h;cases h
theorem Fits.none {F:Gs} {w:World} (h:Fits F w) {b:Nat} (hb:w.heap.size≤b):F b=none:=by
 cases hv:F b with
 |none=>rfl
 |some x=>have:=h.lt hv;omega
abbrev Sl:=List (Nat×Value)
def look:Sl→Nat→Option Value
 |[],_=>none
 |(k,v)::r,t=>bif Nat.beq k t then some v else look r t
def dM (m:Sl):Option Tmp→Value→Sl
 |some d,v=>(d,v)::m
 |none,_=>m
def ev (m:Sl):Operand→Option Value
 |.tmp t=>look m t
 |.const v=>some v
 |.global g=>some (.pointer (some ⟨g,0,none⟩))
 |.func f=>some (.func (.func f) #[] #[])
def Ec (m:Sl):List Operand→Option (List Value)
 |[]=>some []
 |x::r=>match ev m x,Ec m r with
  |some v,some l=>some (v::l)
  |_,_=>none
def J4 (N:Nat) (d:Option Tmp):Bool:=match d with | some d=>Nat.blt d N | none=>true
structure Jr (N:Nat) (m:Sl) (a:Act):Prop where
 size:a.tmps.size=N
 df:a.defers=Df.ds
 get:∀ t v,look m t=some v→a.tmps[t]?=some v
theorem Jr.ev {N:Nat} {m:Sl} {a:Act} (h:Jr N m a) {x:Operand} {v:Value} (hx:ev m x=some v):a.eval x=v:=by
 cases x with
 |tmp t=>have:=h.get t v hx;simp [Act.eval,this]
 |const v'=>simpa [YtknegjaeoffnbaaGreatDoor.ev,Act.eval] using hx
 |global g=>simpa [YtknegjaeoffnbaaGreatDoor.ev,Act.eval] using hx
 |func f=>simpa [YtknegjaeoffnbaaGreatDoor.ev,Act.eval] using hx
theorem Jr.Ec {N:Nat} {m:Sl} {a:Act} (h:Jr N m a):∀ {l:List Operand} {vs:List Value},Ec m l=some vs→l.map a.eval=vs
 |[],vs,e=>by simpa [YtknegjaeoffnbaaGreatDoor.Ec] using e
 |x::l,vs,e=>by
  unfold YtknegjaeoffnbaaGreatDoor.Ec at e
  cases hx:YtknegjaeoffnbaaGreatDoor.ev m x with
  |none=>rw [hx] at e;simp at e
  |some v =>
   cases hl:YtknegjaeoffnbaaGreatDoor.Ec m l with
   |none=>rw [hx,hl] at e;simp at e
   |some r =>
    rw [hx,hl] at e
    simp only [Option.some.injEq] at e
    subst e
    rw [List.map_cons,h.ev hx,h.Ec hl]
theorem Jr.put {N:Nat} {m:Sl} {a:Act} (h:Jr N m a) {d:Option Tmp} (hd:J4 N d=true) (v:Value):Jr N (dM m d v) (a.put d v):=by
 cases d with
 |none=>exact h
 |some d =>
  have hd':d<N:=by simpa [J4] using hd
  refine⟨by simp [Act.put,h.size],h.df,fun t u ht=>?_⟩
  simp only [dM,look] at ht
  cases hb:Nat.beq d t with
  |true =>
   rw [hb] at ht
   have:d=t:=by simpa using hb
   subst this
   have:v=u:=by simpa using ht
   subst this
   simp [Act.put,h.size,hd']
  |false =>
   rw [hb] at ht
   have hne:d≠t:=by intro e;subst e;simp at hb
   have:=h.get t u (by simpa using ht)
   simp [Act.put,Array.getElem?_setIfInBounds_ne hne,this]
def Y2 (m:Sl):Sl→Prop
 |[]=>True
 |(t,v)::r=>look m t=some v∧Y2 m r
theorem Jr.sub {N:Nat} {m:Sl} {a:Act} (h:Jr N m a):∀ {m':Sl},Y2 m m'→Jr N m' a
 |[],_=>⟨h.size,h.df,fun t v e=>by simp [look] at e⟩
 |(k,u)::r,⟨h1,h2⟩=>by
  refine⟨h.size,h.df,fun t v e=>?_⟩
  simp only [look] at e
  cases hb:Nat.beq k t with
  |true =>
   rw [hb] at e
   have:k=t:=by simpa using hb
   subst this
   have:u=v:=by simpa using e
   subst this
   exact h.get _ _ h1
  |false=>rw [hb] at e;exact(h.sub h2).get t v (by simpa using e)
structure Env where
 w0:World
 F0:Gs
 bs:List (Nat×Obj)
 G:Gs→Prop
structure LD (E:Env) (w:World) (F:Gs):Prop where
 le:Gs.le E.F0 F
 old:∀ b,b<E.w0.heap.size→F b=E.F0 b
 fits:Fits F w
 ext:PI E.w0 w
 bx:∀ k∈E.bs,w.heap[k.1]?=some k.2∧E.w0.heap.size≤k.1∧F k.1=none
 nd:(E.bs.map (·.1)).Nodup
 g:∀ F',Gs.le F F'→E.G F'
def St (E:Env) (w:World):Prop:=∃ F,LD E w F
theorem LD.drew {E:Env} {w:World} {F:Gs} (h:LD E w F):LD E w.drew F:=⟨h.le,h.old,h.fits.drew,h.ext.drew,h.bx,h.nd,h.g⟩
theorem St.drew {E:Env} {w:World} (h:St E w):St E w.drew:=h.imp fun _ h=>h.drew
theorem LD.hG {E:Env} {w:World} {F:Gs} (h:LD E w F):E.G F:=h.g F (Gs.le_refl F)
theorem St.start {w:World} {F:Gs} (hf:Fits F w) {G:Gs→Prop} (hg:∀ F',Gs.le F F'→G F'):St ⟨w,F,[],G⟩ w :=
 ⟨F,Gs.le_refl F,fun _ _=>rfl,hf,PI.refl w,fun _ h=>(by cases h),List.nodup_nil,hg⟩
theorem St.imp {w0:World} {F0:Gs} {bs bs':List (Nat×Obj)} {G G':Gs→Prop} {w:World} (h:St ⟨w0,F0,bs,G⟩ w) (hb:bs'.Sublist bs) (hg:∀ F,G F→G' F):St ⟨w0,F0,bs',G'⟩ w:=by
 obtain ⟨F,h⟩:=h
 exact⟨F,h.le,h.old,h.fits,h.ext,fun k hk=>h.bx k (hb.subset hk),(hb.map _).nodup h.nd,fun F' hF'=>hg F' (h.g F' hF')⟩
theorem St.Bb {w0:World} {F0:Gs} {bs:List (Nat×Obj)} {G G':Gs→Prop} {w:World} (h:St ⟨w0,F0,bs,G⟩ w) (hg:∀ F,G F→G' F):St ⟨w0,F0,bs,G'⟩ w:=h.imp (List.Sublist.refl _) hg
theorem Pl {α:Type} {x:α} {l r:List α} (h:(l++x::r).Nodup):x∉l++r∧(l++r).Nodup:=by
 have h1:=h
 rw [List.nodup_append] at h1
 obtain ⟨a,b,c⟩:=h1
 obtain ⟨d,e⟩:=List.nodup_cons.1 b
 refine⟨fun hx=>?_,?_⟩
 ·rcases List.mem_append.1 hx with hx | hx
  ·exact c x hx x (by simp) rfl
  ·exact d hx
 ·rw [List.nodup_append]
  exact⟨a,e,fun y hy z hz=>c y hy z (by simp [hz])⟩
theorem St.alloc {w0:World} {F0:Gs} {bs:List (Nat×Obj)} {G:Gs→Prop} {w:World} (h:St ⟨w0,F0,bs,G⟩ w) (o:Obj) (ho:∀ c fr,o≠.cells c 248 fr):St ⟨w0,F0,(w.heap.size,o)::bs,G⟩ (w.alloc o):=by
 obtain ⟨F,h⟩:=h
 have hne:∀ k∈bs,k.1≠w.heap.size:=fun k hk e=>by
  have:=(h.bx k hk).1
  rw [e,Array.getElem?_eq_none (Nat.le_refl _)] at this;cases this
 refine⟨F,⟨h.le,h.old,⟨fun b c T hb=>?_,fun b c fr hb=>?_⟩,h.ext.alloc o,fun k hk=>?_,?_,h.g⟩⟩
 ·obtain ⟨fr,e⟩:=h.fits.row b c T hb
  exact⟨fr,by rw [Below.heap_alloc _ _ _ (h.fits.lt hb)];exact e⟩
 ·rcases Nat.lt_or_ge b w.heap.size with g | g
  ·rw [Below.heap_alloc _ _ _ g] at hb;exact h.fits.all b c fr hb
  ·have hb':(w.heap.push o)[b]?=some (.cells c 248 fr):=hb
   rw [Array.getElem?_push] at hb'
   split at hb'
   ·exact absurd (Option.some.inj hb') (ho c fr)
   ·rw [Array.getElem?_eq_none g] at hb';cases hb'
 ·rcases List.mem_cons.1 hk with rfl | hk
  ·exact⟨by show(w.heap.push o)[w.heap.size]?=_;simp,h.ext.size,h.fits.none (Nat.le_refl _)⟩
  ·obtain ⟨h1,h2,h3⟩:=h.bx k hk
   have hlt:k.1<w.heap.size:=by
    rcases Nat.lt_or_ge k.1 w.heap.size with g | g
    ·exact g
    ·rw [Array.getElem?_eq_none g] at h1;cases h1
   exact⟨by rw [Below.heap_alloc _ _ _ hlt];exact h1,h2,h3⟩
 ·show(w.heap.size::bs.map (·.1)).Nodup
  refine List.nodup_cons.2 ⟨fun hm=>?_,h.nd⟩
  obtain ⟨k,hk,e⟩:=List.mem_map.1 hm
  exact hne k hk e
theorem LD.freeze {w0:World} {F0:Gs} {pre post:List (Nat×Obj)} {b:Nat} {c:Array Value} {T:TypeId} {fr:Nat×Nat} {G:Gs→Prop} {w:World} {F:Gs} (h:LD ⟨w0,F0,pre++(b,.cells c T fr)::post,G⟩ w F) :
  LD ⟨w0,F0,pre++post,G⟩ w (fun i=>if i=b then some (c,T) else F i)∧Gs.le F (fun i=>if i=b then some (c,T) else F i):=by
 obtain ⟨h1,h2,h3⟩:=h.bx (b,.cells c T fr) (by simp)
 have hle:Gs.le F (fun i=>if i=b then some (c,T) else F i):=fun i x hx=>by
  by_cases e:i=b
  ·subst e;rw [h3] at hx;cases hx
  ·show(if i=b then _ else _)=_
   rw [if_neg e];exact hx
 have hnd:=h.nd
 simp only [List.map_append,List.map_cons] at hnd
 have hnd2:=(Pl hnd)
 refine⟨⟨Gs.le_trans h.le hle,fun i hi=>?_,⟨fun i c' T' hi=>?_,fun i c' fr' hi=>?_⟩,h.ext,fun k hk=>?_,?_,fun F' hF'=>h.g F' (Gs.le_trans hle hF')⟩,hle⟩
 ·have:i≠b:=by rintro rfl;exact absurd hi (Nat.not_lt.2 h2)
  rw [if_neg this];exact h.old i hi
 ·by_cases e:i=b
  ·subst e
   rw [if_pos rfl] at hi
   cases hi
   exact⟨fr,h1⟩
  ·rw [if_neg e] at hi;exact h.fits.row i c' T' hi
 ·by_cases e:i=b
  ·subst e
   have:=h1.symm.trans hi
   cases this
   rw [if_pos rfl]
  ·rw [if_neg e];exact h.fits.all i c' fr' hi
 ·obtain ⟨g1,g2,g3⟩:=h.bx k (by
   rcases List.mem_append.1 hk with h | h
   ·simp [h]
   ·simp [h])
  refine⟨g1,g2,?_⟩
  have hkb:k.1≠b:=by
   rintro rfl
   refine hnd2.1 ?_
   rw [← List.map_append];exact List.mem_map_of_mem hk
  rw [if_neg hkb];exact g3
 ·show((pre++post).map (·.1)).Nodup
  rw [List.map_append];exact hnd2.2
theorem St.freeze {w0:World} {F0:Gs} (pre:List (Nat×Obj)) {post:List (Nat×Obj)} {b:Nat} {c:Array Value} {T:TypeId} {fr:Nat×Nat} {G:Gs→Prop} {w:World} (h:St ⟨w0,F0,pre++(b,.cells c T fr)::post,G⟩ w) :
  St ⟨w0,F0,pre++post,fun F=>G F∧F b=some (c,T)⟩ w:=by
 obtain ⟨F,h⟩:=h
 obtain ⟨h1,hle⟩:=h.freeze
 exact⟨_,h1.le,h1.old,h1.fits,h1.ext,h1.bx,h1.nd,fun F' hF'=>⟨h1.g F' hF',hF' b _ (by show(if b=b then _ else _)=_;rw [if_pos rfl])⟩⟩
theorem St.write {w0:World} {F0:Gs} (pre:List (Nat×Obj)) {post:List (Nat×Obj)} {b:Nat} {o o':Obj} {G:Gs→Prop} {w w':World} (h:St ⟨w0,F0,pre++(b,o)::post,G⟩ w)
  (hw:w'.heap=w.heap.setIfInBounds b o'∧w'.os=w.os∧w'.tape=w.tape∧w'.output=w.output∧w'.drawn=w.drawn) (ho:∀ c fr,o'≠.cells c 248 fr):St ⟨w0,F0,pre++(b,o')::post,G⟩ w':=by
 obtain ⟨F,h⟩:=h
 obtain ⟨h1,h2,h3⟩:=h.bx (b,o) (by simp)
 have hlt:b<w.heap.size:=by
  rcases Nat.lt_or_ge b w.heap.size with g | g
  ·exact g
  ·rw [Array.getElem?_eq_none g] at h1;cases h1
 have hne:∀ i,i≠b→w'.heap[i]?=w.heap[i]?:=fun i hi=>by rw [hw.1,Array.getElem?_setIfInBounds_ne (Ne.symm hi)]
 have heq:w'.heap[b]?=some o':=by rw [hw.1];simp [hlt]
 have hsz:w'.heap.size=w.heap.size:=by rw [hw.1];simp
 have hnd:=h.nd
 simp only [List.map_append,List.map_cons] at hnd
 have hnd2:=(Pl hnd)
 refine⟨F,⟨h.le,h.old,⟨fun i c T hi=>?_,fun i c fr hi=>?_⟩,⟨Ext.xt h.ext.toBelow ?_ ?_ ?_ ?_ ?_,fun d=>by rw [hw.2.2.2.2];exact h.ext.dr d⟩,fun k hk=>?_,?_,h.g⟩⟩
 ·have:i≠b:=by rintro rfl;rw [h3] at hi;cases hi
  rw [hne i this];exact h.fits.row i c T hi
 ·by_cases e:i=b
  ·subst e;rw [heq] at hi;exact absurd (Option.some.inj hi) (ho c fr)
  ·rw [hne i e] at hi;exact h.fits.all i c fr hi
 ·exact hw.2.1
 ·exact hw.2.2.1
 ·exact hw.2.2.2.1
 ·omega
 ·intro i hi
  exact hne i (by rintro rfl;exact absurd hi (Nat.not_lt.2 h2))
 ·have key:k=(b,o')∨k∈pre++post:=by
   rcases List.mem_append.1 hk with h | h
   ·exact .inr (by simp [h])
   ·rcases List.mem_cons.1 h with h | h
    ·exact .inl h
    ·exact .inr (by simp [h])
  rcases key with rfl | hk'
  ·exact⟨heq,h2,h3⟩
  ·obtain ⟨g1,g2,g3⟩:=h.bx k (by
    rcases List.mem_append.1 hk' with h | h
    ·simp [h]
    ·simp [h])
   have hkb:k.1≠b:=by
    rintro rfl
    refine hnd2.1 ?_
    rw [← List.map_append];exact List.mem_map_of_mem hk'
   exact⟨by rw [hne _ hkb];exact g1,g2,g3⟩
 ·show((pre++(b,o')::post).map (·.1)).Nodup
  simp only [List.map_append,List.map_cons]
  exact hnd
end
end
section
open Go.RowKit
section
variable [Dr] [df:Df]
section
variable {P:Program} {Q:Exit→Act→World→Prop} {N:Nat} {m:Sl} {E:Env}
def Fin (Q:Exit→Act→World→Prop) (e:Exit) (N:Nat) (m:Sl) (E:Env):Prop:=∀ a w,Jr N m a→St E w→Q e a w
def J (P:Program) (c:Code) (Q:Exit→Act→World→Prop) (N:Nat) (m:Sl) (E:Env):Prop:=∀ a w,Jr N m a→St E w→c.wp P Q a w
def JS (P:Program) (ops:Array Oper) (Q:Exit→Act→World→Prop) (l:List Oper) (N:Nat) (m:Sl) (E:Env):Prop:=∀ a w,Jr N m a→St E w→wpList P ops Q l a w
def JD (P:Program) (ops:Array Oper) (Q:Exit→Act→World→Prop) (E0:Env) (l:List Oper) (N:Nat) (m:Sl) (E:Env):Prop:=(∀ w,St E w→St E0 w)→∀ a w,Jr N m a→St E w→TW P ops Q (St E0) l a w
theorem QG {x y:Code} (h:J P x (Exit.then (y.wp P Q) Q) N m E):J P (.seq x y) Q N m E:=fun a w ha hw=>wp_seq (h a w ha hw)
theorem QX {id:Nat} {c:Code} (h:J P c (Exit.inBlock id Q) N m E):J P (.block id c) Q N m E:=fun a w ha hw=>wp_block (h a w ha hw)
theorem QO (h:Fin Q .normal N m E):J P .skip Q N m E:=fun a w ha hw=>wp_skip (h a w ha hw)
theorem Qy {id:Nat} (h:Fin Q (.exit id) N m E):J P (.exit id) Q N m E:=fun a w ha hw=>wp_exit (h a w ha hw)
theorem QS (h:Fin Q .ret N m E):J P .ret Q N m E:=fun a w ha hw=>wp_ret (h a w ha hw)
theorem QP {c:Operand} {x y:Code} {t:Bool} (hc:ev m c=some (.bool t)) (ht:t=true→J P x Q N m E) (hf:t=false→J P y Q N m E):J P (.cond c x y) Q N m E :=
 fun a w ha hw=>wp_cond_split (ha.ev hc) (fun h=>ht h a w ha hw) (fun h=>hf h a w ha hw)
theorem Wu {c:Operand} {x y:Code} (hc:ev m c=some (.bool true)) (h:J P x Q N m E):J P (.cond c x y) Q N m E:=QP hc (fun _=>h) (fun h=>by cases h)
theorem YF {c:Operand} {x y:Code} (hc:ev m c=some (.bool false)) (h:J P y Q N m E):J P (.cond c x y) Q N m E:=QP hc (fun h=>by cases h) (fun _=>h)
theorem QC {y:Code} (h:J P y Q N m E):Fin (Exit.then (y.wp P Q) Q) .normal N m E:=h
theorem QZ {K:Act→World→Prop} {id:Nat} (h:Fin Q (.exit id) N m E):Fin (Exit.then K Q) (.exit id) N m E:=h
theorem JE {K:Act→World→Prop} (h:Fin Q .ret N m E):Fin (Exit.then K Q) .ret N m E:=h
theorem Qk {id:Nat} (h:Fin Q .normal N m E):Fin (Exit.inBlock id Q) .normal N m E:=h
theorem Q3 {id:Nat} (h:Fin Q .ret N m E):Fin (Exit.inBlock id Q) .ret N m E:=h
theorem Qa {id:Nat} (h:Fin Q .normal N m E):Fin (Exit.inBlock id Q) (.exit id) N m E:=fun a w ha hw=>by simp only [Exit.inBlock,if_true];exact h a w ha hw
theorem QV {id id':Nat} (hid:Nat.beq id' id=false) (h:Fin Q (.exit id') N m E):Fin (Exit.inBlock id Q) (.exit id') N m E:=fun a w ha hw=>by
 have:id'≠id:=by rintro rfl;simp at hid
 simp only [Exit.inBlock,if_neg this];exact h a w ha hw
theorem u7 {K:Act→World→Prop} (h:∀ a w,Jr N m a→St E w→K a w):Fin (Xs K) .normal N m E:=h
def Fb {ι:Type} (N:Nat) (w0:World) (F0:Gs) (M:ι→Sl) (B:ι→List (Nat×Obj)) (H:ι→Gs→Prop) (μ:ι→Nat) (i:ι) (a:Act) (w:World):Prop :=
 ∃ j,μ j<μ i∧Jr N (M j) a∧St ⟨w0,F0,B j,H j⟩ w
theorem Xa {ι:Type} {w0:World} {F0:Gs} {bs:List (Nat×Obj)} {G:Gs→Prop} {c:Code} (M:ι→Sl) (B:ι→List (Nat×Obj)) (H:ι→Gs→Prop) (μ:ι→Nat) (i0:ι)
  (hm:Y2 m (M i0)) (hb:(B i0).Sublist bs) (hg:∀ F,G F→H i0 F)
  (round:∀ i,J P c (Exit.then (Fb N w0 F0 M B H μ i) Q) N (M i) ⟨w0,F0,B i,H i⟩):J P (.loop c) Q N m ⟨w0,F0,bs,G⟩:=by
 intro a w ha hw
 refine wp_loop_ghost (fun n a w=>∃ i,μ i=n∧Jr N (M i) a∧St ⟨w0,F0,B i,H i⟩ w) (μ i0) ⟨i0,rfl,ha.sub hm,hw.imp hb hg⟩ ?_
 rintro n a w ⟨i,rfl,ha,hw⟩
 refine wp_mono (round i a w ha hw) ?_
 intro e a' w' h
 cases e with
 |normal=>obtain ⟨j,h1,h2,h3⟩:=h;exact⟨μ j,h1,j,rfl,h2,h3⟩
 |_=>exact h
theorem Ql {ι:Type} {w0:World} {F0:Gs} {bs:List (Nat×Obj)} {G:Gs→Prop} {M:ι→Sl} {B:ι→List (Nat×Obj)} {H:ι→Gs→Prop} {μ:ι→Nat} {i:ι} (j:ι) (hμ:μ j<μ i)
  (hm:Y2 m (M j)) (hb:(B j).Sublist bs) (hg:∀ F,G F→H j F):Fin (Exit.then (Fb N w0 F0 M B H μ i) Q) .normal N m ⟨w0,F0,bs,G⟩ :=
 fun a w ha hw=>⟨j,hμ,ha.sub hm,hw.imp hb hg⟩
theorem uz {w0:World} {F0:Gs} {bs bs':List (Nat×Obj)} {G G':Gs→Prop} {m':Sl} {c:Code} (hm:Y2 m m') (hb:bs'.Sublist bs) (hg:∀ F,G F→G' F) (h:J P c Q N m' ⟨w0,F0,bs',G'⟩):J P c Q N m ⟨w0,F0,bs,G⟩ :=
 fun a w ha hw=>h a w (ha.sub hm) (hw.imp hb hg)
theorem QB {id:Nat} {l:List Oper} (h:JS P l.toArray Q l N m E):J P (.region id l.toArray false) Q N m E:=fun a w ha hw=>wp_region_lit (h a w ha hw)
variable {ops:Array Oper} {l:List Oper} {E0:Env}
theorem QE (h:Fin Q .normal N m E):JS P ops Q [] N m E:=h
theorem u3 {K:Act→World→Prop} (h:∀ a w,Jr N m a→St E w→K a w):JD P ops (Xs K) E0 [] N m E:=fun _=>h
def Qt (P:Program) (N:Nat) (m:Sl) (S:World→Prop) (o:Op) (ty:TypeId) (v:Value):Prop:=∀ a w d pos aft g,Jr N m a→S w→(execOp a.eval ⟨d,o,ty,pos,aft,g⟩).run P w = .ok (.value v) w
variable {d:Nat} {o:Op} {ty:TypeId} {pos:String} {aft:Array Edge} {v:Value}
theorem QA (h:Qt P N m (St E) o ty v) (k:JS P ops Q l N ((d,v)::m) E) (hd:J4 N (some d)=true:=by rfl):JS P ops Q (⟨some d,o,ty,pos,aft,none⟩::l) N m E:=by
 intro a w ha hw
 refine wpList_plain rfl fun K hK=>?_
 unfold Oper.wp
 rw [h a w _ _ _ _ ha hw]
 exact hK _ _ (k _ w (ha.put hd v) hw)
theorem QM (h:Qt P N m (St E0) o ty v) (k:JD P ops Q E0 l N ((d,v)::m) E) (hq:Ju o=true:=by rfl) (hd:J4 N (some d)=true:=by rfl):JD P ops Q E0 (⟨some d,o,ty,pos,aft,none⟩::l) N m E:=by
 intro hE a w ha hw
 exact .inl ⟨hq,v,.inl ⟨rfl,fun w' hw'=>h a w' _ _ _ _ ha hw'⟩,k hE _ w (ha.put hd v) hw⟩
theorem cY (h:Qt P N m (St E0) o ty v) (k:JD P ops Q E0 l N m E) (hq:Ju o=true:=by rfl):JD P ops Q E0 (⟨none,o,ty,pos,aft,none⟩::l) N m E:=by
 intro hE a w ha hw
 exact .inl ⟨hq,v,.inl ⟨rfl,fun w' hw'=>h a w' _ _ _ _ ha hw'⟩,k hE _ w ha hw⟩
theorem H8 {a:Act} (ha:Jr N m a) {g t:Nat} {b:Bool} (hg:(ops[g]?).bind (·.dst)=some t) (hb:look m t=some (.bool b)):yielded ops a.tmps g=some b:=by
 unfold yielded
 rw [hg]
 have:=ha.get t _ hb
 simp [this]
theorem gv {d:Option Tmp} {g t:Nat} {b want:Bool} (hg:(ops[g]?).bind (·.dst)=some t) (hb:look m t=some (.bool b)) (ht:b=want→JS P ops Q (⟨d,o,ty,pos,aft,none⟩::l) N m E) (hf:b=!want→JS P ops Q l N (dM m d undef) E)
  (hd:J4 N d=true:=by rfl):JS P ops Q (⟨d,o,ty,pos,aft,some (g,want)⟩::l) N m E:=by
 intro a w ha hw
 unfold wpList
 have hy:=H8 ha hg hb
 by_cases e:b=want
 ·have:=ht e a w ha hw
  unfold wpList at this
  rw [if_pos (by simp [Region.wanted])] at this
  rw [if_pos (by simp [Region.wanted,hy,e])]
  exact this
 ·rw [if_neg (by simp [Region.wanted,hy,e])]
  exact hf (by cases b<;>cases want<;>simp_all) _ w (ha.put hd undef) hw
theorem gz {d:Option Tmp} {g t:Nat} {b want:Bool} (hg:(ops[g]?).bind (·.dst)=some t) (hb:look m t=some (.bool b)) (ht:b=want→JD P ops Q E0 (⟨d,o,ty,pos,aft,none⟩::l) N m E) (hf:b=!want→JD P ops Q E0 l N (dM m d undef) E)
  (hd:J4 N d=true:=by rfl):JD P ops Q E0 (⟨d,o,ty,pos,aft,some (g,want)⟩::l) N m E:=by
 intro hE a w ha hw
 have hy:=H8 ha hg hb
 by_cases e:b=want
 ·rcases ht e hE a w ha hw with ⟨h1,v,h2,h3⟩ | ⟨h1,h2⟩
  ·refine .inl ⟨h1,v,?_,h3⟩
   rcases h2 with ⟨_,h2⟩ | ⟨h2,_⟩
   ·exact .inl ⟨by simp [Region.wanted,hy,e],h2⟩
   ·simp [Region.wanted] at h2
  ·refine .inr ⟨h1,?_⟩
   rw [if_pos (by simp [Region.wanted])] at h2
   rw [if_pos (by simp [Region.wanted,hy,e])]
   exact h2
 ·have hr:=hf (by cases b<;>cases want<;>simp_all) hE _ w (ha.put hd undef) hw
  cases hq:Ju o with
  |true=>exact .inl ⟨hq,undef,.inr ⟨by simp [Region.wanted,hy,e],rfl⟩,hr⟩
  |false =>
   refine .inr ⟨hq,?_⟩
   rw [if_neg (by simp [Region.wanted,hy,e])]
   exact⟨hE w hw,hr⟩
end
end
end
section
open Go.RowKit
section
variable [Dr] [df:Df]
def uk (d:TypeDesc):Bool:=match d with | .struct _ | .array _ _=>true | _=>false
def YA (P:Program) (T:TypeId):Option (Bool×Nat):=match P.underlying T,P.info? T with
 |some d,some i=>some (uk d,i.size)
 |_,_=>none
theorem RM {P:Program} {T:TypeId} {g:Bool} {n:Nat} (h:YA P T=some (g,n)) (w:World):(isAgg T).run P w = .ok g w:=by
 unfold YA at h
 split at h
 ·rename_i d i hd hi
  cases h
  unfold isAgg
  rw [Sem.run_bind,run_underlying hd w]
  cases d<;>rfl
 ·cases h
theorem Zo {P:Program} {T:TypeId} {g:Bool} {n:Nat} (h:YA P T=some (g,n)) (w:World):(sizeOf T).run P w = .ok n w:=by
 unfold YA at h
 split at h
 ·rename_i d i hd hi
  cases h
  simp [sizeOf,typeInfo,hi]
 ·cases h
def Wj (P:Program) (T:TypeId) (f:Nat):Option (Nat×TypeId):=match P.underlying T with
 |some (.struct fs)=>match fs[f]? with
  |some x=>some (x.offset,x.type)
  |none=>none
 |_=>none
inductive Nu:List Value→Nat→List Value→Prop
 |nil {l:List Value}:Nu l 0 []
 |here {x:Value} {l vs:List Value}:Nu l 0 vs→Nu (x::l) 0 (x::vs)
 |skip {x:Value} {l vs:List Value} {n:Nat}:Nu l n vs→Nu (x::l) (n+1) vs
theorem Nu.at {l vs:List Value} {n:Nat} (h:Nu l n vs):∀ (j:Nat) (v:Value),vs[j]?=some v→l[n+j]?=some v:=by
 induction h with
 |nil=>intro j v hv;simp at hv
 |here h ih =>
  intro j v hv
  cases j with
  |zero=>simpa using hv
  |succ j =>
   have:=ih j v (by simpa using hv)
   rw [show 0+(j+1)=(0+j)+1 by omega];simpa using this
 |skip h ih =>
  intro j v hv
  have:=ih j v hv
  rw [Nat.add_right_comm];simpa using this
inductive Ko:List Value→Nat→List Value→List Value→Prop
 |nil {l:List Value}:Ko l 0 [] l
 |here {x v:Value} {l vs l':List Value}:Ko l 0 vs l'→Ko (x::l) 0 (v::vs) (v::l')
 |skip {x:Value} {l vs l':List Value} {n:Nat}:Ko l n vs l'→Ko (x::l) (n+1) vs (x::l')
theorem Ko.length {l vs l':List Value} {n:Nat} (h:Ko l n vs l'):l'.length=l.length:=by
 induction h<;>simp_all
theorem Ko.le {l vs l':List Value} {n:Nat} (h:Ko l n vs l'):n+vs.length≤l.length:=by
 induction h<;>simp_all<;>omega
theorem Ko.eq {l vs l':List Value} {n:Nat} (h:Ko l n vs l'):l'=l.take n++vs++l.drop (n+vs.length):=by
 induction h with
 |nil=>simp
 |here h ih=>simp at ih ⊢;exact ih
 |skip h ih =>
  rw [Nat.add_right_comm]
  simpa using ih
inductive Own:List (Nat×Obj)→Nat→Obj→(Obj→List (Nat×Obj))→Prop
 |here {b:Nat} {o:Obj} {r:List (Nat×Obj)}:Own ((b,o)::r) b o (fun o'=>(b,o')::r)
 |there {x:Nat×Obj} {l:List (Nat×Obj)} {b:Nat} {o:Obj} {f:Obj→List (Nat×Obj)}:Own l b o f→Own (x::l) b o (fun o'=>x::f o')
theorem Own.split {l:List (Nat×Obj)} {b:Nat} {o:Obj} {f:Obj→List (Nat×Obj)} (h:Own l b o f):∃ pre post,l=pre++(b,o)::post∧∀ o',f o'=pre++(b,o')::post:=by
 induction h with
 |here=>exact⟨[],_,rfl,fun _=>rfl⟩
 |there h ih =>
  obtain ⟨pre,post,h1,h2⟩:=ih
  exact⟨_::pre,post,by rw [h1];rfl,fun o'=>by show _::_=_;rw [h2];rfl⟩
theorem Own.mem {l:List (Nat×Obj)} {b:Nat} {o:Obj} {f:Obj→List (Nat×Obj)} (h:Own l b o f):(b,o)∈l:=by
 obtain ⟨pre,post,h1,_⟩:=h.split;rw [h1];simp
inductive jb:List (Nat×Obj)→Nat→Obj→List (Nat×Obj)→Prop
 |here {b:Nat} {o:Obj} {r:List (Nat×Obj)}:jb ((b,o)::r) b o r
 |there {x:Nat×Obj} {l l':List (Nat×Obj)} {b:Nat} {o:Obj}:jb l b o l'→jb (x::l) b o (x::l')
theorem jb.split {l l':List (Nat×Obj)} {b:Nat} {o:Obj} (h:jb l b o l'):∃ pre post,l=pre++(b,o)::post∧l'=pre++post:=by
 induction h with
 |here=>exact⟨[],_,rfl,rfl⟩
 |there h ih =>
  obtain ⟨pre,post,h1,h2⟩:=ih
  exact⟨_::pre,post,by rw [h1];rfl,by rw [h2];rfl⟩
section
variable {P:Program} {Q:Exit→Act→World→Prop} {N:Nat} {m:Sl} {E E0:Env} {ops:Array Oper} {l:List Oper} {w0:World} {F0:Gs} {bs:List (Nat×Obj)} {G:Gs→Prop}
theorem St.own {w:World} (h:St ⟨w0,F0,bs,G⟩ w) {b:Nat} {o:Obj} {f:Obj→List (Nat×Obj)} (ho:Own bs b o f):w.heap[b]?=some o:=by
 obtain ⟨F,h⟩:=h;exact(h.bx (b,o) ho.mem).1
section
variable {ty:TypeId} {v:Value} {S:World→Prop}
theorem QD {x:Operand} (h:ev m x=some v):Qt P N m S (.move x) ty v:=fun a w _ _ _ _ ha _=>by
 show(Result.ok (Next.value (a.eval x)) w)=_;rw [ha.ev h]
theorem QF {x:Operand} (h:ev m x=some v):Qt P N m S (.assign x) ty v:=fun a w _ _ _ _ ha _=>by
 show(Result.ok (Next.value (a.eval x)) w)=_;rw [ha.ev h]
theorem L3 {c x y:Operand} {b:Bool} {u:Value} (hc:ev m c=some (.bool b)) (hx:ev m x=some v) (hy:ev m y=some u):Qt P N m S (.pick c x y) ty (if b then v else u):=fun a w _ _ _ _ ha _=>by
 simp only [execOp,ha.ev hc,ha.ev hx,ha.ev hy,asBool,pure_bind,Sem.run_pure]
theorem QK {x:Operand} {vs:Array Value} {i:Nat} (h:ev m x=some (.tuple vs)) (hi:vs[i]?=some v):Qt P N m S (.extract x i) ty v:=fun a w _ _ _ _ ha _=>by
 simp [execOp,ha.ev h,Instr.extract,hi]
theorem VI {x:Operand} {p:Addr} (h:ev m x=some (.pointer (some p))):Qt P N m S (.nilCheck x) ty (.pointer (some p)):=fun a w _ _ _ _ ha _=>by
 simp [execOp,ha.ev h]
theorem QI {T:TypeId} {x:Operand} {f:Nat} {b off fo n:Nat} {ft:TypeId} {g:Bool} (h:ev m x=some (.pointer (some ⟨b,off,none⟩))) (hf:Wj P T f=some (fo,ft)) (hs:YA P ft=some (g,n+1)) :
  Qt P N m S (.fieldAddr T x f) ty (.pointer (some ⟨b,off+fo,none⟩)):=fun a w _ _ _ _ ha _=>by
 unfold Wj at hf
 split at hf
 ·rename_i fs hu
  split at hf
  ·rename_i fx hx
   simp only [Option.some.injEq,Prod.mk.injEq] at hf
   obtain ⟨rfl,rfl⟩:=hf
   have hadd:(⟨b,off,none⟩:Addr).add fx.offset=⟨b,off+fx.offset,none⟩:=by unfold Addr.add;split<;>simp_all
   simp [execOp,ha.ev h,Instr.fieldAt,run_underlying hu,hx,Instr.sureAddr,fieldPlace,Zo hs,hadd]
  ·cases hf
 ·cases hf
theorem ZZ {T:TypeId} {n:Nat} (ht:YA P T=some (false,n)) {w:World} {a:Addr} {v:Value} (h:w.cell? a=some v):(loadVar T a).run P w = .ok v w:=by
 simp [loadVar,RM ht,h]
theorem Kq {T:TypeId} {vs:List Value} {n:Nat} (ht:YA P T=some (true,n)) (hn:vs.length=n) {w:World} {b off:Nat} (h:∀ j v,vs[j]?=some v→w.cell? ⟨b,off+j,none⟩=some v):(loadVar T ⟨b,off,none⟩).run P w = .ok (.agg vs.toArray) w:=by
 have hl:=run_loadCells_list (P:=P) w ⟨b,off,none⟩ vs (fun j v hv=>by
  have hadd:(⟨b,off,none⟩:Addr).add j=⟨b,off+j,none⟩:=by unfold Addr.add;split<;>simp_all
  rw [hadd];exact h j v hv)
 subst hn
 simp [loadVar,RM ht,Zo ht,hl]
theorem Xu {w:World} {b o:Nat} {c:List Value} {T:TypeId} {fr:Nat×Nat} (h:w.heap[b]?=some (.cells c.toArray T fr)):w.cell? ⟨b,o,none⟩=c[o]?:=by
 simp [World.cell?,h]
theorem Qo {T T':TypeId} {x:Operand} {b off n:Nat} {c:List Value} {fr:Nat×Nat} {f:Obj→List (Nat×Obj)} (h:ev m x=some (.pointer (some ⟨b,off,none⟩))) (ht:YA P T=some (false,n)) (ho:Own bs b (.cells c.toArray T' fr) f) (hg:Nu c off [v]) :
  Qt P N m (St ⟨w0,F0,bs,G⟩) (.load T x) ty v:=fun a w _ _ _ _ ha hw=>by
 have hc:w.cell? ⟨b,off,none⟩=some v:=by rw [Xu (hw.own ho)];exact hg.at 0 v rfl
 simp [execOp,ha.ev h,Instr.loadAt,Instr.sureAddr,ZZ ht hc]
theorem QL {T T':TypeId} {x:Operand} {b off n:Nat} {c vs:List Value} {fr:Nat×Nat} {f:Obj→List (Nat×Obj)} (h:ev m x=some (.pointer (some ⟨b,off,none⟩))) (ht:YA P T=some (true,n)) (ho:Own bs b (.cells c.toArray T' fr) f) (hg:Nu c off vs) (hn:vs.length=n) :
  Qt P N m (St ⟨w0,F0,bs,G⟩) (.load T x) ty (.agg vs.toArray):=fun a w _ _ _ _ ha hw=>by
 have:=Kq ht hn (w:=w) (b:=b) (off:=off) (fun j v hv=>by rw [Xu (hw.own ho)];exact hg.at j v hv)
 simp [execOp,ha.ev h,Instr.loadAt,Instr.sureAddr,this]
theorem cell_of_row {w:World} (h:St ⟨w0,F0,bs,G⟩ w) {b o:Nat} {c:Array Value} {T:TypeId} {v:Value} (hr:∀ F,G F→F b=some (c,T)) (hv:c[o]?=some v):w.cell? ⟨b,o,none⟩=some v:=by
 obtain ⟨F,h⟩:=h
 obtain ⟨fr,e⟩:=h.fits.row b c T (hr F h.hG)
 simp [World.cell?,e,hv]
theorem Mz {T T':TypeId} {x:Operand} {b off n:Nat} {c:Array Value} (h:ev m x=some (.pointer (some ⟨b,off,none⟩))) (ht:YA P T=some (false,n)) (hr:∀ F,G F→F b=some (c,T')) (hv:c[off]?=some v) :
  Qt P N m (St ⟨w0,F0,bs,G⟩) (.load T x) ty v:=fun a w _ _ _ _ ha hw=>by
 simp [execOp,ha.ev h,Instr.loadAt,Instr.sureAddr,ZZ ht (cell_of_row hw hr hv)]
theorem vW {T T':TypeId} {x:Operand} {b off n:Nat} {c:Array Value} {vs:List Value} (h:ev m x=some (.pointer (some ⟨b,off,none⟩))) (ht:YA P T=some (true,n)) (hr:∀ F,G F→F b=some (c,T')) (hn:vs.length=n) (hv:∀ j v,vs[j]?=some v→c[off+j]?=some v) :
  Qt P N m (St ⟨w0,F0,bs,G⟩) (.load T x) ty (.agg vs.toArray):=fun a w _ _ _ _ ha hw=>by
 have:=Kq ht hn (w:=w) (b:=b) (off:=off) (fun j v h=>cell_of_row hw hr (hv j v h))
 simp [execOp,ha.ev h,Instr.loadAt,Instr.sureAddr,this]
theorem cQ {o:Op} (ρ:Operand→Value) (hs:∀ cs b,o≠.select cs b) (hρ:∀ x∈o.operands,ev m x=some (ρ x)) (h:∀ w d pos aft g,(execOp ρ ⟨d,o,ty,pos,aft,g⟩).run P w = .ok (.value v) w):Qt P N m S o ty v:=fun a w d pos aft g ha _=>by
 rw [execOp_congr (ρ:=a.eval) (ρ':=ρ) ⟨d,o,ty,pos,aft,g⟩ hs (fun x hx=>ha.ev (hρ x hx))]
 exact h w d pos aft g
end
def Enters (P:Program) (f:FuncId):Prop:=∀ (args:Array Value) (w:World),(callFunc f args).run P w = .ok (.enter f args) w
theorem enters_of {f:FuncId} {fn:Func} (h:P.funcs[f]?=some fn) (hn:(fn.name == "runtime.NumGoroutine")=false) (hb:fn.body.isNone=false):Enters P f:=fun args w=>by
 have hb':fn.body≠none:=by intro e;rw [e] at hb;cases hb
 simp [callFunc,h,hb',beq_eq_false_iff_ne.1 hn]
def DC (w:World) (F:Gs) {γ:Type} (val:γ→Value) (fact:γ→Gs→Prop) (e:Ending) (w':World):Prop :=
 ∃ c F',e = .returned (val c)∧PI w w'∧Gs.le F F'∧(∀ b,b<w.heap.size→F' b=F b)∧Fits F' w'∧∀ F'',Gs.le F' F''→fact c F''
def QT (P:Program) (f:FuncId) (args:List Value) (w:World) (F:Gs) {γ:Type} (val:γ→Value) (fact:γ→Gs→Prop):Prop :=
 Enters P f∧Calls P f args.toArray w (DC w F val fact)
theorem QT.imp {f:FuncId} {args:List Value} {w:World} {F:Gs} {γ γ':Type} {val:γ→Value} {fact:γ→Gs→Prop} {val':γ'→Value} {fact':γ'→Gs→Prop} (h:QT P f args w F val fact)
  (k:∀ c F',fact c F'→∃ c',val c=val' c'∧∀ F'',Gs.le F' F''→fact' c' F''):QT P f args w F val' fact':=by
 refine⟨h.1,h.2.mono ?_⟩
 rintro e w' ⟨c,F',rfl,h1,h2,h3,h4,h5⟩
 obtain ⟨c',e,k'⟩:=k c F' (h5 F' (Gs.le_refl _))
 exact⟨c',F',by rw [e],h1,h2,h3,h4,k'⟩
theorem LD.call {w w':World} {F F':Gs} (h:LD ⟨w0,F0,bs,G⟩ w F) {f:Gs→Prop} (h1:PI w w') (h2:Gs.le F F') (h3:∀ b,b<w.heap.size→F' b=F b) (h4:Fits F' w') (h5:∀ F'',Gs.le F' F''→f F''):LD ⟨w0,F0,bs,fun F=>G F∧f F⟩ w' F':=by
 refine⟨Gs.le_trans h.le h2,fun b hb=>?_,h4,h.ext.trans h1,fun k hk=>?_,h.nd,fun F'' hF=>⟨h.g F'' (Gs.le_trans h2 hF),h5 F'' hF⟩⟩
 ·rw [h3 b (Nat.lt_of_lt_of_le hb h.ext.size)];exact h.old b hb
 ·obtain ⟨g1,g2,g3⟩:=h.bx k hk
  have hlt:k.1<w.heap.size:=by
   rcases Nat.lt_or_ge k.1 w.heap.size with g | g
   ·exact g
   ·rw [Array.getElem?_eq_none g] at g1;cases g1
  exact⟨by rw [h1.block _ hlt];exact g1,g2,by rw [h3 _ hlt];exact g3⟩
theorem WA {a:Act} {w:World} {d:Option Tmp} {x:Operand} {args:Array Operand} {tys:Array TypeId} {ty:TypeId} {pos:String} {aft:Array Edge} {gd:Option (Nat×Bool)} {f:FuncId} {c1 c2:Array Value} (he:Enters P f) (hx:a.eval x = .func (.func f) c1 c2) :
  (execOp a.eval ⟨d,.call ⟨.value x,args,tys⟩,ty,pos,aft,gd⟩).run P w = .ok (.enter f (c1++args.map a.eval++c2)) w:=by
 simp only [execOp,resolve,hx,Deferred.ofValue,Sem.run_bind,Sem.run_pure,Result.andThen_ok,invoke]
 exact he _ w
section
variable {d:Nat} {ty:TypeId} {pos:String} {aft:Array Edge} {f:FuncId} {args:Array Operand} {tys:Array TypeId} {vs:List Value} {γ:Type} {val:γ→Value} {fact:γ→Gs→Prop}
theorem GN {x:Operand} {c1 c2:List Value} (hx:ev m x=some (.func (.func f) c1.toArray c2.toArray)) (hv:Ec m args.toList=some vs) (hc:∀ w F,Fits F w→G F→QT P f (c1++vs++c2) w F val fact)
  (k:∀ c,JS P ops Q l N ((d,val c)::m) ⟨w0,F0,bs,fun F=>G F∧fact c F⟩) (hd:J4 N (some d)=true:=by rfl):JS P ops Q (⟨some d,.call ⟨.value x,args,tys⟩,ty,pos,aft,none⟩::l) N m ⟨w0,F0,bs,G⟩:=by
 intro a w ha hw
 obtain ⟨F,hF⟩:=hw
 have hcg:=hc w F hF.fits hF.hG
 refine wpList_plain rfl fun K hK=>?_
 unfold Oper.wp
 rw [WA hcg.1 (ha.ev hx)]
 have e:c1.toArray++args.map a.eval++c2.toArray=(c1++vs++c2).toArray:=by
  have:=ha.Ec hv
  have e2:args.map a.eval=vs.toArray:=by rw [← this];apply Array.ext' ;simp
  rw [e2];apply Array.ext';simp
 simp only [Oper.upon]
 rw [e]
 refine hcg.2.mono ?_
 rintro e w' ⟨c,F',rfl,h1,h2,h3,h4,h5⟩
 exact hK _ _ (k c _ w' (ha.put hd (val c)) ⟨F',hF.call h1 h2 h3 h4 h5⟩)
theorem QH (hv:Ec m args.toList=some vs) (hc:∀ w F,Fits F w→G F→QT P f vs w F val fact)
  (k:∀ c,JS P ops Q l N ((d,val c)::m) ⟨w0,F0,bs,fun F=>G F∧fact c F⟩) (hd:J4 N (some d)=true:=by rfl):JS P ops Q (⟨some d,.call ⟨.value (.func f),args,tys⟩,ty,pos,aft,none⟩::l) N m ⟨w0,F0,bs,G⟩ :=
 GN (x:=.func f) (c1:=[]) (c2:=[]) rfl hv (by simpa using hc) k hd
theorem UI {x:Operand} {c1 c2:List Value} (hx:ev m x=some (.func (.func f) c1.toArray c2.toArray)) (hv:Ec m args.toList=some vs) (hc:∀ w F,Fits F w→G F→QT P f (c1++vs++c2) w F val fact)
  (k:∀ c,JD P ops Q E0 l N ((d,val c)::m) ⟨w0,F0,bs,fun F=>G F∧fact c F⟩) (hd:J4 N (some d)=true:=by rfl):JD P ops Q E0 (⟨some d,.call ⟨.value x,args,tys⟩,ty,pos,aft,none⟩::l) N m ⟨w0,F0,bs,G⟩:=by
 intro hE a w ha hw
 obtain ⟨F,hF⟩:=hw
 have hcg:=hc w F hF.fits hF.hG
 refine .inr ⟨rfl,?_⟩
 rw [if_pos (by simp [Region.wanted])]
 unfold Oper.wp
 rw [WA hcg.1 (ha.ev hx)]
 have e:c1.toArray++args.map a.eval++c2.toArray=(c1++vs++c2).toArray:=by
  have:=ha.Ec hv
  have e2:args.map a.eval=vs.toArray:=by rw [← this];apply Array.ext' ;simp
  rw [e2];apply Array.ext';simp
 simp only [Oper.upon]
 rw [e]
 refine hcg.2.mono ?_
 rintro e w' ⟨c,F',rfl,h1,h2,h3,h4,h5⟩
 have hS:St ⟨w0,F0,bs,fun F=>G F∧fact c F⟩ w':=⟨F',hF.call h1 h2 h3 h4 h5⟩
 exact⟨hE w' (hS.Bb fun _ h=>h.1),k c (fun w h=>hE w (h.Bb fun _ h=>h.1)) _ w' (ha.put hd (val c)) hS⟩
theorem Qg (hv:Ec m args.toList=some vs) (hc:∀ w F,Fits F w→G F→QT P f vs w F val fact)
  (k:∀ c,JD P ops Q E0 l N ((d,val c)::m) ⟨w0,F0,bs,fun F=>G F∧fact c F⟩) (hd:J4 N (some d)=true:=by rfl):JD P ops Q E0 (⟨some d,.call ⟨.value (.func f),args,tys⟩,ty,pos,aft,none⟩::l) N m ⟨w0,F0,bs,G⟩ :=
 UI (x:=.func f) (c1:=[]) (c2:=[]) rfl hv (by simpa using hc) k hd
end
end
end
end
section
section
variable [Dr] [df:Df] {P:Program} {Q:Exit→Act→World→Prop} {ops:Array Oper} {l:List Oper} {N:Nat} {m:Sl} {E:Env} {d:Nat} {v:Value} {ty:TypeId} {pos:String} {aft:Array Edge}
theorem JS_mv {x:Operand} (h:ev m x=some v) (k:JS P ops Q l N ((d,v)::m) E) (hd:J4 N (some d)=true:=by rfl):JS P ops Q (⟨some d,.move x,ty,pos,aft,none⟩::l) N m E:=QA (QD h) k hd
theorem JS_as {x:Operand} (h:ev m x=some v) (k:JS P ops Q l N ((d,v)::m) E) (hd:J4 N (some d)=true:=by rfl):JS P ops Q (⟨some d,.assign x,ty,pos,aft,none⟩::l) N m E:=QA (QF h) k hd
theorem JS_nt {y:Code} (h:J P y Q N m E):JS P ops (Exit.then (y.wp P Q) Q) [] N m E:=QE (QC h)
theorem J_sr {y:Code} {id:Nat} (h:JS P l.toArray (Exit.then (y.wp P Q) Q) l N m E):J P (.seq (.region id l.toArray false) y) Q N m E:=QG (QB h)
end
theorem subl_r {α:Type} {l:List α}:List.Sublist l l:=List.Sublist.refl l
theorem dec_t {p:Prop} [Decidable p] (h:decide p=true):p:=of_decide_eq_true h
theorem dec_f {p:Prop} [Decidable p] (h:decide p=false):¬ p:=of_decide_eq_false h
end
section
open Go.RowKit
section
variable [Dr] [df:Df]
section
variable {P:Program} {Q:Exit→Act→World→Prop} {N:Nat} {m:Sl} {E E0:Env} {ops:Array Oper} {l:List Oper} {w0:World} {F0:Gs} {bs:List (Nat×Obj)} {G:Gs→Prop}
theorem St.pure {w:World} {p:Prop} (h:St ⟨w0,F0,bs,G⟩ w) (hp:∀ w F,Fits F w→G F→p):p:=by
 obtain ⟨F,h⟩:=h;exact hp w F h.fits h.hG
theorem X3 {c:Code} (p:Prop) (hp:∀ w F,Fits F w→G F→p) (k:p→J P c Q N m ⟨w0,F0,bs,G⟩):J P c Q N m ⟨w0,F0,bs,G⟩:=fun a w ha hw=>k (hw.pure hp) a w ha hw
theorem JH (p:Prop) (hp:∀ w F,Fits F w→G F→p) (k:p→JS P ops Q l N m ⟨w0,F0,bs,G⟩):JS P ops Q l N m ⟨w0,F0,bs,G⟩:=fun a w ha hw=>k (hw.pure hp) a w ha hw
theorem MS (p:Prop) (hp:∀ w F,Fits F w→G F→p) (k:p→JD P ops Q E0 l N m ⟨w0,F0,bs,G⟩):JD P ops Q E0 l N m ⟨w0,F0,bs,G⟩:=fun hE a w ha hw=>k (hw.pure hp) hE a w ha hw
theorem QAO {G':Gs→Prop} (hg:∀ F,G F→G' F) (k:JS P ops Q l N m ⟨w0,F0,bs,G'⟩):JS P ops Q l N m ⟨w0,F0,bs,G⟩:=fun a w ha hw=>k a w ha (hw.Bb hg)
def XI (P:Program) (T:TypeId):Option (List Value):=match P.info? T with
 |some i=>i.zero.map fun v=>v.cells.toList
 |none=>none
theorem S3 {T:TypeId} {z:List Value} (h:XI P T=some z) (w:World):∃ v,(zeroValue T).run P w = .ok v w∧v.cells=z.toArray:=by
 unfold XI at h
 split at h
 ·rename_i i hi
  cases hz:i.zero with
  |none=>rw [hz] at h;cases h
  |some v =>
   rw [hz] at h
   simp only [Option.map_some,Option.some.injEq] at h
   exact⟨v,by simp [zeroValue,typeInfo,hi,hz],by rw [← h]⟩
 ·cases h
def WJ (T:TypeId):Bool:=!(Nat.beq T 248)
theorem Xj {T:TypeId} (h:WJ T=true) {c:Array Value} {fr:Nat×Nat}:∀ c' fr',Obj.cells c T fr≠.cells c' 248 fr':=by
 intro c' fr' e
 injection e with _ h2 _
 subst h2;simp [WJ] at h
section
variable {d:Nat} {ty:TypeId} {pos:String} {aft:Array Edge}
theorem upon_value {o:Oper} {a:Act} {w w':World} {K:Act→World→Prop} {v:Value} (h:(execOp a.eval o).run P w = .ok (.value v) w') (k:K (a.put o.dst v) w'):o.wp P a w K Q:=by
 unfold Oper.wp;rw [h];exact k
theorem upon_skip {o:Oper} {a:Act} {w w':World} {K:Act→World→Prop} (h:(execOp a.eval o).run P w = .ok .skip w') (k:K (a.put o.dst undef) w'):o.wp P a w K Q:=by
 unfold Oper.wp;rw [h];exact k
theorem Dz {a:Act} {w:World} {T:TypeId} {z:List Value} {g:Option (Nat×Bool)} (hz:XI P T=some z) :
  (execOp a.eval ⟨some d,.alloc T,ty,pos,aft,g⟩).run P w = .ok (.value (.pointer (some ⟨w.heap.size,0,none⟩))) (w.alloc (.cells z.toArray T)):=by
 obtain ⟨v,h1,h2⟩:=S3 hz w
 simp only [execOp,Instr.alloc,Sem.run_bind,h1,Result.andThen_ok,Sem.run_pure,newVar,newRow,run_newObj,h2]
 rfl
theorem Qf {T:TypeId} {z:List Value} (hz:XI P T=some z) (k:∀ b,JS P ops Q l N ((d,.pointer (some ⟨b,0,none⟩))::m) ⟨w0,F0,(b,.cells z.toArray T (0,0))::bs,G⟩) (hu:WJ T=true:=by rfl) (hd:J4 N (some d)=true:=by rfl) :
  JS P ops Q (⟨some d,.alloc T,ty,pos,aft,none⟩::l) N m ⟨w0,F0,bs,G⟩:=fun a w ha hw =>
 wpList_plain rfl fun _ hK=>upon_value (Dz hz) (hK _ _ (k _ _ _ (ha.put hd _) (hw.alloc _ (Xj hu))))
theorem GQ {T:TypeId} {z:List Value} (hz:XI P T=some z) (k:∀ b,JD P ops Q E0 l N ((d,.pointer (some ⟨b,0,none⟩))::m) ⟨w0,F0,(b,.cells z.toArray T (0,0))::bs,G⟩) (hu:WJ T=true:=by rfl) (hd:J4 N (some d)=true:=by rfl) :
  JD P ops Q E0 (⟨some d,.alloc T,ty,pos,aft,none⟩::l) N m ⟨w0,F0,bs,G⟩:=fun hE a w ha hw=>by
 have hS:=hw.alloc (.cells z.toArray T (0,0)) (Xj hu)
 have sub:∀ w' b,St ⟨w0,F0,(b,.cells z.toArray T (0,0))::bs,G⟩ w'→St E0 w':=fun w' b h=>hE w' (h.imp (List.sublist_cons_self _ _) fun _ h=>h)
 refine .inr ⟨rfl,?_⟩
 rw [if_pos (by simp [Region.wanted])]
 exact upon_value (Dz hz) ⟨sub _ _ hS,k _ (fun w' h=>sub w' _ h) _ _ (ha.put hd _) hS⟩
theorem PY {a:Act} {w:World} {T:TypeId} {x:Operand} {v:Value} {g:Option (Nat×Bool)} (hx:a.eval x=v) :
  (execOp a.eval ⟨some d,.box T x,ty,pos,aft,g⟩).run P w = .ok (.value (.pointer (some ⟨w.heap.size,0,none⟩))) (w.alloc (.cells v.cells T)):=by
 subst hx
 simp only [execOp,Instr.box,Sem.run_bind,Result.andThen_ok,Sem.run_pure,newVar,newRow,run_newObj]
 rfl
theorem Q5 {T:TypeId} {x:Operand} {vs:List Value} {v:Value} (hx:ev m x=some v) (hv:v.cells=vs.toArray) (k:∀ b,JS P ops Q l N ((d,.pointer (some ⟨b,0,none⟩))::m) ⟨w0,F0,(b,.cells vs.toArray T (0,0))::bs,G⟩) (hu:WJ T=true:=by rfl) (hd:J4 N (some d)=true:=by rfl) :
  JS P ops Q (⟨some d,.box T x,ty,pos,aft,none⟩::l) N m ⟨w0,F0,bs,G⟩:=fun a w ha hw =>
 wpList_plain rfl fun _ hK=>upon_value (PY (ha.ev hx)) (hK _ _ (k _ _ _ (ha.put hd _) (hv ▸ hw.alloc _ (Xj hu))))
theorem u4 {T:TypeId} {x:Operand} {vs:List Value} {v:Value} (hx:ev m x=some v) (hv:v.cells=vs.toArray) (k:∀ b,JD P ops Q E0 l N ((d,.pointer (some ⟨b,0,none⟩))::m) ⟨w0,F0,(b,.cells vs.toArray T (0,0))::bs,G⟩) (hu:WJ T=true:=by rfl) (hd:J4 N (some d)=true:=by rfl) :
  JD P ops Q E0 (⟨some d,.box T x,ty,pos,aft,none⟩::l) N m ⟨w0,F0,bs,G⟩:=fun hE a w ha hw=>by
 have hS:=hw.alloc (.cells vs.toArray T (0,0)) (Xj hu)
 have sub:∀ w' b,St ⟨w0,F0,(b,.cells vs.toArray T (0,0))::bs,G⟩ w'→St E0 w':=fun w' b h=>hE w' (h.imp (List.sublist_cons_self _ _) fun _ h=>h)
 refine .inr ⟨rfl,?_⟩
 rw [if_pos (by simp [Region.wanted])]
 exact upon_value (PY (ha.ev hx)) (by rw [hv];exact⟨sub _ _ hS,k _ (fun w' h=>sub w' _ h) _ _ (ha.put hd _) hS⟩)
theorem Mu {w:World} {t e:TypeId} {n sz:Nat} {z:List Value} {g:Bool} {parts:Array (Nat×Value)} {cs:Array Value} (ht:P.underlying t=some (.slice e)) (hs:YA P e=some (g,sz)) (hz:XI P e=some z) (h24:n*sz≤2^24) (hn:n*sz≠0)
  (hf:Instr.fill (fun i=>some (i*sz,sz)) ((Array.range (n*sz)).map (fun i=>z.toArray[i%z.toArray.size]!)) parts.toList=some cs) :
  (Instr.buildSlice t n parts).run P w = .ok (.slice (some ⟨w.heap.size,0,none⟩) n n) (w.alloc (.cells cs e)):=by
 obtain ⟨v,h1,h2⟩:=S3 hz w
 have h3:¬ n*sz>2^24:=by omega
 simp only [Instr.buildSlice,Sem.run_bind,run_underlying ht,Result.andThen_ok,Zo hs,if_neg h3,Sem.run_pure,if_neg hn,h1,h2,hf,newRow,run_newObj]
 rfl
def Vp (m:Sl):List (Nat×Operand)→Option (List (Nat×Value))
 |[]=>some []
 |(i,x)::r=>match ev m x,Vp m r with
  |some v,some l=>some ((i,v)::l)
  |_,_=>none
theorem Jr.parts {a:Act} (h:Jr N m a):∀ {l:List (Nat×Operand)} {vs:List (Nat×Value)},Vp m l=some vs→l.map (fun(i,x)=>(i,a.eval x))=vs
 |[],vs,e=>by simpa [Vp] using e
 |(i,x)::l,vs,e=>by
  unfold Vp at e
  cases hx:YtknegjaeoffnbaaGreatDoor.ev m x with
  |none=>rw [hx] at e;simp at e
  |some v =>
   cases hl:Vp m l with
   |none=>rw [hx,hl] at e;simp at e
   |some r =>
    rw [hx,hl] at e
    simp only [Option.some.injEq] at e
    subst e
    rw [List.map_cons,h.parts hl]
    show(i,a.eval x)::r=_
    rw [h.ev hx]
def Yo (sz:Nat):Nat→List (Nat×Value)→Option (List Value)
 |_,[]=>some []
 |k,(i,v)::r=>if i=k∧v.cells.size=sz then(Yo sz (k+1) r).map (v.cells.toList++·) else none
theorem G9 {sz:Nat}:∀ (parts:List (Nat×Value)) (k:Nat) (cs:List Value) (cur:Array Value),Yo sz k parts=some cs→k*sz+cs.length=cur.size →
  Instr.fill (fun i=>some (i*sz,sz)) cur parts=some (cur.toList.take (k*sz)++cs).toArray
 |[],k,cs,cur,h,hl=>by
  simp only [Yo,Option.some.injEq] at h
  subst h
  simp only [List.length_nil,Nat.add_zero] at hl
  simp [Instr.fill,List.take_of_length_le,hl]
 |(i,v)::r,k,cs,cur,h,hl=>by
  simp only [Yo] at h
  split at h
  ·rename_i hk
   obtain ⟨rfl,hv⟩:=hk
   cases hr:Yo sz (i+1) r with
   |none=>rw [hr] at h;cases h
   |some cs' =>
    rw [hr] at h
    simp only [Option.map_some,Option.some.injEq] at h
    subst h
    have hlen:v.cells.toList.length=sz:=by simpa using hv
    rw [List.length_append,hlen] at hl
    have hmul:(i+1)*sz=i*sz+sz:=by rw [Nat.add_mul,Nat.one_mul]
    unfold Instr.fill
    simp only [hv,ne_eq,not_true_eq_false,Bool.false_or,decide_false,decide_eq_true_eq]
    rw [if_neg (by omega)]
    have hfold:∀ (l:List Value) (j:Nat) (c:Array Value),i*sz+j+l.length≤c.size →
      ((l.zipIdx j).foldl (fun cs (x:Value×Nat)=>cs.setIfInBounds (i*sz+x.2) x.1) c)=(c.toList.take (i*sz+j)++l++c.toList.drop (i*sz+j+l.length)).toArray:=by
     intro l
     induction l with
     |nil=>intro j c hc;simp
     |cons x l ih =>
      intro j c hc
      simp only [List.zipIdx_cons,List.foldl_cons,List.length_cons] at hc ⊢
      rw [ih (j+1) _ (by simp;omega)]
      congr 1
      apply List.ext_getElem?
      intro q
      simp only [Array.toList_setIfInBounds,List.getElem?_append,List.length_append,List.length_take,List.length_set,Array.length_toList,List.length_cons]
      by_cases h1:q<i*sz+j
      ·have e1:min (i*sz+(j+1)) c.size=i*sz+j+1:=by omega
       have e2:min (i*sz+j) c.size=i*sz+j:=by omega
       have e3:q<i*sz+j+1+l.length:=by omega
       have e4:q<i*sz+j+(l.length+1):=by omega
       have e5:q<i*sz+j+1:=by omega
       simp only [e1,e2,h1,e3,e4,e5,if_true]
       simp [show q<i*sz+(j+1) by omega,h1,show i*sz+j≠q by omega]
      ·by_cases h2:q=i*sz+j
       ·subst h2
        have e1:min (i*sz+(j+1)) c.size=i*sz+j+1:=by omega
        have e2:min (i*sz+j) c.size=i*sz+j:=by omega
        have hlt:i*sz+j<c.toList.length:=by simp;omega
        simp only [e1,e2,Nat.lt_irrefl,if_false,Nat.sub_self]
        simp [show i*sz+j<i*sz+j+1+l.length by omega,show i*sz+j<i*sz+j+1 by omega,show i*sz+j<c.size by omega]
       ·have e1:min (i*sz+(j+1)) c.size=i*sz+j+1:=by omega
        have e2:min (i*sz+j) c.size=i*sz+j:=by omega
        have g1:¬ q<i*sz+j+1:=by omega
        simp only [e1,e2,h1,g1,if_false]
        by_cases h3:q<i*sz+j+1+l.length
        ·simp only [h3,if_true,show q<i*sz+j+(l.length+1) by omega]
         rw [show q - (i*sz+j)=(q - (i*sz+j+1))+1 by omega,List.getElem?_cons_succ]
        ·simp only [h3,if_false,show ¬ q<i*sz+j+(l.length+1) by omega]
         rw [List.getElem?_drop,List.getElem?_drop,List.getElem?_set_ne (by omega)]
         congr 1;omega
    have e:=hfold v.cells.toList 0 cur (by rw [hlen];omega)
    have e0:v.cells.zipIdx.foldl (fun cs (x:Value×Nat)=>cs.setIfInBounds (i*sz+x.2) x.1) cur=(v.cells.toList.zipIdx 0).foldl (fun cs (x:Value×Nat)=>cs.setIfInBounds (i*sz+x.2) x.1) cur:=by
     rw [← Array.foldl_toList];simp
    rw [e0,e]
    have:=G9 r (i+1) cs' (cur.toList.take (i*sz+0)++v.cells.toList++cur.toList.drop (i*sz+0+v.cells.toList.length)).toArray hr (by simp [hv];omega)
    rw [this]
    congr 2
    rw [← List.append_assoc]
    congr 1
    have hl2:(cur.toList.take (i*sz)++v.cells.toList).length=(i+1)*sz:=by simp [hv];omega
    simp only [Nat.add_zero]
    rw [List.take_append_of_le_length (by rw [hl2];exact Nat.le_refl _),← hl2,List.take_length]
  ·cases h
theorem Y5 {a:Act} {w:World} {t e:TypeId} {n sz:Nat} {z:List Value} {g:Bool} {parts:Array (Nat×Operand)} {ps:List (Nat×Value)} {cs:List Value} {gd:Option (Nat×Bool)} (ha:Jr N m a) (hp:Vp m parts.toList=some ps) (ht:P.underlying t=some (.slice e)) (hs:YA P e=some (g,sz)) (hz:XI P e=some z)
  (hc:Yo sz 0 ps=some cs) (hl:cs.length=n*sz) (h24:Nat.ble (n*sz) 16777216=true) (hn:Nat.beq (n*sz) 0=false) :
  (execOp a.eval ⟨some d,.buildSlice t n parts,ty,pos,aft,gd⟩).run P w = .ok (.value (.slice (some ⟨w.heap.size,0,none⟩) n n)) (w.alloc (.cells cs.toArray e)):=by
 have e1:(parts.map fun(i,x)=>(i,a.eval x)).toList=ps:=by simpa using ha.parts hp
 have hf:=G9 ps 0 cs ((Array.range (n*sz)).map (fun i=>z.toArray[i%z.toArray.size]!)) hc (by simp [hl])
 have:=Mu (P:=P) (w:=w) (n:=n) (parts:=parts.map fun(i,x)=>(i,a.eval x)) ht hs hz (by have:=Nat.le_of_ble_eq_true h24;omega) (fun e=>by rw [e] at hn;cases hn) (by rw [e1];exact hf)
 simp only [Nat.zero_mul,List.take_zero,List.nil_append] at this
 simp only [execOp,Sem.run_bind,this,Result.andThen_ok,Sem.run_pure]
theorem HM {t e:TypeId} {n sz:Nat} {z:List Value} {g:Bool} {parts:Array (Nat×Operand)} {ps:List (Nat×Value)} {cs:List Value} (hp:Vp m parts.toList=some ps) (ht:P.underlying t=some (.slice e)) (hs:YA P e=some (g,sz)) (hz:XI P e=some z)
  (hc:Yo sz 0 ps=some cs) (hl:cs.length=n*sz) (k:∀ b,JS P ops Q l N ((d,.slice (some ⟨b,0,none⟩) n n)::m) ⟨w0,F0,(b,.cells cs.toArray e (0,0))::bs,G⟩) (h24:Nat.ble (n*sz) 16777216=true:=by rfl) (hn:Nat.beq (n*sz) 0=false:=by rfl)
  (hu:WJ e=true:=by rfl) (hd:J4 N (some d)=true:=by rfl):JS P ops Q (⟨some d,.buildSlice t n parts,ty,pos,aft,none⟩::l) N m ⟨w0,F0,bs,G⟩:=fun a w ha hw =>
 wpList_plain rfl fun _ hK=>upon_value (Y5 ha hp ht hs hz hc hl h24 hn) (hK _ _ (k _ _ _ (ha.put hd _) (hw.alloc _ (Xj hu))))
end
section
variable {d:Option Tmp} {ty:TypeId} {pos:String} {aft:Array Edge}
theorem x3 (w:World) (b:Nat) (c c':Array Value) (T:TypeId) (fr:Nat×Nat) (h:w.heap[b]?=some (.cells c T fr)):(w.setRow b c').heap=w.heap.setIfInBounds b (.cells c' T fr):=by
 apply Array.ext_getElem?
 intro i
 by_cases e:i=b
 ·subst e
  rw [setRow_heap w i c c' T fr h]
  have hlt:i<w.heap.size:=by rcases Nat.lt_or_ge i w.heap.size with g | g;exact g;rw [Array.getElem?_eq_none g] at h;cases h
  simp [hlt]
 ·rw [Array.getElem?_setIfInBounds_ne (Ne.symm e)]
  simp [World.setRow,Array.getElem?_modify,Ne.symm e]
theorem run_storeCells_at (g:Nat) (t:TypeId):∀ (vs:List Value) (i:Nat) (off:Nat) (cur l':List Value) (w:World),w.heap[g]?=some (.cells cur.toArray t (0,0))→(∀ v∈vs,v.oneCell'=true)→Ko cur (off+i) vs l' →
  ∃ w',(storeCells ⟨g,off,none⟩ vs i).run P w = .ok () w'∧w'.heap=w.heap.setIfInBounds g (.cells l'.toArray t (0,0))∧w'.os=w.os∧w'.tape=w.tape∧w'.output=w.output∧w'.drawn=w.drawn
 |[],i,off,cur,l',w,hg,_,hp=>by
  have hlt:g<w.heap.size:=by rcases Nat.lt_or_ge g w.heap.size with h | h;exact h;rw [Array.getElem?_eq_none h] at hg;cases hg
  have e:l'=cur:=by have:=hp.eq;simpa using this
  subst e
  refine⟨w,rfl,?_,rfl,rfl,rfl,rfl⟩
  apply Array.ext_getElem?
  intro k
  by_cases e:k=g
  ·subst e;rw [hg];simp [hlt]
  ·rw [Array.getElem?_setIfInBounds_ne (Ne.symm e)]
 |v::vs,i,off,cur,l',w,hg,h1,hp=>by
  have hle:=hp.le
  simp only [List.length_cons] at hle
  have hadd:(⟨g,off,none⟩:Addr).add i=⟨g,off+i,none⟩:=by unfold Addr.add;split<;>simp_all
  have hlt:g<w.heap.size:=by rcases Nat.lt_or_ge g w.heap.size with h | h;exact h;rw [Array.getElem?_eq_none h] at hg;cases hg
  have hcell:w.cell? ⟨g,off+i,none⟩=some (cur[off+i]'(by omega)):=by simp [World.cell?,hg,show off+i<cur.length by omega]
  have hfro:w.frozen? ⟨g,off+i,none⟩=false:=by simp [World.frozen?,hg]
  have hst:(store ((⟨g,off,none⟩:Addr).add i) v).run P w = .ok () (w.setCell ⟨g,off+i,none⟩ v):=by
   rw [hadd,run_store P w _ v _ (h1 v (by simp)),hcell];simp [hfro]
  have hheap:(w.setCell ⟨g,off+i,none⟩ v).heap=w.heap.setIfInBounds g (.cells (cur.set (off+i) v).toArray t (0,0)):=by
   apply Array.ext_getElem?
   intro k
   by_cases e:k=g
   ·subst e
    show(w.heap.modify k _)[k]?=_
    rw [Array.getElem?_modify,if_pos rfl,hg];simp [hlt]
   ·rw [Array.getElem?_setIfInBounds_ne (Ne.symm e)];simp [World.setCell,Array.getElem?_modify,Ne.symm e]
  have hp2:Ko (cur.set (off+i) v) (off+(i+1)) vs l':=by
   have key:∀ (n:Nat) (cur l':List Value),Ko cur n (v::vs) l'→Ko (cur.set n v) (n+1) vs l':=by
    intro n
    induction n with
    |zero=>intro cur l' h;cases h with | here h=>exact .skip h
    |succ n ih=>intro cur l' h;cases h with | skip h=>exact .skip (ih _ _ h)
   exact key _ _ _ hp
  obtain ⟨w',h2,h3,h4,h5,h6⟩:=run_storeCells_at g t vs (i+1) off (cur.set (off+i) v) l' (w.setCell ⟨g,off+i,none⟩ v) (by rw [hheap];simp [hlt]) (fun x hx=>h1 x (by simp [hx])) hp2
  refine⟨w',?_,?_,h4,h5,h6⟩
  ·simp only [storeCells,Sem.run_bind,hst,Result.andThen_ok,h2]
  ·rw [h3,hheap];simp
theorem Dy {a:Act} {w:World} {T T':TypeId} {x y:Operand} {v:Value} {b off n:Nat} {c vs l':List Value} {gd:Option (Nat×Bool)} {g:Bool} (hx:a.eval x = .pointer (some ⟨b,off,none⟩)) (hy:a.eval y=v) (hv:v.cells=vs.toArray) (ht:YA P T=some (g,n)) (hn:vs.length=n)
  (hb:w.heap[b]?=some (.cells c.toArray T' (0,0))) (hp:Ko c off vs l') (h1:∀ v∈vs,v.oneCell'=true) :
  ∃ w',(execOp a.eval ⟨d,.store T x y,ty,pos,aft,gd⟩).run P w = .ok .skip w'∧w'.heap=w.heap.setIfInBounds b (.cells l'.toArray T' (0,0))∧w'.os=w.os∧w'.tape=w.tape∧w'.output=w.output∧w'.drawn=w.drawn:=by
 obtain ⟨w',h2,h3⟩:=run_storeCells_at (P:=P) b T' vs 0 off c l' w hb h1 hp
 refine⟨w',?_,h3⟩
 subst hn
 simp [execOp,hx,hy,Instr.storeAt,Instr.sureAddr,storeVar,hv,Zo ht,h2]
def Hn:List Value→Prop
 |[]=>True
 |v::r=>v.oneCell'=true∧Hn r
theorem Zq:∀ {l:List Value},Hn l→∀ v∈l,v.oneCell'=true
 |v::l,⟨h1,h2⟩,u,hu=>by
  rcases List.mem_cons.1 hu with rfl | hu
  ·exact h1
  ·exact Zq h2 u hu
theorem QQ {T T':TypeId} {x y:Operand} {v:Value} {b off n:Nat} {c vs l':List Value} {g:Bool} {f:Obj→List (Nat×Obj)} (hx:ev m x=some (.pointer (some ⟨b,off,none⟩))) (hy:ev m y=some v) (hv:v.cells=vs.toArray) (ht:YA P T=some (g,n)) (hn:vs.length=n)
  (ho:Own bs b (.cells c.toArray T' (0,0)) f) (hp:Ko c off vs l') (h1:Hn vs) (k:JS P ops Q l N m ⟨w0,F0,f (.cells l'.toArray T' (0,0)),G⟩) (hu:WJ T'=true:=by rfl):JS P ops Q (⟨none,.store T x y,ty,pos,aft,none⟩::l) N m ⟨w0,F0,bs,G⟩:=fun a w ha hw =>
 wpList_plain rfl fun _ hK=>by
  obtain ⟨w',h2,h3⟩:=Dy (P:=P) (d:=none) (ty:=ty) (pos:=pos) (aft:=aft) (gd:=none) (ha.ev hx) (ha.ev hy) hv ht hn (hw.own ho) hp (Zq h1)
  obtain ⟨pre,post,e1,e2⟩:=ho.split
  subst e1
  rw [e2] at k
  exact upon_skip h2 (hK _ _ (k _ _ ha (hw.write pre h3 (Xj hu))))
end
inductive UD:List (Nat×Obj)→Nat→Obj→(Obj→List (Nat×Obj))→List (Nat×Obj)→Prop
 |here {b:Nat} {o:Obj} {r:List (Nat×Obj)}:UD ((b,o)::r) b o (fun o'=>(b,o')::r) r
 |there {x:Nat×Obj} {l r:List (Nat×Obj)} {b:Nat} {o:Obj} {f:Obj→List (Nat×Obj)}:UD l b o f r→UD (x::l) b o (fun o'=>x::f o') (x::r)
theorem UD.own {l r:List (Nat×Obj)} {b:Nat} {o:Obj} {f:Obj→List (Nat×Obj)} (h:UD l b o f r):Own l b o f:=by
 induction h with
 |here=>exact .here
 |there h ih=>exact .there ih
theorem UD.sub {l r:List (Nat×Obj)} {b:Nat} {o:Obj} {f:Obj→List (Nat×Obj)} (h:UD l b o f r):∀ o',r.Sublist (f o'):=by
 induction h with
 |here=>exact fun _=>List.sublist_cons_self _ _
 |there h ih=>exact fun o'=>(ih o').cons_cons _
theorem Jh {bs0:List (Nat×Obj)} {G0:Gs→Prop} {pos:String} {aft:Array Edge} {ty:TypeId} {T T':TypeId} {x y:Operand} {v:Value} {b off n:Nat} {c vs l':List Value} {g:Bool} {f:Obj→List (Nat×Obj)} {bs':List (Nat×Obj)} (hx:ev m x=some (.pointer (some ⟨b,off,none⟩))) (hy:ev m y=some v) (hv:v.cells=vs.toArray) (ht:YA P T=some (g,n)) (hn:vs.length=n)
  (ho:UD bs b (.cells c.toArray T' (0,0)) f bs') (hs:bs0.Sublist bs') (hg0:∀ F,G F→G0 F) (hp:Ko c off vs l') (h1:Hn vs) (k:JD P ops Q ⟨w0,F0,bs0,G0⟩ l N m ⟨w0,F0,f (.cells l'.toArray T' (0,0)),G⟩) (hu:WJ T'=true:=by rfl):JD P ops Q ⟨w0,F0,bs0,G0⟩ (⟨none,.store T x y,ty,pos,aft,none⟩::l) N m ⟨w0,F0,bs,G⟩:=fun _ a w ha hw=>by
  obtain ⟨w',h2,h3⟩:=Dy (P:=P) (d:=none) (ty:=ty) (pos:=pos) (aft:=aft) (gd:=none) (ha.ev hx) (ha.ev hy) hv ht hn (hw.own ho.own) hp (Zq h1)
  have sub:∀ o' w,St ⟨w0,F0,f o',G⟩ w→St ⟨w0,F0,bs0,G0⟩ w:=fun o' w h=>h.imp (hs.trans (ho.sub o')) hg0
  obtain ⟨pre,post,e1,e2⟩:=ho.own.split
  subst e1
  have hS:St ⟨w0,F0,f (.cells l'.toArray T' (0,0)),G⟩ w':=by rw [e2];exact hw.write pre h3 (Xj hu)
  refine .inr ⟨rfl,?_⟩
  rw [if_pos (by simp [Region.wanted])]
  exact upon_skip h2 ⟨sub _ _ hS,k (sub _) _ _ ha hS⟩
theorem JR {id:Nat} {l:List Oper} {bs0:List (Nat×Obj)} (hb0:bs0.Sublist bs) (hm:P.follows .mixedOrders=true) (hB:lexB .any l=true) (h:JD P l.toArray (Xs (Q .normal)) ⟨w0,F0,bs0,G⟩ l N m ⟨w0,F0,bs,G⟩):J P (.region id l.toArray true) Q N m ⟨w0,F0,bs,G⟩ :=
 fun a w ha hw=>N1 hm hB (hw.drew.imp hb0 fun _ h=>h) (h (fun _ h=>h.imp hb0 fun _ h=>h) a _ ha hw.drew)
theorem Xo {id:Nat} {l:List Oper} {bs0:List (Nat×Obj)} (n:Nat) (hb0:bs0.Sublist bs) (hm:P.follows .mixedOrders=true) (hB:Hh l n=true) (hB2:lexB .any (l.take n)=true)
  (h:JD P (l.take n).toArray (Xs (fun a w=>wpList P l.toArray Q (l.drop n) a w)) ⟨w0,F0,bs0,G⟩ (l.take n) N m ⟨w0,F0,bs,G⟩):J P (.region id l.toArray true) Q N m ⟨w0,F0,bs,G⟩ :=
 fun a w ha hw=>Gp n hm hB hB2 (hw.drew.imp hb0 fun _ h=>h) (h (fun _ h=>h.imp hb0 fun _ h=>h) a _ ha hw.drew)
theorem No {c:Code} {b:Nat} {cs:Array Value} {T:TypeId} {fr:Nat×Nat} {bs':List (Nat×Obj)} (hr:jb bs b (.cells cs T fr) bs') (k:J P c Q N m ⟨w0,F0,bs',fun F=>G F∧F b=some (cs,T)⟩):J P c Q N m ⟨w0,F0,bs,G⟩:=fun a w ha hw=>by
 obtain ⟨pre,post,rfl,rfl⟩:=hr.split;exact k a w ha (hw.freeze pre)
theorem Wf {b:Nat} {cs:Array Value} {T:TypeId} {fr:Nat×Nat} {bs':List (Nat×Obj)} (hr:jb bs b (.cells cs T fr) bs') (k:JS P ops Q l N m ⟨w0,F0,bs',fun F=>G F∧F b=some (cs,T)⟩):JS P ops Q l N m ⟨w0,F0,bs,G⟩:=fun a w ha hw=>by
 obtain ⟨pre,post,rfl,rfl⟩:=hr.split;exact k a w ha (hw.freeze pre)
theorem dD {e:Exit} {b:Nat} {cs:Array Value} {T:TypeId} {fr:Nat×Nat} {bs':List (Nat×Obj)} (hr:jb bs b (.cells cs T fr) bs') (k:Fin Q e N m ⟨w0,F0,bs',fun F=>G F∧F b=some (cs,T)⟩):Fin Q e N m ⟨w0,F0,bs,G⟩:=fun a w ha hw=>by
 obtain ⟨pre,post,rfl,rfl⟩:=hr.split;exact k a w ha (hw.freeze pre)
theorem I1 {b:Nat} {cs:Array Value} {T:TypeId} {fr:Nat×Nat} {bs' bs0:List (Nat×Obj)} {G0:Gs→Prop} (hr:jb bs b (.cells cs T fr) bs') (hs:bs0.Sublist bs') (hg:∀ F,G F→G0 F) (k:JD P ops Q ⟨w0,F0,bs0,G0⟩ l N m ⟨w0,F0,bs',fun F=>G F∧F b=some (cs,T)⟩):JD P ops Q ⟨w0,F0,bs0,G0⟩ l N m ⟨w0,F0,bs,G⟩:=fun _ a w ha hw=>by
 obtain ⟨pre,post,rfl,rfl⟩:=hr.split;exact k (fun _ h=>h.imp hs fun F h=>hg F h.1) a w ha (hw.freeze pre)
def Nh:Nat→List Value→Sl
 |_,[]=>[]
 |k,v::r=>(k,v)::Nh (k+1) r
theorem WL:∀ (args:List Value) (k t:Nat) (v:Value),look (Nh k args) t=some v→k≤t∧args[t - k]?=some v
 |[],k,t,v,h=>by simp [Nh,look] at h
 |u::r,k,t,v,h=>by
  simp only [Nh,look] at h
  cases hb:Nat.beq k t with
  |true =>
   rw [hb] at h
   have:k=t:=by simpa using hb
   subst this
   simpa using h
  |false =>
   rw [hb] at h
   obtain ⟨h1,h2⟩:=WL r (k+1) t v (by simpa using h)
   refine⟨by omega,?_⟩
   rw [show t - k=(t - (k+1))+1 by omega];simpa using h2
omit [Df] in
theorem QT.intro {f:FuncId} {fn:Func} {c:Code} {args:List Value} {w:World} {F:Gs} {γ:Type} {val:γ→Value} {fact:γ→Gs→Prop} {G:Gs→Prop} (hf:P.funcs[f]?=some fn) (hb:fn.body=some c) (hn:(fn.name == "runtime.NumGoroutine")=false) (hN:fn.ntmps=N) (hl:Nat.ble args.length N=true)
  (hw:Fits F w) (hg:∀ F',Gs.le F F'→G F') (h:J (df:=VA) P c (bodyPost P fn (DC w F val fact)) N (Nh 0 args) ⟨w,F,[],G⟩):QT P f args w F val fact:=by
 refine⟨enters_of hf hn (by rw [hb];rfl),calls_of_wp hf hb (h _ w ⟨?_,rfl,fun t v ht=>?_⟩ (St.start hw hg))⟩
 ·have:=Nat.le_of_ble_eq_true hl
  simp [hN];omega
 ·obtain ⟨_,h2⟩:=WL args 0 t v ht
  have hlt:t<args.length:=by rcases Nat.lt_or_ge t args.length with g | g;exact g;rw [Nat.sub_zero,List.getElem?_eq_none g] at h2;cases h2
  simp only [Nat.sub_zero] at h2
  rw [Array.getElem?_append,if_pos (by simpa using hlt)]
  simpa using h2
omit [Df] in
theorem xk {fn:Func} {γ:Type} {val:γ→Value} {fact:γ→Gs→Prop} {bs:List (Nat×Obj)} {G:Gs→Prop} (c:γ) (hr:∀ a w,Jr (df:=VA) N m a→St ⟨w0,F0,bs,G⟩ w→(results fn a.tmps).run P w = .ok (val c) w) (hg:∀ F,G F→fact c F):Fin (df:=VA) (bodyPost P fn (DC w0 F0 val fact)) .ret N m ⟨w0,F0,bs,G⟩:=fun a w ha hw=>by
 obtain ⟨F,h⟩:=id hw
 exact⟨ha.df,val c,hr a w ha hw,c,F,rfl,h.ext,h.le,h.old,h.fits,fun F' hF'=>hg F' (h.g F' hF')⟩
omit [Df] in
theorem cd {fn:Func} {γ:Type} {val:γ→Value} {fact:γ→Gs→Prop} {bs:List (Nat×Obj)} {G:Gs→Prop} (h:Fin (df:=VA) (bodyPost P fn (DC w0 F0 val fact)) .ret N m ⟨w0,F0,bs,G⟩):Fin (df:=VA) (bodyPost P fn (DC w0 F0 val fact)) .normal N m ⟨w0,F0,bs,G⟩:=h
inductive Dh (P:Program) (m:Sl) (bs:List (Nat×Obj)):List ResultVar→List Value→Prop
 |nil:Dh P m bs [] []
 |tmp {t:Tmp} {v:Value} {r:List ResultVar} {vs:List Value} (h:look m t=some v) (k:Dh P m bs r vs):Dh P m bs (.tmp t::r) (v::vs)
 |gW {t:Tmp} {T T':TypeId} {b n:Nat} {c:List Value} {v:Value} {fr:Nat×Nat} {f:Obj→List (Nat×Obj)} {r:List ResultVar} {vs:List Value} (h:look m t=some (.pointer (some ⟨b,0,none⟩))) (ht:YA P T=some (false,n)) (ho:Own bs b (.cells c.toArray T' fr) f) (hg:Nu c 0 [v]) (k:Dh P m bs r vs):Dh P m bs (.cell t T::r) (v::vs)
 |Jc {t:Tmp} {T T':TypeId} {b:Nat} {c:List Value} {fr:Nat×Nat} {f:Obj→List (Nat×Obj)} {r:List ResultVar} {vs:List Value} (h:look m t=some (.pointer (some ⟨b,0,none⟩))) (ht:YA P T=some (true,c.length)) (ho:Own bs b (.cells c.toArray T' fr) f) (k:Dh P m bs r vs):Dh P m bs (.cell t T::r) (.agg c.toArray::vs)
def W3 (tmps:Array Value):ResultVar→Sem Value
 |.tmp t=>pure (tmps.getD t undef)
 |.cell p t=>do loadVar t (← asAddr (tmps.getD p undef))
theorem Dh.run {rs:List ResultVar} {vs:List Value} (h:Dh P m bs rs vs) {a:Act} {w:World} (ha:Jr N m a) (hw:St ⟨w0,F0,bs,G⟩ w) :
  (rs.mapM (W3 a.tmps)).run P w = .ok vs w:=by
 induction h with
 |nil=>rfl
 |tmp h k ih =>
  rename_i t v r vs
  have e:=ha.get _ _ h
  have e2:(W3 a.tmps (.tmp t)).run P w = .ok v w:=by simp [W3,e]
  rw [List.mapM_cons,Sem.run_bind,e2]
  simp [ih]
 |gW h ht ho hg k ih =>
  rename_i t T T' b n c v fr f r vs
  have e:=ha.get _ _ h
  have hc:=Xu (hw.own ho) (o:=0)
  have:=hg.at 0 _ rfl
  simp only [Nat.zero_add] at this
  rw [this] at hc
  have e2:(W3 a.tmps (.cell t T)).run P w = .ok v w:=by simp [W3,e,asAddr,ZZ ht hc]
  rw [List.mapM_cons,Sem.run_bind,e2]
  simp [ih]
 |Jc h ht ho k ih =>
  rename_i t T T' b c fr f r vs
  have e:=ha.get _ _ h
  have:=Kq (P:=P) ht rfl (w:=w) (b:=b) (off:=0) (fun j v hv=>by rw [Nat.zero_add,Xu (hw.own ho)];exact hv)
  have e2:(W3 a.tmps (.cell t T)).run P w = .ok (.agg c.toArray) w:=by simp [W3,e,asAddr,this]
  rw [List.mapM_cons,Sem.run_bind,e2]
  simp [ih]
theorem Ur (fn:Func) (tmps:Array Value):results fn tmps=(do let vs ← fn.results.mapM (W3 tmps);pure (if h:vs.size=1 then vs[0] else .tuple vs)):=by
 unfold results
 exact congrArg (fun(g:ResultVar→Sem Value)=>(do let vs ← fn.results.mapM g;pure (if h:vs.size=1 then vs[0] else .tuple vs):Sem Value)) (funext fun x=>by cases x<;>rfl)
theorem W2 {fn:Func} {rs:List ResultVar} {vs:List Value} (hrs:fn.results=rs.toArray) (h:Dh P m bs rs vs) {a:Act} {w:World} (ha:Jr N m a) (hw:St ⟨w0,F0,bs,G⟩ w) :
  (results fn a.tmps).run P w = .ok (match vs with | [v]=>v | vs=>.tuple vs.toArray) w:=by
 have:=h.run ha hw
 rw [Ur,hrs,List.mapM_toArray]
 simp only [Sem.run_bind,Sem.run_map,this,Result.andThen_ok,Sem.run_pure]
 match vs with
 |[]=>rfl
 |[v]=>rfl
 |v::u::r=>rfl
omit [Df] in
theorem QR {fn:Func} {γ:Type} {val:γ→Value} {fact:γ→Gs→Prop} {bs:List (Nat×Obj)} {G:Gs→Prop} {rs:List ResultVar} {v:Value} (c:γ) (hrs:fn.results=rs.toArray) (h:Dh P m bs rs [v]) (hv:val c=v) (hg:∀ F,G F→fact c F):Fin (df:=VA) (bodyPost P fn (DC w0 F0 val fact)) .ret N m ⟨w0,F0,bs,G⟩ :=
 xk c (fun a w ha hw=>by rw [hv];exact W2 hrs h ha hw) hg
omit [Df] in
theorem JX {fn:Func} {γ:Type} {val:γ→Value} {fact:γ→Gs→Prop} {bs:List (Nat×Obj)} {G:Gs→Prop} {rs:List ResultVar} {v u:Value} {vs:List Value} (c:γ) (hrs:fn.results=rs.toArray) (h:Dh P m bs rs (v::u::vs)) (hv:val c = .tuple (v::u::vs).toArray) (hg:∀ F,G F→fact c F):Fin (df:=VA) (bodyPost P fn (DC w0 F0 val fact)) .ret N m ⟨w0,F0,bs,G⟩ :=
 xk c (fun a w ha hw=>by rw [hv];exact W2 hrs h ha hw) hg
end
end
end
section
open Go.RowKit
section
variable [Dr] [df:Df]
section
variable {P:Program} {N:Nat} {m:Sl} {S:World→Prop} {ty:TypeId} {v:Value}
def O8:BinOp→Value→Value→Option Value
 |.add,.int .i64 a,.int .i64 b=>some (.int .i64 (IntKind.i64.wrap (a+b)))
 |.sub,.int .i64 a,.int .i64 b=>some (.int .i64 (IntKind.i64.wrap (a - b)))
 |.mul,.int .i64 a,.int .i64 b=>some (.int .i64 (IntKind.i64.wrap (a*b)))
 |.add,.int .u64 a,.int .u64 b=>some (.int .u64 (IntKind.u64.wrap (a+b)))
 |.sub,.int .u64 a,.int .u64 b=>some (.int .u64 (IntKind.u64.wrap (a - b)))
 |.mul,.int .u64 a,.int .u64 b=>some (.int .u64 (IntKind.u64.wrap (a*b)))
 |.eql,.int .i64 a,.int .i64 b=>some (.bool (a==b))
 |.neq,.int .i64 a,.int .i64 b=>some (.bool (a != b))
 |.lss,.int .i64 a,.int .i64 b=>some (.bool (decide (a<b)))
 |.leq,.int .i64 a,.int .i64 b=>some (.bool (decide (a≤b)))
 |.gtr,.int .i64 a,.int .i64 b=>some (.bool (decide (a>b)))
 |.geq,.int .i64 a,.int .i64 b=>some (.bool (decide (a≥b)))
 |.eql,.int .u64 a,.int .u64 b=>some (.bool (a==b))
 |.neq,.int .u64 a,.int .u64 b=>some (.bool (a != b))
 |.lss,.int .u64 a,.int .u64 b=>some (.bool (decide (a<b)))
 |.leq,.int .u64 a,.int .u64 b=>some (.bool (decide (a≤b)))
 |.gtr,.int .u64 a,.int .u64 b=>some (.bool (decide (a>b)))
 |.geq,.int .u64 a,.int .u64 b=>some (.bool (decide (a≥b)))
 |.eql,.int .u8 a,.int .u8 b=>some (.bool (a==b))
 |.neq,.int .u8 a,.int .u8 b=>some (.bool (a != b))
 |.lss,.int .u8 a,.int .u8 b=>some (.bool (decide (a<b)))
 |.leq,.int .u8 a,.int .u8 b=>some (.bool (decide (a≤b)))
 |.gtr,.int .u8 a,.int .u8 b=>some (.bool (decide (a>b)))
 |.geq,.int .u8 a,.int .u8 b=>some (.bool (decide (a≥b)))
 |.eql,.int .i32 a,.int .i32 b=>some (.bool (a==b))
 |.neq,.int .i32 a,.int .i32 b=>some (.bool (a != b))
 |.lss,.int .i32 a,.int .i32 b=>some (.bool (decide (a<b)))
 |.leq,.int .i32 a,.int .i32 b=>some (.bool (decide (a≤b)))
 |.gtr,.int .i32 a,.int .i32 b=>some (.bool (decide (a>b)))
 |.geq,.int .i32 a,.int .i32 b=>some (.bool (decide (a≥b)))
 |.eql,.string a,.string b=>some (.bool (a.toList==b.toList))
 |.neq,.string a,.string b=>some (.bool (!(a.toList==b.toList)))
 |_,_,_=>none
theorem Ls {op:BinOp} {T:TypeId} {x y:Operand} {vx vy:Value} (h:O8 op vx vy=some v) (w:World):(do eqGuard op T x y vx vy;binOp op T vx vy:Sem Value).run P w = .ok v w:=by
  unfold O8 at h
  split at h<;>first
    | (cases h;done)
    | (simp only [Option.some.injEq] at h
       subst h
       simp [eqGuard,binOp,Op.intArith,Op.intCmp,Op.stringOp])
theorem QU {op:BinOp} {T yT:TypeId} {x y:Operand} {vx vy:Value} (hx:ev m x=some vx) (hy:ev m y=some vy) (h:O8 op vx vy=some v):Qt P N m S (.binOp op T x y yT) ty v:=fun a w _ _ _ _ ha _=>by
 have:=Ls (P:=P) (T:=T) (x:=x) (y:=y) h w
 simp only [execOp,ha.ev hx,ha.ev hy]
 simp only [Sem.run_bind] at this ⊢
 rw [this];rfl
theorem Qp {T yT:TypeId} {x y:Operand} {a b:Int} (hx:ev m x=some (.int .i64 a)) (hy:ev m y=some (.int .i64 b)) (h : -9223372036854775808≤a+b∧a+b≤9223372036854775807):Qt P N m S (.binOp .add T x y yT) ty (.int .i64 (a+b)):=by
 have:=QU (P:=P) (N:=N) (m:=m) (S:=S) (ty:=ty) (T:=T) (yT:=yT) (op:=.add) hx hy rfl
 rw [IntWalk.i64_in _ h] at this;exact this
theorem J7 {T yT:TypeId} {x y:Operand} {a b:Int} (hx:ev m x=some (.int .i64 a)) (hy:ev m y=some (.int .i64 b)) (h : -9223372036854775808≤a - b∧a - b≤9223372036854775807):Qt P N m S (.binOp .sub T x y yT) ty (.int .i64 (a - b)):=by
 have:=QU (P:=P) (N:=N) (m:=m) (S:=S) (ty:=ty) (T:=T) (yT:=yT) (op:=.sub) hx hy rfl
 rw [IntWalk.i64_in _ h] at this;exact this
theorem Wo {T yT:TypeId} {x y:Operand} {a b:Int} (hx:ev m x=some (.int .i64 a)) (hy:ev m y=some (.int .i64 b)) (h : -9223372036854775808≤a*b∧a*b≤9223372036854775807):Qt P N m S (.binOp .mul T x y yT) ty (.int .i64 (a*b)):=by
 have:=QU (P:=P) (N:=N) (m:=m) (S:=S) (ty:=ty) (T:=T) (yT:=yT) (op:=.mul) hx hy rfl
 rw [IntWalk.i64_in _ h] at this;exact this
theorem I3 {T yT:TypeId} {x y:Operand} {k:IntKind} {a b:Int} (hx:ev m x=some (.int k a)) (hy:ev m y=some (.int k b)) (h:b≠0):Qt P N m S (.binOp .quo T x y yT) ty (.int k (k.wrap (a.tdiv b))):=fun s w _ _ _ _ ha _=>by
 simp [execOp,ha.ev hx,ha.ev hy,eqGuard,binOp,Op.intDiv,h]
theorem j5 {T yT:TypeId} {x y:Operand} {k:IntKind} {a b:Int} (hx:ev m x=some (.int k a)) (hy:ev m y=some (.int k b)) (h:b≠0):Qt P N m S (.binOp .rem T x y yT) ty (.int k (a.tmod b)):=fun s w _ _ _ _ ha _=>by
 simp [execOp,ha.ev hx,ha.ev hy,eqGuard,binOp,Op.intDiv,h]
theorem Wh {T yT:TypeId} {x y:Operand} {a b:Int} (hx:ev m x=some (.int .i64 a)) (hy:ev m y=some (.int .i64 b)) (ha:0≤a) (ha':a≤9223372036854775807) (hb:0<b):Qt P N m S (.binOp .quo T x y yT) ty (.int .i64 (a / b)):=by
 have:=I3 (P:=P) (N:=N) (m:=m) (S:=S) (ty:=ty) (T:=T) (yT:=yT) hx hy (by omega)
 have e:a.tdiv b=a / b:=Int.tdiv_eq_ediv_of_nonneg ha
 have h0:0≤a / b:=Int.ediv_nonneg ha (by omega)
 have h1:a / b≤a:=Int.ediv_le_self b ha
 rw [e,IntWalk.i64_in _ ⟨by omega,by omega⟩] at this;exact this
theorem VH {T yT:TypeId} {x y:Operand} {k:IntKind} {a b:Int} (hx:ev m x=some (.int k a)) (hy:ev m y=some (.int k b)) (ha:0≤a) (hb:0<b):Qt P N m S (.binOp .rem T x y yT) ty (.int k (a%b)):=by
 have:=j5 (P:=P) (N:=N) (m:=m) (S:=S) (ty:=ty) (T:=T) (yT:=yT) hx hy (by omega)
 rw [Int.tmod_eq_emod_of_nonneg ha] at this;exact this
theorem L8 {T yT:TypeId} {x y:Operand} {a b:ByteArray} (hx:ev m x=some (.string a)) (hy:ev m y=some (.string b)) (h:((a.size+b.size:Nat):Int)≤9223372036854775807):Qt P N m S (.binOp .add T x y yT) ty (.string (a++b)):=fun s w _ _ _ _ ha _=>by
 have h':¬ ((a.size+b.size:Nat):Int)>IntKind.i64.max:=by
  have:IntKind.i64.max=9223372036854775807:=by decide
  omega
 simp only [execOp,ha.ev hx,ha.ev hy,eqGuard,binOp,Op.stringOp,if_neg h']
 rfl
theorem Z0 {T:TypeId} {x:Operand} {b:Bool} (hx:ev m x=some (.bool b)):Qt P N m S (.unOp .not T x) ty (.bool (!b)):=fun s w _ _ _ _ ha _=>by
 simp [execOp,ha.ev hx,Op.unary]
theorem cR {T:TypeId} {x:Operand} {a:Int} (hx:ev m x=some (.int .i64 a)) (h : -9223372036854775807≤a∧a≤9223372036854775808):Qt P N m S (.unOp .neg T x) ty (.int .i64 (-a)):=fun s w _ _ _ _ ha _=>by
 have e:IntKind.i64.wrap (-a) = -a:=IntWalk.i64_in _ (by omega)
 simp [execOp,ha.ev hx,Op.unary,Op.intArith,e]
def Py (P:Program) (T:TypeId):Option IntKind:=match P.underlying T with
 |some (.int k)=>some k
 |_=>none
theorem Pd {src dst:TypeId} {x:Operand} {k k':IntKind} {n:Int} (hx:ev m x=some (.int k' n)) (hs:(P.underlying src).isSome=true) (hk:Py P dst=some k):Qt P N m S (.convert src dst x) ty (.int k (k.wrap n)):=fun s w _ _ _ _ ha _=>by
 obtain ⟨d,hd⟩:=Option.isSome_iff_exists.1 hs
 unfold Py at hk
 split at hk
 ·rename_i k'' hu
  cases hk
  simp only [execOp,ha.ev hx,convert,Sem.run_bind,run_underlying hd,run_underlying hu,Result.andThen_ok]
  rfl
 ·cases hk
theorem Tp {n:Int} (h : -9223372036854775808≤n∧n≤9223372036854775807):IntKind.i64.wrap n=n:=IntWalk.i64_in _ h
theorem Fv {src dst:TypeId} {x:Operand} {k':IntKind} {n:Int} (hx:ev m x=some (.int k' n)) (hs:(P.underlying src).isSome=true) (hk:Py P dst=some .i64) (h : -9223372036854775808≤n∧n≤9223372036854775807):Qt P N m S (.convert src dst x) ty (.int .i64 n):=by
 have:=Pd (P:=P) (N:=N) (m:=m) (S:=S) (ty:=ty) hx hs hk
 rw [Tp h] at this;exact this
def GU (P:Program) (T:TypeId):Bool:=match P.underlying T with
 |some .string=>true
 |_=>false
theorem YV {b:Builtin} {args:Array Operand} {tys:Array TypeId} {a:Act} {d:Option Tmp} {pos:String} {aft:Array Edge} {g:Option (Nat×Bool)}:execOp a.eval ⟨d,.call ⟨.builtin b,args,tys⟩,ty,pos,aft,g⟩=builtin b tys ty (args.map fun | .const _=>true | _=>false) (args.map a.eval):=rfl
theorem L6 {T:TypeId} {x:Operand} {s:ByteArray} (hx:ev m x=some (.string s)) (hT:GU P T=true):Qt P N m S (.call ⟨.builtin .len,#[x],#[T]⟩) ty (.int .i64 s.size):=fun a w _ _ _ _ ha _=>by
 unfold GU at hT
 split at hT
 ·rename_i hu
  rw [YV]
  simp [builtin,Builtin.len_,ha.ev hx,run_underlying hu,goInt]
 ·cases hT
def H2 (P:Program) (T:TypeId):Option TypeId:=match P.underlying T with
 |some (.slice e)=>some e
 |_=>none
theorem Q7 {T e:TypeId} (h:H2 P T=some e):P.underlying T=some (.slice e):=by
 unfold H2 at h;split at h
 ·cases h;assumption
 ·cases h
theorem Qi {T e:TypeId} {x:Operand} {q:Option Addr} {n c:Nat} (hx:ev m x=some (.slice q n c)) (hT:H2 P T=some e):Qt P N m S (.call ⟨.builtin .len,#[x],#[T]⟩) ty (.int .i64 n):=fun a w _ _ _ _ ha _=>by
 rw [YV]
 simp [builtin,Builtin.len_,ha.ev hx,run_underlying (Q7 hT),goInt]
theorem Cd {T T':TypeId} {x y:Operand} {a b:Int} (hx:ev m x=some (.int .i64 a)) (hy:ev m y=some (.int .i64 b)):Qt P N m S (.call ⟨.builtin .min,#[x,y],#[T,T']⟩) ty (.int .i64 (if b<a then b else a)):=fun s w _ _ _ _ ha _=>by
 rw [YV]
 simp [builtin,ha.ev hx,ha.ev hy,Builtin.min_,Builtin.min2]
theorem vV {T T':TypeId} {x y:Operand} {a b:Int} (hx:ev m x=some (.int .i64 a)) (hy:ev m y=some (.int .i64 b)):Qt P N m S (.call ⟨.builtin .max,#[x,y],#[T,T']⟩) ty (.int .i64 (if b>a then b else a)):=fun s w _ _ _ _ ha _=>by
 rw [YV]
 simp [builtin,ha.ev hx,ha.ev hy,Builtin.max_,Builtin.max2]
theorem L7 {T:TypeId} {x y:Operand} {s:ByteArray} {i:Nat} (hx:ev m x=some (.string s)) (hy:ev m y=some (.int .i64 (i:Int))) (hT:GU P T=true) (hi:i<s.size):Qt P N m S (.index T x y) ty (.int .u8 (s.data[i].toNat:Int)):=fun a w _ _ _ _ ha _=>by
 unfold GU at hT
 split at hT
 ·rename_i hu
  have e:s[i]?=some (s.data[i]):=by
   rw [getElem?_pos s i hi];rfl
  simp [execOp,ha.ev hx,ha.ev hy,Instr.index,asIntOf,run_underlying hu,e]
 ·cases hT
theorem RZ {T:TypeId} {s:ByteArray} {lo hi:Option Value} {l h:Nat} (hT:GU P T=true) (hlo:(lo=none∧l=0)∨lo=some (.int .i64 (l:Int))) (hhi:(hi=none∧h=s.size)∨hi=some (.int .i64 (h:Int))) (h1:l≤h) (h2:h≤s.size) (w:World) :
  (Instr.slice T (.string s) lo hi none).run P w = .ok (.string (s.extract l h)) w:=by
 unfold GU at hT
 split at hT
 ·rename_i hu
  rcases hlo with ⟨rfl,rfl⟩ | rfl<;>rcases hhi with ⟨rfl,rfl⟩ | rfl <;>
   simp [Instr.slice,run_underlying hu,Instr.sliceBounds,Instr.sliceBound,asIntOf,h1,h2]
 ·cases hT
def US (m:Sl):Option Operand→Option (Option Value)
 |none=>some none
 |some x=>(ev m x).map some
theorem Jr.US {a:Act} (h:Jr N m a) {x:Option Operand} {v:Option Value} (hx:US m x=some v):x.map a.eval=v:=by
 cases x with
 |none=>simpa [YtknegjaeoffnbaaGreatDoor.US] using hx
 |some x =>
  cases hv:YtknegjaeoffnbaaGreatDoor.ev m x with
  |none=>simp [YtknegjaeoffnbaaGreatDoor.US,hv] at hx
  |some u=>simp [YtknegjaeoffnbaaGreatDoor.US,hv] at hx;simp [h.ev hv,hx]
theorem Uv {T:TypeId} {x:Operand} {lo hi:Option Operand} {vl vh:Option Value} {s:ByteArray} {l h:Nat} (hx:ev m x=some (.string s)) (el:US m lo=some vl) (eh:US m hi=some vh) (hT:GU P T=true)
  (hlo:(vl=none∧l=0)∨vl=some (.int .i64 (l:Int))) (hhi:(vh=none∧h=s.size)∨vh=some (.int .i64 (h:Int))) (h1:l≤h) (h2:h≤s.size):Qt P N m S (.slice T x lo hi none) ty (.string (s.extract l h)):=fun a w _ _ _ _ ha _=>by
 have e:=RZ (P:=P) hT hlo hhi h1 h2 w
 unfold GU at hT
 split at hT
 ·rename_i hu
  simp [execOp,ha.ev hx,ha.US el,ha.US eh,Instr.sliceAt,run_underlying hu,e]
 ·cases hT
end
end
end
section
open Go.RowKit
section
variable [Dr] [df:Df]
section
variable {P:Program} {Q:Exit→Act→World→Prop} {N:Nat} {m:Sl} {E E0:Env} {ops:Array Oper} {l:List Oper} {w0:World} {F0:Gs} {bs:List (Nat×Obj)} {G:Gs→Prop} {ty:TypeId} {v:Value} {S:World→Prop}
theorem Ke (b off k:Nat):(⟨b,off,none⟩:Addr).add k=⟨b,off+k,none⟩:=by unfold Addr.add;split<;>simp_all
theorem Qw {T e:TypeId} {x y:Operand} {b off n c sz i:Nat} {g:Bool} (hx:ev m x=some (.slice (some ⟨b,off,none⟩) n c)) (hy:ev m y=some (.int .i64 (i:Int))) (hT:H2 P T=some e) (hs:YA P e=some (g,sz)) (hi:i<n):Qt P N m S (.indexAddr T x y) ty (.pointer (some ⟨b,off+i*sz,none⟩)):=fun a w _ _ _ _ ha _=>by
 simp [execOp,ha.ev hx,ha.ev hy,Instr.indexAt,asIntOf,run_underlying (Q7 hT),Zo hs,hi,Ke]
theorem YN {T T':TypeId} {x:Operand} {b off n:Nat} {c:List Value} {fr:Nat×Nat} {f:Obj→List (Nat×Obj)} (h:ev m x=some (.pointer (some ⟨b,off,none⟩))) (ht:YA P T=some (false,n)) (ho:Own bs b (.cells c.toArray T' fr) f) (hg:c[off]?=some v) :
  Qt P N m (St ⟨w0,F0,bs,G⟩) (.load T x) ty v:=fun a w _ _ _ _ ha hw=>by
 have hc:w.cell? ⟨b,off,none⟩=some v:=by rw [Xu (hw.own ho)];exact hg
 simp [execOp,ha.ev h,Instr.loadAt,Instr.sureAddr,ZZ ht hc]
theorem Ko.mk':∀ (n:Nat) (l vs:List Value),n+vs.length≤l.length→Ko l n vs (l.take n++vs++l.drop (n+vs.length))
 |0,l,[],_=>by simpa using Ko.nil (l:=l)
 |0,x::l,v::vs,h=>by
  have:=Ko.mk' 0 l vs (by simp at h ⊢;omega)
  simp only [List.take_zero,List.nil_append,Nat.zero_add,List.length_cons,List.drop_succ_cons,List.cons_append] at this ⊢
  exact .here this
 |n+1,x::l,vs,h=>by
  have:=Ko.mk' n l vs (by simp at h;omega)
  rw [Nat.add_right_comm]
  simpa using Ko.skip (x:=x) this
 |0,[],v::vs,h=>by simp at h
 |n+1,[],vs,h=>by simp at h
theorem Ko.vH {l:List Value} {n:Nat} (v:Value) (h:n<l.length):Ko l n [v] (l.set n v):=by
 have:=Ko.mk' n l [v] (by simp;omega)
 have e:l.take n++[v]++l.drop (n+1)=l.set n v:=by
  rw [List.set_eq_take_append_cons_drop,if_pos h];simp
 rw [List.length_singleton,e] at this;exact this
theorem ka {d:Option Tmp} {pos:String} {aft:Array Edge} {T T':TypeId} {x y:Operand} {b off n:Nat} {c:List Value} {g:Bool} {f:Obj→List (Nat×Obj)} (hx:ev m x=some (.pointer (some ⟨b,off,none⟩))) (hy:ev m y=some v) (hv:v.cells=#[v]) (h1:v.oneCell'=true) (ht:YA P T=some (g,1))
  (ho:Own bs b (.cells c.toArray T' (0,0)) f) (hl:off<c.length) (k:JS P ops Q l N m ⟨w0,F0,f (.cells (c.set off v).toArray T' (0,0)),G⟩) (hu:WJ T'=true:=by rfl):JS P ops Q (⟨none,.store T x y,ty,pos,aft,none⟩::l) N m ⟨w0,F0,bs,G⟩ :=
 QQ hx hy (vs:=[v]) hv ht rfl ho (Ko.vH v hl) ⟨h1,trivial⟩ k hu
inductive Qz (T:TypeId) (sz:Nat):Value→Nat→List Value→List (Nat×Obj)→Prop
 |nil:Qz T sz (.slice none 0 0) 0 [] []
 |some {b n cap:Nat} {l rest:List Value} (h1:l.length=n*sz) (h2:l.length+rest.length=cap*sz) (h3:n≤cap) (h4:cap≤maxLen):Qz T sz (.slice (some ⟨b,0,none⟩) n cap) n l [(b,.cells (l++rest).toArray T (0,0))]
theorem Qz.one {T:TypeId} {sz n:Nat} {v:Value} {l:List Value} {ob:List (Nat×Obj)} (h:Qz T sz v n l ob):v.oneCell'=true∧v.cells=[v].toArray:=by
 cases h<;>exact⟨rfl,rfl⟩
theorem Qz.len {T:TypeId} {sz n:Nat} {v:Value} {l:List Value} {ob:List (Nat×Obj)} (h:Qz T sz v n l ob):l.length=n*sz:=by
 cases h<;>simp_all
structure Src (E:Env) (sz:Nat) (x:Value) (k:Nat) (news:List Value):Prop where
 len:news.length=k*sz
 rd:((∃ c,x = .slice none 0 c)∧k=0∧news=[])∨∃ a c,x = .slice (some a) k c∧∀ w,St E w→∀ j v,news[j]?=some v→w.cell? (a.add j)=some v
theorem Src.own {sz k b off c:Nat} {news cs:List Value} {T:TypeId} {fr:Nat×Nat} {f:Obj→List (Nat×Obj)} (ho:Own bs b (.cells cs.toArray T fr) f) (hg:Nu cs off news) (hl:news.length=k*sz):Src ⟨w0,F0,bs,G⟩ sz (.slice (.some ⟨b,off,none⟩) k c) k news :=
 ⟨hl,.inr ⟨_,_,rfl,fun w hw j v hv=>by rw [Ke,Xu (hw.own ho)];exact hg.at j v hv⟩⟩
theorem Src.row {sz k b off c:Nat} {news:List Value} {cs:Array Value} {T:TypeId} (hr:∀ F,G F→F b=some (cs,T)) (hg:∀ j v,news[j]?=some v→cs[off+j]?=some v) (hl:news.length=k*sz):Src ⟨w0,F0,bs,G⟩ sz (.slice (.some ⟨b,off,none⟩) k c) k news :=
 ⟨hl,.inr ⟨_,_,rfl,fun w hw j v hv=>by rw [Ke];exact cell_of_row hw hr (hg j v hv)⟩⟩
theorem Src.nil {sz c:Nat}:Src E sz (.slice none 0 c) 0 []:=⟨by simp,.inl ⟨⟨_,rfl⟩,rfl,rfl⟩⟩
def YJ (P:Program) (T:TypeId):Option Nat:=(P.info? T).map (·.bytes)
theorem Gq {w:World} {sz k:Nat} {x:Value} {news:List Value} (hl:news.length=k*sz) (h:((∃ c,x = .slice none 0 c)∧k=0∧news=[])∨∃ a c,x = .slice (some a) k c∧∀ j v,news[j]?=some v→w.cell? (a.add j)=some v) :
  (Builtin.firstCells sz k x).run P w = .ok news.toArray w:=by
 rcases h with ⟨⟨_,rfl⟩,rfl,rfl⟩ | ⟨a,c,rfl,h⟩
 ·rfl
 ·exact run_firstCells_some (P:=P) w sz k a k c news hl h
theorem G5 {t e:TypeId} {sz bytes n k:Nat} {z:List Value} {g:Bool} {x y:Value} {olds news:List Value} {ob:List (Nat×Obj)} {w:World} (ht:H2 P t=some e) (hs:YA P e=some (g,sz)) (hz:XI P e=some z) (hzl:z.length=sz) (hby:YJ P e=some bytes)
  (hr:Qz e sz x n olds ob) (hs2:Src ⟨w0,F0,ob++bs,G⟩ sz y k news) (hw:St ⟨w0,F0,ob++bs,G⟩ w) (h63:n+k≤9223372036854775807) (h47:(n+k)*bytes≤140737488355328) (h1:∀ v∈news,v.oneCell'=true) (hu:WJ e=true) :
  ∃ v' ob' w',(Builtin.append_ #[t,t] ty #[x,y]).run P w = .ok v' w'∧Qz e sz v' (n+k) (olds++news) ob'∧St ⟨w0,F0,ob'++bs,G⟩ w':=by
 have hi:∃ i,P.info? e=some i∧i.size=sz∧i.bytes=bytes∧∃ zv,i.zero=some zv∧zv.cells=z.toArray:=by
  unfold YJ at hby;unfold XI at hz;unfold YA at hs
  cases hie:P.info? e with
  |none=>rw [hie] at hby;cases hby
  |some i =>
   rw [hie] at hby hz hs
   dsimp only at hz hs
   simp only [Option.map_some,Option.some.injEq] at hby
   refine⟨i,rfl,?_,hby,?_⟩
   ·split at hs
    ·rename_i h1 h2;cases h2;cases hs;rfl
    ·cases hs
   ·cases hzz:i.zero with
    |none=>rw [hzz] at hz;cases hz
    |some zv=>rw [hzz] at hz;simp only [Option.map_some,Option.some.injEq] at hz;exact⟨zv,rfl,by rw [← hz]⟩
 obtain ⟨i,hi1,hi2,hi3,zv,hi4,hi5⟩:=hi
 subst hi2 hi3
 have hzc:∀ q,(Builtin.zeroCells zv.cells q).toList.length=q*i.size:=fun q=>by simp [Builtin.zeroCells,hi5,hzl]
 have hu':∀ c fr c' fr',Obj.cells c e fr≠.cells c' 248 fr':=fun c fr=>Xj hu
 have new:∀ {w':World} (l rest:List Value) (v':Value) (cap:Nat) (bs':List (Nat×Obj)),St ⟨w0,F0,bs',G⟩ w'→bs.Sublist bs'→v' = .slice (some ⟨w'.heap.size,0,none⟩) (n+k) cap→l.length=(n+k)*i.size→l.length+rest.length=cap*i.size→n+k≤cap→cap≤maxLen →
   ∃ ob',Qz e i.size v' (n+k) l ob'∧St ⟨w0,F0,ob'++bs,G⟩ (w'.alloc (.cells (l++rest).toArray e)):=by
  intro w' l rest v' cap bs' hw' hsub hv' h2 h3 h4 h5
  subst hv'
  exact⟨_,.some h2 h3 h4 h5,(hw'.imp hsub fun _ h=>h).alloc _ (hu' _ _)⟩
 have hcut:∀ need old,need≤9223372036854775807→need≤grownCap w need old e:=fun need old _=>grownCap_ge w need old e
 cases hr with
 |nil =>
  simp only [Nat.zero_add,List.nil_append] at *
  rcases hs2.rd with ⟨⟨_,rfl⟩,rfl,rfl⟩ | ⟨a,c,rfl,hrd⟩
  ·refine⟨.slice none 0 0,[],w,?_,.nil,hw⟩
   simp [Builtin.append_,run_underlying (Q7 ht),sizeOf,typeInfo,hi1,Builtin.lenOf,Builtin.firstCells]
  ·by_cases hk:k=0
   ·subst hk
    have hn0:news=[]:=by have:=hs2.len;simp at this;exact this
    subst hn0
    refine⟨.slice none 0 0,[],w,?_,.nil,hw⟩
    have:=run_firstCells_some (P:=P) w i.size 0 a 0 c [] (by simp) (fun j v hv=>by simp at hv)
    simp [Builtin.append_,run_underlying (Q7 ht),sizeOf,typeInfo,hi1,Builtin.lenOf,this]
   ·have hrun:=run_append_nil (P:=P) (w:=w) t ty e i zv (Q7 ht) hi1 hi4 a k c news hs2.len (hrd w hw) (by omega) (by omega) (by omega)
    have hge:=hcut k 0 h63
    obtain ⟨ob',h2,h3⟩:=new news (Builtin.zeroCells zv.cells (grownCap w k 0 e - k)).toList _ (grownCap w k 0 e) bs hw.drew subl_r rfl hs2.len (by rw [hzc,hs2.len,← Nat.add_mul];congr 1;omega) hge (grownCap_le_maxLen w k 0 e (by simp only [maxLen];omega))
    refine⟨_,ob',_,hrun,h2,?_⟩
    have e1:(news++(Builtin.zeroCells zv.cells (grownCap w k 0 e - k)).toList).toArray=news.toArray++Builtin.zeroCells zv.cells (grownCap w k 0 e - k):=by apply Array.ext';simp
    rw [e1] at h3;exact h3
 |some g1 g2 g3 g4 =>
  rename_i b cap rest
  have hbw:w.heap[b]?=some (.cells (olds++rest).toArray e (0,0)):=hw.own (f:=fun o'=>(b,o')::bs) .here
  have hold:∀ j v,olds[j]?=some v→w.cell? ((⟨b,0,none⟩:Addr).add j)=some v:=fun j v hv=>by
   rw [Ke,Nat.zero_add,Xu hbw,List.getElem?_append]
   have:j<olds.length:=by rcases Nat.lt_or_ge j olds.length with q | q;exact q;rw [List.getElem?_eq_none q] at hv;cases hv
   rw [if_pos this];exact hv
  by_cases hroom:n+k≤cap
  ·
   have hmul:(n+k)*i.size≤cap*i.size:=Nat.mul_le_mul_right _ hroom
   rw [Nat.add_mul] at hmul
   have hp:=Ko.mk' (n*i.size) (olds++rest) news (by rw [List.length_append,hs2.len];omega)
   obtain ⟨w',h2,h3⟩:=run_storeCells_at (P:=P) b e news 0 (n*i.size) (olds++rest) _ w hbw h1 hp
   have e1:(olds++rest).take (n*i.size)=olds:=by rw [← g1];simp
   have e2:(olds++rest).drop (n*i.size+news.length)=rest.drop news.length:=by
    rw [← g1,List.drop_append,List.drop_of_length_le (by omega),Nat.add_sub_cancel_left,List.nil_append]
   rw [e1,e2] at h3
   have hfc:=Gq (P:=P) (w:=w) hs2.len (hs2.rd.imp id fun⟨a,c,h,h'⟩=>⟨a,c,h,h' w hw⟩)
   refine⟨.slice (some ⟨b,0,none⟩) (n+k) cap,[(b,.cells (olds++news++rest.drop news.length).toArray e (0,0))],w',?_,.some ?_ ?_ hroom g4,?_⟩
   ·have hlen:(Builtin.lenOf y).run P w = .ok k w:=by
     rcases hs2.rd with ⟨⟨_,rfl⟩,rfl,_⟩ | ⟨a,c,rfl,_⟩<;>rfl
    simp [Builtin.append_,run_underlying (Q7 ht),sizeOf,typeInfo,hi1,hlen,hroom,hfc,Ke,h2]
   ·rw [List.length_append,g1,hs2.len,Nat.add_mul]
   ·rw [List.length_append,List.length_drop,hs2.len,g1];omega
   ·exact St.write [] hw h3 (hu' _ _)
  ·rcases hs2.rd with ⟨⟨_,rfl⟩,rfl,rfl⟩ | ⟨a,c,rfl,hrd⟩
   ·exact absurd g3 hroom
   ·have hfit:=growslice_fits (need:=n+k) (old:=cap) (bytes:=i.bytes) (by omega) h47
    have hrun:=run_append_grow (P:=P) (w:=w) t ty e i zv (Q7 ht) hi1 hi4 ⟨b,0,none⟩ n cap olds g1 hold a k c news hs2.len (hrd w hw) (by omega) (by omega) hfit
    have hge:=hcut (n+k) cap h63
    have hl2:(olds++news).length=(n+k)*i.size:=by rw [List.length_append,g1,hs2.len,Nat.add_mul]
    obtain ⟨ob',h2,h3⟩:=new (olds++news) (Builtin.zeroCells zv.cells (grownCap w (n+k) cap e - (n+k))).toList _ (grownCap w (n+k) cap e) _ hw.drew (List.sublist_cons_self _ _) rfl hl2 (by rw [hzc,hl2,← Nat.add_mul];congr 1;omega) hge (grownCap_le_maxLen w (n+k) cap e (by simp only [maxLen];omega))
    refine⟨_,ob',_,hrun,h2,?_⟩
    have e1:(olds++news++(Builtin.zeroCells zv.cells (grownCap w (n+k) cap e - (n+k))).toList).toArray=olds.toArray++news.toArray++Builtin.zeroCells zv.cells (grownCap w (n+k) cap e - (n+k)):=by apply Array.ext';simp
    rw [e1] at h3;exact h3
theorem Di {d:Nat} {pos:String} {aft:Array Edge} {t e:TypeId} {sz bytes n k:Nat} {z:List Value} {g:Bool} {X Y:Operand} {x y:Value} {olds news:List Value} {ob:List (Nat×Obj)} (hx:ev m X=some x) (hy:ev m Y=some y) (ht:H2 P t=some e) (hs:YA P e=some (g,sz)) (hz:XI P e=some z) (hzl:z.length=sz) (hby:YJ P e=some bytes)
  (hr:Qz e sz x n olds ob) (hs2:Src ⟨w0,F0,ob++bs,G⟩ sz y k news) (h63:n+k≤9223372036854775807) (h47:(n+k)*bytes≤140737488355328) (h1:∀ v∈news,v.oneCell'=true)
  (kk:∀ v' ob',Qz e sz v' (n+k) (olds++news) ob'→JS P ops Q l N ((d,v')::m) ⟨w0,F0,ob'++bs,G⟩) (hu:WJ e=true:=by rfl) (hd:J4 N (some d)=true:=by rfl) :
  JS P ops Q (⟨some d,.call ⟨.builtin .append,#[X,Y],#[t,t]⟩,ty,pos,aft,none⟩::l) N m ⟨w0,F0,ob++bs,G⟩:=fun a w ha hw =>
 wpList_plain rfl fun K hK=>by
  obtain ⟨v',ob',w',h2,h3,h4⟩:=G5 (ty:=ty) ht hs hz hzl hby hr hs2 hw h63 h47 h1 hu
  refine upon_value (w':=w') (v:=v') ?_ (hK _ _ (kk v' ob' h3 _ w' (ha.put hd v') h4))
  rw [YV]
  simp [builtin,ha.ev hx,ha.ev hy,h2]
theorem Dj {d:Nat} {pos:String} {aft:Array Edge} {t e:TypeId} {sz bytes n k:Nat} {z:List Value} {g:Bool} {X Y:Operand} {x y:Value} {olds news:List Value} {ob bs0:List (Nat×Obj)} {G0:Gs→Prop} (hx:ev m X=some x) (hy:ev m Y=some y) (ht:H2 P t=some e) (hs:YA P e=some (g,sz)) (hz:XI P e=some z) (hzl:z.length=sz) (hby:YJ P e=some bytes)
  (hr:Qz e sz x n olds ob) (hs2:Src ⟨w0,F0,ob++bs,G⟩ sz y k news) (h63:n+k≤9223372036854775807) (h47:(n+k)*bytes≤140737488355328) (h1:∀ v∈news,v.oneCell'=true) (hs0:bs0.Sublist bs) (hg0:∀ F,G F→G0 F)
  (kk:∀ v' ob',Qz e sz v' (n+k) (olds++news) ob'→JD P ops Q ⟨w0,F0,bs0,G0⟩ l N ((d,v')::m) ⟨w0,F0,ob'++bs,G⟩) (hu:WJ e=true:=by rfl) (hd:J4 N (some d)=true:=by rfl) :
  JD P ops Q ⟨w0,F0,bs0,G0⟩ (⟨some d,.call ⟨.builtin .append,#[X,Y],#[t,t]⟩,ty,pos,aft,none⟩::l) N m ⟨w0,F0,ob++bs,G⟩:=fun _ a w ha hw=>by
  obtain ⟨v',ob',w',h2,h3,h4⟩:=G5 (ty:=ty) ht hs hz hzl hby hr hs2 hw h63 h47 h1 hu
  have sub:∀ w',St ⟨w0,F0,ob'++bs,G⟩ w'→St ⟨w0,F0,bs0,G0⟩ w':=fun w' h=>h.imp (hs0.trans (List.sublist_append_right _ _)) hg0
  refine .inr ⟨rfl,?_⟩
  rw [if_pos (by simp [Region.wanted])]
  refine upon_value (w':=w') (v:=v') ?_ ⟨sub _ h4,kk v' ob' h3 sub _ w' (ha.put hd v') h4⟩
  rw [YV]
  simp [builtin,ha.ev hx,ha.ev hy,h2]
def X2 (z:List Value):Nat→List Value
 |0=>[]
 |n+1=>z++X2 z n
theorem G2 (z:List Value):∀ n,(X2 z n).length=n*z.length
 |0=>by simp [X2]
 |n+1=>by rw [X2,List.length_append,G2 z n,Nat.add_mul];omega
theorem Mb (z:List Value):∀ (n j:Nat),j<n*z.length→(X2 z n)[j]?=z[j%z.length]?
 |0,j,h=>by simp at h
 |n+1,j,h=>by
  rw [X2,List.getElem?_append]
  split
  ·rename_i hj;rw [Nat.mod_eq_of_lt hj]
  ·rename_i hj
   rw [Mb z n _ (by rw [Nat.add_mul,Nat.one_mul] at h;omega)]
   rw [← Nat.mod_eq_sub_mod (by omega)]
theorem VD (v:Value):∀ n,X2 [v] n=List.replicate n v
 |0=>rfl
 |n+1=>by rw [X2,VD v n];rfl
theorem Rw {z:Array Value} {n:Nat}:madeCells z (n*z.size)=(X2 z.toList n).toArray:=by
 apply Array.ext_getElem?
 intro j
 simp only [madeCells,List.getElem?_toArray]
 by_cases hj:j<n*z.size
 ·have hz:0<z.size:=by rcases Nat.eq_zero_or_pos z.size with h | h;rw [h] at hj;simp at hj;exact h
  have hm:=Nat.mod_lt j hz
  rw [Mb z.toList n j (by simpa using hj)]
  simp [hj,hm]
 ·have e1:(X2 z.toList n)[j]?=none:=List.getElem?_eq_none (by rw [G2];simpa using hj)
  rw [e1,Array.getElem?_eq_none (by simpa using hj)]
theorem PX {t e:TypeId} {sz bytes n:Nat} {z:List Value} {g:Bool} {w:World} {kl:IntKind} (ht:H2 P t=some e) (hs:YA P e=some (g,sz)) (hz:XI P e=some z) (hzl:z.length=sz) (hby:YJ P e=some bytes) (h63:(n:Int)≤9223372036854775807) (h48:n*bytes≤281474976710656) :
  (Instr.makeSlice t (.int kl n) (.int kl n)).run P w = .ok (.slice (some ⟨w.heap.size,0,none⟩) n n) (w.alloc (.cells (X2 z n).toArray e)):=by
 have hi:∃ i,P.info? e=some i∧i.size=sz∧i.bytes=bytes∧∃ zv,i.zero=some zv∧zv.cells=z.toArray:=by
  unfold YJ at hby;unfold XI at hz;unfold YA at hs
  cases hie:P.info? e with
  |none=>rw [hie] at hby;cases hby
  |some i =>
   rw [hie] at hby hz hs
   dsimp only at hz hs
   simp only [Option.map_some,Option.some.injEq] at hby
   refine⟨i,rfl,?_,hby,?_⟩
   ·split at hs
    ·rename_i h1 h2;cases h2;cases hs;rfl
    ·cases hs
   ·cases hzz:i.zero with
    |none=>rw [hzz] at hz;cases hz
    |some zv=>rw [hzz] at hz;simp only [Option.map_some,Option.some.injEq] at hz;exact⟨zv,rfl,by rw [← hz]⟩
 obtain ⟨i,hi1,hi2,hi3,zv,hi4,hi5⟩:=hi
 subst hi3
 have hb:(i.bytes:Int)*(n:Int)≤281474976710656:=by
  have:((n*i.bytes:Nat):Int)≤281474976710656:=by omega
  rw [Int.natCast_mul] at this;rw [Int.mul_comm];exact this
 have:=run_make (P:=P) w t e i zv (Q7 ht) hi1 hi4 kl kl n n (by omega) (Int.le_refl _) hb h63
 rw [this]
 have e2:i.size=zv.cells.size:=by rw [hi5];simp;omega
 simp only [Int.toNat_natCast,e2,Rw,hi5]
theorem Nz {d:Nat} {pos:String} {aft:Array Edge} {t e:TypeId} {sz bytes n:Nat} {z:List Value} {g:Bool} {X Y:Operand} {kl:IntKind} (hx:ev m X=some (.int kl (n:Int))) (hy:ev m Y=some (.int kl (n:Int))) (ht:H2 P t=some e) (hs:YA P e=some (g,sz)) (hz:XI P e=some z) (hzl:z.length=sz) (hby:YJ P e=some bytes) (h63:(n:Int)≤9223372036854775807) (h48:n*bytes≤281474976710656)
  (k:∀ b,JS P ops Q l N ((d,.slice (some ⟨b,0,none⟩) n n)::m) ⟨w0,F0,(b,.cells (X2 z n).toArray e (0,0))::bs,G⟩) (hu:WJ e=true:=by rfl) (hd:J4 N (some d)=true:=by rfl) :
  JS P ops Q (⟨some d,.makeSlice t X Y,ty,pos,aft,none⟩::l) N m ⟨w0,F0,bs,G⟩:=fun a w ha hw =>
 wpList_plain rfl fun _ hK=>upon_value (by
  simp only [execOp,ha.ev hx,ha.ev hy,Sem.run_bind,PX ht hs hz hzl hby h63 h48,Result.andThen_ok,Sem.run_pure]) (hK _ _ (k _ _ _ (ha.put hd _) (hw.alloc _ (Xj hu))))
end
end
end
section
open Go.RowKit
section
variable [Dr] [df:Df]
def Ks (P:Program) (T:TypeId):Option (List (Nat×Nat)):=match P.info? T,P.underlying T with
 |some _,some (.struct fields)=>fields.toList.mapM (fun f=>(P.info? f.type).map fun i=>(f.offset,i.size))
 |_,_=>none
inductive Dl (pl:List (Nat×Nat)):List (Nat×Value)→List Value→List Value→Prop
 |nil {l:List Value}:Dl pl [] l l
 |cons {i off sz:Nat} {v:Value} {vs cur cur' res:List Value} {r:List (Nat×Value)} (hf:pl[i]?=some (off,sz)) (hv:v.cells=vs.toArray) (hn:vs.length=sz) (hp:Ko cur off vs cur') (k:Dl pl r cur' res):Dl pl ((i,v)::r) cur res
theorem Tx (off:Nat):∀ (vs:List Value) (j:Nat) (cur cur':List Value),Ko cur (off+j) vs cur'→(vs.zipIdx j).foldl (fun cs (x:Value×Nat)=>cs.setIfInBounds (off+x.2) x.1) cur.toArray=cur'.toArray
 |[],j,cur,cur',h=>by have:=h.eq;simp at this;simp [this]
 |v::vs,j,cur,cur',h=>by
  have hle:=h.le
  have hp2:Ko (cur.set (off+j) v) (off+(j+1)) vs cur':=by
   have key:∀ (n:Nat) (cur l':List Value),Ko cur n (v::vs) l'→Ko (cur.set n v) (n+1) vs l':=by
    intro n
    induction n with
    |zero=>intro cur l' h;cases h with | here h=>exact .skip h
    |succ n ih=>intro cur l' h;cases h with | skip h=>exact .skip (ih _ _ h)
   exact key _ _ _ h
  rw [List.zipIdx_cons,List.foldl_cons]
  have:=Tx off vs (j+1) _ _ hp2
  simpa using this
theorem Dl.fill {pl:List (Nat×Nat)} {ps:List (Nat×Value)} {cur res:List Value} (h:Dl pl ps cur res):Instr.fill (pl.toArray[·]?) cur.toArray ps=some res.toArray:=by
 induction h with
 |nil=>rfl
 |cons hf hv hn hp k ih =>
  rename_i i off sz v vs cur cur' res r
  have hle:=hp.le
  unfold Instr.fill
  have e1:pl.toArray[i]?=some (off,sz):=by simpa using hf
  simp only [e1,hv,List.size_toArray,hn,ne_eq,not_true_eq_false,decide_false,Bool.false_or,decide_eq_true_eq]
  rw [if_neg (by omega)]
  have e2:vs.toArray.zipIdx.foldl (fun cs (x:Value×Nat)=>cs.setIfInBounds (off+x.2) x.1) cur.toArray=cur'.toArray:=by
   have:=Tx off vs 0 cur cur' (by simpa using hp)
   rw [← this,← Array.foldl_toList];simp
  rw [e2];exact ih
section
variable {P:Program} {Q:Exit→Act→World→Prop} {N:Nat} {m:Sl} {E E0:Env} {ops:Array Oper} {l:List Oper}
theorem K6 {ops':Array Oper} {l':List Oper} (h:JS P ops' Q l' N m E):JD P ops (Xs (fun a w=>wpList P ops' Q l' a w)) E0 [] N m E:=fun _=>h
theorem Q9 (h:Fin Q .normal N m E):JD P ops (Xs (Q .normal)) E0 [] N m E:=fun _=>h
theorem Qn {t:Nat} {b:Bool} (h:look m t=some (.bool b)) (ht:b=true→JS P ops Q l N ((t,.bool true)::m) E) (hf:b=false→JS P ops Q l N ((t,.bool false)::m) E):JS P ops Q l N m E:=fun a w ha hw=>by
 cases b with
 |true=>exact ht rfl a w ⟨ha.size,ha.df,fun i v hi=>by
   simp only [look] at hi
   cases hb:Nat.beq t i with
   |true=>rw [hb] at hi;have:t=i:=(by simpa using hb);subst this;exact ha.get _ _ (by rw [h];simpa using hi)
   |false=>rw [hb] at hi;exact ha.get _ _ hi⟩ hw
 |false=>exact hf rfl a w ⟨ha.size,ha.df,fun i v hi=>by
   simp only [look] at hi
   cases hb:Nat.beq t i with
   |true=>rw [hb] at hi;have:t=i:=(by simpa using hb);subst this;exact ha.get _ _ (by rw [h];simpa using hi)
   |false=>rw [hb] at hi;exact ha.get _ _ hi⟩ hw
theorem HQ {t:Nat} {b:Bool} (h:look m t=some (.bool b)) (ht:b=true→JD P ops Q E0 l N ((t,.bool true)::m) E) (hf:b=false→JD P ops Q E0 l N ((t,.bool false)::m) E):JD P ops Q E0 l N m E:=fun hE a w ha hw=>by
 cases b with
 |true=>exact ht rfl hE a w ⟨ha.size,ha.df,fun i v hi=>by
   simp only [look] at hi
   cases hb:Nat.beq t i with
   |true=>rw [hb] at hi;have:t=i:=(by simpa using hb);subst this;exact ha.get _ _ (by rw [h];simpa using hi)
   |false=>rw [hb] at hi;exact ha.get _ _ hi⟩ hw
 |false=>exact hf rfl hE a w ⟨ha.size,ha.df,fun i v hi=>by
   simp only [look] at hi
   cases hb:Nat.beq t i with
   |true=>rw [hb] at hi;have:t=i:=(by simpa using hb);subst this;exact ha.get _ _ (by rw [h];simpa using hi)
   |false=>rw [hb] at hi;exact ha.get _ _ hi⟩ hw
section
variable {d:Option Tmp} {o:Op} {ty:TypeId} {pos:String} {aft:Array Edge} {g t:Nat} {want:Bool}
theorem QJ (hg:(ops[g]?).bind (·.dst)=some t) (hb:look m t=some (.bool want)) (ht:JS P ops Q (⟨d,o,ty,pos,aft,none⟩::l) N m E) (hd:J4 N d=true:=by rfl):JS P ops Q (⟨d,o,ty,pos,aft,some (g,want)⟩::l) N m E :=
 gv hg hb (fun _=>ht) (fun h=>by cases want<;>cases h) hd
theorem Jx (hg:(ops[g]?).bind (·.dst)=some t) (hb:look m t=some (.bool want)) (ht:JD P ops Q E0 (⟨d,o,ty,pos,aft,none⟩::l) N m E) (hd:J4 N d=true:=by rfl):JD P ops Q E0 (⟨d,o,ty,pos,aft,some (g,want)⟩::l) N m E :=
 gz hg hb (fun _=>ht) (fun h=>by cases want<;>cases h) hd
theorem QN {d:Nat} {b:Bool} (hg:(ops[g]?).bind (·.dst)=some t) (hb:look m t=some (.bool b)) (hw:b=!want) (hf:JS P ops Q l N ((d,undef)::m) E) (hd:J4 N (some d)=true:=by rfl):JS P ops Q (⟨some d,o,ty,pos,aft,some (g,want)⟩::l) N m E :=
 gv hg hb (fun h=>by subst h;cases b<;>cases hw) (fun _=>hf) hd
theorem Jl {d:Nat} {b:Bool} (hg:(ops[g]?).bind (·.dst)=some t) (hb:look m t=some (.bool b)) (hw:b=!want) (hf:JD P ops Q E0 l N ((d,undef)::m) E) (hd:J4 N (some d)=true:=by rfl):JD P ops Q E0 (⟨some d,o,ty,pos,aft,some (g,want)⟩::l) N m E :=
 gz hg hb (fun h=>by subst h;cases b<;>cases hw) (fun _=>hf) hd
end
theorem xj {w0:World} {F0:Gs} {bs:List (Nat×Obj)} {G:Gs→Prop} {x y:Code} (m':Sl) (bs':List (Nat×Obj)) (G':Gs→Prop) (h1:J P x (Xs (fun a w=>Jr N m' a∧St ⟨w0,F0,bs',G'⟩ w)) N m ⟨w0,F0,bs,G⟩) (h2:J P y Q N m' ⟨w0,F0,bs',G'⟩):J P (.seq x y) Q N m ⟨w0,F0,bs,G⟩:=fun a w ha hw=>by
 refine wp_seq (wp_mono (h1 a w ha hw) ?_)
 intro e a' w' h
 cases e with
 |normal=>exact h2 a' w' h.1 h.2
 |_=>exact h.elim
theorem ZB {m':Sl} {w0:World} {F0:Gs} {bs bs':List (Nat×Obj)} {G G':Gs→Prop} (hm:Y2 m m') (hb:bs'.Sublist bs) (hg:∀ F,G F→G' F):Fin (Xs (fun a w=>Jr N m' a∧St ⟨w0,F0,bs',G'⟩ w)) .normal N m ⟨w0,F0,bs,G⟩ :=
 fun a w ha hw=>⟨ha.sub hm,hw.imp hb hg⟩
end
theorem Kj {P:Program} {Q:Exit→Act→World→Prop} {N:Nat} {m:Sl} {ι:Type} {w0:World} {F0:Gs} {bs:List (Nat×Obj)} {G:Gs→Prop} {x y:Code} (M:ι→Sl) (B:ι→List (Nat×Obj)) (H:ι→Gs→Prop)
  (h1:J P x (Xs (fun a w=>∃ i,Jr N (M i) a∧St ⟨w0,F0,B i,H i⟩ w)) N m ⟨w0,F0,bs,G⟩) (h2:∀ i,J P y Q N (M i) ⟨w0,F0,B i,H i⟩):J P (.seq x y) Q N m ⟨w0,F0,bs,G⟩:=fun a w ha hw=>by
 refine wp_seq (wp_mono (h1 a w ha hw) ?_)
 intro e a' w' h
 cases e with
 |normal=>obtain ⟨i,h3,h4⟩:=h;exact h2 i a' w' h3 h4
 |_=>exact h.elim
theorem XE {N:Nat} {m:Sl} {ι:Type} {w0:World} {F0:Gs} {bs:List (Nat×Obj)} {G:Gs→Prop} {M:ι→Sl} {B:ι→List (Nat×Obj)} {H:ι→Gs→Prop} (i:ι) (hm:Y2 m (M i)) (hb:(B i).Sublist bs) (hg:∀ F,G F→H i F) :
  Fin (Xs (fun a w=>∃ i,Jr N (M i) a∧St ⟨w0,F0,B i,H i⟩ w)) .normal N m ⟨w0,F0,bs,G⟩:=fun a w ha hw=>⟨i,ha.sub hm,hw.imp hb hg⟩
inductive Ag:Sl→Sl→Prop
 |refl {m:Sl}:Ag m m
 |cons {k:Nat} {v:Value} {l m:Sl} (hk:(look m k).isNone=true) (h:Ag l m):Ag ((k,v)::l) m
theorem Ag.look {l m:Sl} (h:Ag l m) {t:Nat} {u:Value} (hu:YtknegjaeoffnbaaGreatDoor.look m t=some u):YtknegjaeoffnbaaGreatDoor.look l t=some u:=by
 induction h with
 |refl=>exact hu
 |cons hk h ih =>
  rename_i k v l m
  have hne:Nat.beq k t=false:=by
   cases hb:Nat.beq k t with
   |false=>rfl
   |true=>have:k=t:=(by simpa using hb);subst this;rw [hu] at hk;cases hk
  simp only [YtknegjaeoffnbaaGreatDoor.look,hne,cond_false]
  exact ih hu
section
variable {P:Program} {Q:Exit→Act→World→Prop} {N:Nat} {m l:Sl} {w0:World} {F0:Gs} {bs bs1:List (Nat×Obj)} {G G1:Gs→Prop} {x y:Code}
theorem VR (t:Nat) (v:Value) (h1:J P x (Xs (fun a w=>Jr N ((t,v)::m) a∧St ⟨w0,F0,bs,G⟩ w)) N m ⟨w0,F0,bs,G⟩) (h2:J P y Q N ((t,v)::m) ⟨w0,F0,bs,G⟩):J P (.seq x y) Q N m ⟨w0,F0,bs,G⟩:=xj _ _ _ h1 h2
theorem Jo {t:Nat} {v:Value} (he:Ag l m) (ht:look l t=some v) (hb:bs.Sublist bs1) (hg:∀ F,G1 F→G F):Fin (Xs (fun a w=>Jr N ((t,v)::m) a∧St ⟨w0,F0,bs,G⟩ w)) .normal N l ⟨w0,F0,bs1,G1⟩:=fun a w ha hw =>
 ⟨⟨ha.size,ha.df,fun i u hi=>by
  simp only [look] at hi
  cases hb:Nat.beq t i with
  |true=>rw [hb] at hi;have:t=i:=(by simpa using hb);subst this;exact ha.get _ _ (by rw [ht];simpa using hi)
  |false=>rw [hb] at hi;exact ha.get _ _ (he.look (by simpa using hi))⟩,hw.imp hb hg⟩
end
section
variable {P:Program} {N:Nat} {m:Sl} {S:World→Prop} {ty:TypeId} {v:Value}
theorem Qj {c x y:Operand} (hc:ev m c=some (.bool true)) (hx:ev m x=some v) (hy:(ev m y).isSome=true):Qt P N m S (.pick c x y) ty v:=by
 obtain ⟨u,hu⟩:=Option.isSome_iff_exists.1 hy
 exact L3 hc hx hu
theorem Qh {c x y:Operand} (hc:ev m c=some (.bool false)) (hx:(ev m x).isSome=true) (hy:ev m y=some v):Qt P N m S (.pick c x y) ty v:=by
 obtain ⟨u,hu⟩:=Option.isSome_iff_exists.1 hx
 exact L3 hc hu hy
theorem zG {T yT:TypeId} {x y:Operand} {a:Int} (hx:ev m x=some (.int .i64 a)) (hy:ev m y=some (.int .i64 1)) (h:0≤a):Qt P N m S (.binOp .and T x y yT) ty (.int .i64 (a%2)):=fun s w _ _ _ _ ha _=>by
 have e:IntKind.i64.wrap (((BitVec.ofInt 64 a &&& BitVec.ofInt 64 1).toNat:Nat):Int)=a%2:=by
  have h1:(BitVec.ofInt 64 (1:Int)).toNat=1:=rfl
  rw [BitVec.toNat_and,h1,Nat.and_one_is_mod,BitVec.toNat_ofInt]
  have h2:((((a%((2^64:Nat):Int)).toNat%2:Nat)):Int)=a%2:=by
   have h3:(((2^64:Nat):Int))=18446744073709551616:=by decide
   rw [h3];omega
  rw [h2];exact Tp (by omega)
 have h1:BitVec.ofInt 64 (1:Int)=1#64:=rfl
 rw [h1] at e
 simp [execOp,ha.ev hx,ha.ev hy,eqGuard,binOp,Op.intBits,IntKind.bits]
 exact e
theorem L0 {T yT:TypeId} {x y:Operand} {k:IntKind} {a:Int} (hx:ev m x=some (.int .i64 a)) (hy:ev m y=some (.int k 1)):Qt P N m S (.binOp .shr T x y yT) ty (.int .i64 (a / 2)):=fun s w _ _ _ _ ha _=>by
 have e:a.fdiv 2=a / 2:=Int.fdiv_eq_ediv_of_nonneg a (by decide)
 simp [execOp,ha.ev hx,ha.ev hy,eqGuard,binOp,Op.shift,IntKind.bits,e]
theorem Vx {T e yT:TypeId} {x y:Operand} {q:Option Addr} {n c:Nat} (hx:ev m x=some (.slice q n c)) (hy:ev m y=some (.slice none 0 0)) (hT:H2 P T=some e):Qt P N m S (.binOp .eql T x y yT) ty (.bool q.isNone):=fun a w _ _ _ _ ha _=>by
 have:=Lib.run_eql_slice_nil (P:=P) w T e q n c 0 0 (Q7 hT)
 simp [execOp,ha.ev hx,ha.ev hy,eqGuard,this]
theorem Q6 {T:TypeId} {parts:Array (Nat×Operand)} {ps:List (Nat×Value)} {pl:List (Nat×Nat)} {z res:List Value} (hp:Vp m parts.toList=some ps) (hl:Ks P T=some pl) (hz:XI P T=some z) (hb:Dl pl ps z res):Qt P N m S (.build T parts) ty (.agg res.toArray):=fun a w _ _ _ _ ha _=>by
 have hbt:P.built T ps=some res.toArray:=by
  unfold Ks at hl;unfold XI at hz
  unfold Program.built
  cases hi:P.info? T with
  |none=>rw [hi] at hl;cases hl
  |some i =>
   rw [hi] at hl hz
   cases hu:P.underlying T with
   |none=>rw [hu] at hl;cases hl
   |some d =>
    rw [hu] at hl
    cases d with
    |struct fields =>
     dsimp only at hl hz ⊢
     cases hzz:i.zero with
     |none=>rw [hzz] at hz;cases hz
     |some zv =>
      rw [hzz] at hz
      simp only [Option.map_some,Option.some.injEq] at hz
      rw [hl]
      have:=hb.fill
      rw [← hz] at this
      simpa using this
    |_=>cases hl
 have e1:(parts.map fun(i,x)=>(i,a.eval x)).toList=ps:=by simpa using ha.parts hp
 have:=run_build (P:=P) w T (parts.map fun(i,x)=>(i,a.eval x)) _ (by rw [e1];exact hbt)
 simp only [execOp,Sem.run_bind,this,Result.andThen_ok,Sem.run_pure]
end
end
end
section
def extB (n:Nat) (l:Sl):Bool:=(l.take n).all fun kv=>(look (l.drop n) kv.1).isNone
theorem exd (n:Nat) {l m:Sl} (hb:extB n l=true) (hm:l.drop n=m):Ag l m:=by
 subst hm
 unfold extB at hb
 have key:∀ (a m:Sl),(a.all fun kv=>(look m kv.1).isNone)=true→Ag (a++m) m:=by
  intro a m
  induction a with
  |nil=>intro _;exact .refl
  |cons x a ih =>
   intro h
   rw [List.all_cons,Bool.and_eq_true] at h
   exact .cons h.1 (ih h.2)
 have:=key _ _ hb
 rwa [List.take_append_drop] at this
theorem F_r1 [Dr] {P:Program} {N:Nat} {m:Sl} {w0:World} {F0:Gs} {fn:Func} {val:Unit→Value} {fact:Unit→Gs→Prop} {bs:List (Nat×Obj)} {G:Gs→Prop} {t:Tmp} {v:Value} (hrs:fn.results=[ResultVar.tmp t].toArray) (h:look m t=some v) (hv:val ()=v) (hg:∀ F,G F→fact () F):Fin (df:=VA) (bodyPost P fn (DC w0 F0 val fact)) .ret N m ⟨w0,F0,bs,G⟩ :=
 QR () hrs (.tmp h .nil) hv hg
end
section
theorem Qs:YA Tryz.prog 3=some (false,1):=by kernel_rfl
theorem Vj:XI Tryz.prog 3=some [.int .i64 0]:=by kernel_rfl
theorem Db:YJ Tryz.prog 3=some 8:=by kernel_rfl
theorem cx:Py Tryz.prog 3=some .i64:=by kernel_rfl
theorem ko:(Tryz.prog.underlying 3).isSome=true:=by kernel_rfl
theorem V7:YA Tryz.prog 4=some (false,1):=by kernel_rfl
theorem ku:YA Tryz.prog 5=some (false,1):=by kernel_rfl
theorem cK:XI Tryz.prog 5=some [.int .u8 0]:=by kernel_rfl
theorem ue:YJ Tryz.prog 5=some 1:=by kernel_rfl
theorem p5:(Tryz.prog.underlying 5).isSome=true:=by kernel_rfl
theorem Cu:YA Tryz.prog 9=some (false,1):=by kernel_rfl
theorem cJ:XI Tryz.prog 9=some [.string .empty]:=by kernel_rfl
theorem ud:YJ Tryz.prog 9=some 16:=by kernel_rfl
theorem Xn:GU Tryz.prog 9=true:=by kernel_rfl
theorem Jy:YA Tryz.prog 22=some (false,1):=by kernel_rfl
theorem ki:XI Tryz.prog 22=some [.string .empty]:=by kernel_rfl
theorem Js:YA Tryz.prog 24=some (true,2):=by kernel_rfl
theorem Yk:XI Tryz.prog 24=some [.string .empty,.string .empty]:=by kernel_rfl
theorem KI:Ks Tryz.prog 24=some [(0,1),(1,1)]:=by kernel_rfl
theorem Eb:Wj Tryz.prog 24 0=some (0,22):=by kernel_rfl
theorem Ea:Wj Tryz.prog 24 1=some (1,22):=by kernel_rfl
theorem Y1:YA Tryz.prog 26=some (false,1):=by kernel_rfl
theorem H7:XI Tryz.prog 26=some [.int .i64 0]:=by kernel_rfl
theorem Sv:H2 Tryz.prog 42=some 24:=by kernel_rfl
theorem Hz:H2 Tryz.prog 44=some 22:=by kernel_rfl
theorem Gn:YA Tryz.prog 52=some (false,1):=by kernel_rfl
theorem jh:XI Tryz.prog 52=some [.slice none 0 0]:=by kernel_rfl
theorem Xk:H2 Tryz.prog 52=some 122:=by kernel_rfl
theorem DA:H2 Tryz.prog 59=some 52:=by kernel_rfl
theorem Qv:YA Tryz.prog 120=some (false,1):=by kernel_rfl
theorem Qd:H2 Tryz.prog 120=some 3:=by kernel_rfl
theorem XO:YA Tryz.prog 122=some (true,2):=by kernel_rfl
theorem Xf:XI Tryz.prog 122=some [.string .empty,.slice none 0 0]:=by kernel_rfl
theorem yK:YJ Tryz.prog 122=some 40:=by kernel_rfl
theorem ZH:Ks Tryz.prog 122=some [(0,1),(1,1)]:=by kernel_rfl
theorem WQ:Wj Tryz.prog 122 0=some (0,22):=by kernel_rfl
theorem Yp:Wj Tryz.prog 122 1=some (1,120):=by kernel_rfl
theorem KX:YA Tryz.prog 126=some (false,1):=by kernel_rfl
theorem YR:H2 Tryz.prog 126=some 248:=by kernel_rfl
theorem QY:YA Tryz.prog 128=some (true,2):=by kernel_rfl
theorem ZW:XI Tryz.prog 128=some [.int .i64 0,.slice none 0 0]:=by kernel_rfl
theorem zK:Ks Tryz.prog 128=some [(0,1),(1,1)]:=by kernel_rfl
theorem Bi:Wj Tryz.prog 128 0=some (0,3):=by kernel_rfl
theorem Gg:Wj Tryz.prog 128 1=some (1,126):=by kernel_rfl
theorem Qe:YA Tryz.prog 130=some (true,4):=by kernel_rfl
theorem Xp:XI Tryz.prog 130=some [.int .i64 0,.slice none 0 0,.int .i64 0,.slice none 0 0]:=by kernel_rfl
theorem Hl:Ks Tryz.prog 130=some [(0,2),(2,2)]:=by kernel_rfl
theorem ZJ:Wj Tryz.prog 130 0=some (0,128):=by kernel_rfl
theorem ZI:Wj Tryz.prog 130 1=some (2,128):=by kernel_rfl
theorem XG:YA Tryz.prog 138=some (true,8):=by kernel_rfl
theorem Y0:XI Tryz.prog 138=some [.int .i64 0,.slice none 0 0,.int .i64 0,.slice none 0 0,.int .i64 0,.slice none 0 0,.int .i64 0,.slice none 0 0]:=by kernel_rfl
theorem Rj:Ks Tryz.prog 138=some [(0,4),(4,4)]:=by kernel_rfl
theorem Zk:Wj Tryz.prog 138 0=some (0,130):=by kernel_rfl
theorem Z7:Wj Tryz.prog 138 1=some (4,130):=by kernel_rfl
theorem JP:YA Tryz.prog 143=some (true,2):=by kernel_rfl
theorem Yj:XI Tryz.prog 143=some [.bool false,.slice none 0 0]:=by kernel_rfl
theorem OG:Ks Tryz.prog 143=some [(0,1),(1,1)]:=by kernel_rfl
theorem KW:Wj Tryz.prog 143 0=some (0,4):=by kernel_rfl
theorem Z6:Wj Tryz.prog 143 1=some (1,120):=by kernel_rfl
theorem V8:YA Tryz.prog 157=some (false,1):=by kernel_rfl
theorem LP:XI Tryz.prog 157=some [.slice none 0 0]:=by kernel_rfl
theorem yJ:YJ Tryz.prog 157=some 24:=by kernel_rfl
theorem J1:H2 Tryz.prog 157=some 165:=by kernel_rfl
theorem Wy:YA Tryz.prog 160=some (true,25):=by kernel_rfl
theorem Ai:XI Tryz.prog 160=some [.int .i64 0,.int .i64 0,.int .i64 0,.int .i64 0,.int .i64 0,.int .i64 0,.int .i64 0,.int .i64 0,.int .i64 0,.int .i64 0,.int .i64 0,.int .i64 0,.int .i64 0,.int .i64 0,.int .i64 0,.int .i64 0,.int .i64 0,.int .i64 0,.int .i64 0,.int .i64 0,.int .i64 0,.int .i64 0,.int .i64 0,.int .i64 0,.int .i64 0]:=by kernel_rfl
theorem JZ:YA Tryz.prog 165=some (true,5):=by kernel_rfl
theorem Zb:XI Tryz.prog 165=some [.int .i64 0,.slice none 0 0,.int .i64 0,.slice none 0 0,.slice none 0 0]:=by kernel_rfl
theorem Ac:YJ Tryz.prog 165=some 88:=by kernel_rfl
theorem M4:Ks Tryz.prog 165=some [(0,4),(4,1)]:=by kernel_rfl
theorem Zm:Wj Tryz.prog 165 0=some (0,130):=by kernel_rfl
theorem X1:Wj Tryz.prog 165 1=some (4,120):=by kernel_rfl
theorem DH:H2 Tryz.prog 173=some 157:=by kernel_rfl
theorem Wg:H2 Tryz.prog 180=some 130:=by kernel_rfl
theorem Zj:H2 Tryz.prog 213=some 26:=by kernel_rfl
theorem xL:Py Tryz.prog 232=some .u64:=by kernel_rfl
theorem Mg:YA Tryz.prog 248=some (false,1):=by kernel_rfl
theorem kh:XI Tryz.prog 248=some [.int .u64 0]:=by kernel_rfl
theorem RT:H2 Tryz.prog 278=some 9:=by kernel_rfl
theorem DE:YA Tryz.prog 281=some (false,1):=by kernel_rfl
theorem Wx:YA Tryz.prog 282=some (false,1):=by kernel_rfl
theorem Uo:H2 Tryz.prog 282=some 5:=by kernel_rfl
theorem ji:XI Tryz.prog 284=some [.pointer none,.slice none 0 0]:=by kernel_rfl
theorem SA:Wj Tryz.prog 284 0=some (0,281):=by kernel_rfl
theorem E3:Wj Tryz.prog 284 1=some (1,282):=by kernel_rfl
theorem mixed:Tryz.prog.follows .mixedOrders=true:=by kernel_rfl
end
end Go.Proofs.YtknegjaeoffnbaaGreatDoor
namespace Ig
def dv (b:Int):List Int→Int
 |[]=>0
 |x::l=>x+b*dv b l
def DG (b:Int) (l:List Int):Prop:=∀ x∈l,0≤x∧x<b
def NZ (l:List Int):Prop:=l.getLast?≠some 0
@[simp] theorem T0 (b:Int):dv b []=0:=rfl
@[simp] theorem YO (b x:Int) (l:List Int):dv b (x::l)=x+b*dv b l:=rfl
theorem ZL (b:Int) (l m:List Int):dv b (l++m)=dv b l+b^l.length*dv b m:=by
 induction l with
 |nil=>simp
 |cons x l ih=>simp only [List.cons_append,YO,ih,List.length_cons];rw [Int.pow_succ];grind
theorem XS (b x:Int) (l:List Int):dv b (l++[x])=dv b l+b^l.length*x:=by
 rw [ZL];simp
theorem DG.nil (b:Int):DG b []:=by intro x hx;cases hx
theorem DG.cons {b x:Int} {l:List Int} (h0:0≤x) (h1:x<b) (h:DG b l):DG b (x::l):=by
 intro y hy;rcases List.mem_cons.1 hy with rfl | hy
 ·exact⟨h0,h1⟩
 ·exact h y hy
theorem DG.head {b x:Int} {l:List Int} (h:DG b (x::l)):0≤x∧x<b:=h x (by simp)
theorem DG.tail {b x:Int} {l:List Int} (h:DG b (x::l)):DG b l:=fun y hy=>h y (by simp [hy])
theorem DG.append {b:Int} {l m:List Int} (h:DG b l) (k:DG b m):DG b (l++m):=by
 intro x hx;rcases List.mem_append.1 hx with hx | hx
 ·exact h x hx
 ·exact k x hx
theorem DG.left {b:Int} {l m:List Int} (h:DG b (l++m)):DG b l:=fun x hx=>h x (by simp [hx])
theorem DG.right {b:Int} {l m:List Int} (h:DG b (l++m)):DG b m:=fun x hx=>h x (by simp [hx])
theorem DG.take {b:Int} {l:List Int} (h:DG b l) (n:Nat):DG b (l.take n):=fun x hx=>h x (List.mem_of_mem_take hx)
theorem DG.drop {b:Int} {l:List Int} (h:DG b l) (n:Nat):DG b (l.drop n):=fun x hx=>h x (List.mem_of_mem_drop hx)
theorem DG.replicate {b:Int} (hb:0<b) (n:Nat):DG b (List.replicate n 0):=by
 intro x hx;have:=List.eq_of_mem_replicate hx;omega
theorem DG.getD {b:Int} {l:List Int} (hb:0<b) (h:DG b l) (i:Nat):0≤l.getD i 0∧l.getD i 0<b:=by
 by_cases hi:i<l.length
 ·have:l.getD i 0=l[i]:=by simp [List.getD,hi]
  rw [this];exact h _ (List.getElem_mem hi)
 ·have:l.getD i 0=0:=by simp [List.getD,hi]
  omega
theorem DG.set {b:Int} {l:List Int} (h:DG b l) (i:Nat) {x:Int} (h0:0≤x) (h1:x<b):DG b (l.set i x):=by
 intro y hy;rcases List.mem_or_eq_of_mem_set hy with hy | rfl
 ·exact h y hy
 ·exact⟨h0,h1⟩
theorem pow_pos {b:Int} (hb:0<b) (n:Nat):0<b^n:=Int.pow_pos hb
theorem KH {b:Int} (hb:1≤b) {m n:Nat} (h:m≤n):b^m≤b^n:=by
 obtain ⟨k,rfl⟩:=Nat.exists_eq_add_of_le h
 rw [Int.pow_add]
 have h1:=pow_pos (b:=b) (by omega) m
 have h2:=pow_pos (b:=b) (by omega) k
 have h3:b^m*1≤b^m*b^k:=Int.mul_le_mul_of_nonneg_left (by omega) (by omega)
 omega
theorem Qu {b:Int} (hb:0<b):∀ {l:List Int},DG b l→0≤dv b l
 |[],_=>by simp
 |x::l,h=>by
  have:=Qu hb h.tail
  have:=Int.mul_nonneg (Int.le_of_lt hb) this
  have:=h.head;simp;omega
theorem Z1 {b:Int} (hb:0<b):∀ {l:List Int},DG b l→dv b l<b^l.length
 |[],_=>by simp
 |x::l,h=>by
  have h1:=Z1 hb h.tail
  have h2:=h.head
  have h3:b*(dv b l+1)≤b*b^l.length:=Int.mul_le_mul_of_nonneg_left (by omega) (Int.le_of_lt hb)
  rw [List.length_cons,Int.pow_succ,Int.mul_comm (b^l.length) b]
  rw [Int.mul_add] at h3
  simp;omega
theorem NX (b:Int) (n:Nat):dv b (List.replicate n 0)=0:=by
 induction n with
 |zero=>rfl
 |succ n ih=>simp [List.replicate_succ,ih]
theorem KM (b:Int) (l:List Int) (n:Nat) (h:n≤l.length):dv b l=dv b (l.take n)+b^n*dv b (l.drop n):=by
 have:=ZL b (l.take n) (l.drop n)
 rw [List.take_append_drop,List.length_take,Nat.min_eq_left h] at this;exact this
theorem Vu {α:Type} (l:List α) (n:Nat) (h:n<l.length):l.take (n+1)=l.take n++[l[n]]:=by
 rw [List.take_succ_eq_append_getElem h]
theorem WR (b:Int) (l:List Int) (n:Nat) (h:n<l.length):dv b (l.take (n+1))=dv b (l.take n)+b^n*l[n]:=by
 rw [Vu l n h,XS,List.length_take,Nat.min_eq_left (by omega)]
theorem Bk {b:Int} (hb:0<b) {l:List Int} (h:DG b l) (hn:NZ l) (hl:l≠[]):b^(l.length - 1)≤dv b l:=by
 obtain ⟨m,x,rfl⟩:∃ m x,l=m++[x]:=⟨l.dropLast,l.getLast hl,(List.dropLast_concat_getLast hl).symm⟩
 rw [XS]
 have h1:x≠0:=by intro e;subst e;exact hn (by simp)
 have h2:=h x (by simp)
 have h3:=Qu hb h.left
 have h4:=pow_pos hb m.length
 have h5:b^m.length*1≤b^m.length*x:=Int.mul_le_mul_of_nonneg_left (by omega) (by omega)
 simp;omega
def Q2 (l:List Int):List Int:=(l.reverse.dropWhile (·==0)).reverse
theorem YM (l:List Int):Q2 (l++[0])=Q2 l:=by simp [Q2]
theorem VF (l:List Int) {x:Int} (h:x≠0):Q2 (l++[x])=l++[x]:=by simp [Q2,h]
theorem PO:Q2 []=[]:=rfl
theorem Mq (l:List Int):l=[]∨∃ m x,l=m++[x]:=by
 by_cases hl:l=[]
 ·exact .inl hl
 ·exact .inr ⟨l.dropLast,l.getLast hl,(List.dropLast_concat_getLast hl).symm⟩
theorem Su {P:List Int→Prop} (h0:P []) (h1:∀ l x,P l→P (l++[x])) (l:List Int):P l:=by
 have:∀ m:List Int,P m.reverse:=by
  intro m;induction m with
  |nil=>exact h0
  |cons x m ih=>rw [List.reverse_cons];exact h1 _ _ ih
 simpa using this l.reverse
theorem Mi (l:List Int):∃ n,l=Q2 l++List.replicate n 0:=by
 induction l using Su with
 |h0=>exact⟨0,rfl⟩
 |h1 l x ih =>
  by_cases hx:x=0
  ·subst hx;obtain ⟨n,hn⟩:=ih
   refine⟨n+1,?_⟩
   rw [YM,List.replicate_succ',← List.append_assoc,← hn]
  ·exact⟨0,by rw [VF l hx];simp⟩
theorem He (l:List Int):Q2 l=l.take (Q2 l).length:=by
 obtain ⟨n,hn⟩:=Mi l
 have:l.take (Q2 l).length=(Q2 l++List.replicate n 0).take (Q2 l).length:=by rw [← hn]
 rw [this];simp
theorem Xy (l:List Int):(Q2 l).length≤l.length:=by
 obtain ⟨n,hn⟩:=Mi l
 have:=congrArg List.length hn;simp at this;omega
theorem XB (b:Int) (l:List Int):dv b (Q2 l)=dv b l:=by
 obtain ⟨n,hn⟩:=Mi l
 have:dv b l=dv b (Q2 l++List.replicate n 0):=by rw [← hn]
 rw [this,ZL,NX];simp
theorem Xh (l:List Int):NZ (Q2 l):=by
 induction l using Su with
 |h0=>simp [PO,NZ]
 |h1 l x ih =>
  by_cases hx:x=0
  ·subst hx;rw [YM];exact ih
  ·rw [VF l hx];simp [NZ,hx]
theorem DG.Q2 {b:Int} {l:List Int} (h:DG b l):DG b (Q2 l):=by rw [He];exact h.take _
theorem jn {l:List Int} (h:NZ l):Q2 l=l:=by
 rcases Mq l with rfl | ⟨m,x,rfl⟩
 ·rfl
 ·exact VF m (by intro e;subst e;exact h (by simp))
theorem NY {b:Int} (hb:0<b):∀ {l m:List Int},DG b l→DG b m→l.length=m.length→dv b l=dv b m→l=m
 |[],[],_,_,_,_=>rfl
 |x::l,y::m,h,k,hl,e=>by
  have h1:=h.head;have h2:=k.head
  simp only [YO] at e
  have e1:x=y:=by
   have a1:(x+b*dv b l)%b=x:=by rw [Int.add_mul_emod_self_left];exact Int.emod_eq_of_lt h1.1 h1.2
   have a2:(y+b*dv b m)%b=y:=by rw [Int.add_mul_emod_self_left];exact Int.emod_eq_of_lt h2.1 h2.2
   rw [← a1,← a2,e]
  subst e1
  have e2:b*dv b l=b*dv b m:=by omega
  have e3:=Int.eq_of_mul_eq_mul_left (by omega) e2
  rw [NY hb h.tail k.tail (by simpa using hl) e3]
theorem XZ {b:Int} (hb:1<b) {l m:List Int} (h:DG b l) (k:DG b m) (km:NZ m) (hl:l.length<m.length):dv b l<dv b m:=by
 have h1:=Z1 (by omega) h
 have h2:=Bk (by omega) k km (by intro e;subst e;simp at hl)
 have h3:b^l.length≤b^(m.length - 1):=KH (by omega) (by omega)
 omega
theorem jG {b:Int} (hb:1<b) {l m:List Int} (h:DG b l) (k:DG b m) (hn:NZ l) (kn:NZ m) (e:dv b l=dv b m):l=m:=by
 refine NY (by omega) h k ?_ e
 rcases Nat.lt_trichotomy l.length m.length with g | g | g
 ·have:=XZ hb h k kn g;omega
 ·exact g
 ·have:=XZ hb k h hn g;omega
theorem Yq {b:Int} (hb:1<b) {l:List Int} (h:DG b l) (hn:NZ l):dv b l=0↔l=[]:=by
 constructor
 ·intro e;exact jG hb h (DG.nil b) hn (by simp [NZ]) (by simpa using e)
 ·rintro rfl;rfl
def yH:List Int→List Int→Int
 |x::l,y::m=>if x=y then yH l m else if x<y then -1 else 1
 |_,_=>0
def Nr (x:Int):Int:=if x<0 then -1 else if x=0 then 0 else 1
def ZU (x y:Int):Int:=if x<y then -1 else if x=y then 0 else 1
theorem O7 (x y:Int):ZU x y=Nr (x - y):=by unfold ZU Nr;split<;>split<;>(try split)<;>omega
theorem AU {b:Int} (hb:0<b) {l m:List Int} {x y:Int} (h:DG b l) (k:DG b m) (hl:l.length=m.length) (hxy:x<y) :
  dv b (l++[x])<dv b (m++[y]):=by
 rw [XS,XS,hl]
 have h1:=Z1 hb h;have h2:=Qu hb k
 rw [hl] at h1
 have h3:b^m.length*(x+1)≤b^m.length*y:=Int.mul_le_mul_of_nonneg_left (by omega) (Int.le_of_lt (pow_pos hb _))
 rw [Int.mul_add] at h3;omega
theorem SH {b:Int} (hb:0<b) {l m:List Int} (h:DG b l) (k:DG b m) (hl:l.length=m.length) (n:Nat) (hn:n<l.length)
  (hs:l.drop (n+1)=m.drop (n+1)) (hxy:l[n]<m[n]'(by omega)):dv b l<dv b m:=by
 rw [KM b l (n+1) (by omega),KM b m (n+1) (by omega),hs,Vu l n hn,Vu m n (by omega)]
 have:=AU hb (h.take n) (k.take n) (by simp;omega) hxy
 omega
end Ig
namespace Go.Proofs.YtknegjaeoffnbaaGreatDoor
section
open Go.RowKit Ig
def W:Int:=18446744073709551616
theorem WV:W=18446744073709551616:=rfl
theorem Jj:0<W:=by decide
theorem Ej:1<W:=by decide
def YT (w:World) (s:Int) (q:Option Addr) (n cap:Nat) (z:Int):Prop :=
 (q=none∧n=0∧cap=0∧s=z∧-9223372036854775808≤z∧z≤9223372036854775807) ∨
 ∃ (b off:Nat) (l:List Int),q=some ⟨b,off,none⟩∧n=l.length∧l.length≤cap∧(cap:Int)≤9223372036854775807∧Cells w q JY l ∧
  DG W l∧NZ l∧l≠[]∧(s=1∨s = -1)∧z=s*dv W l∧9223372036854775808≤dv W l
def XQ (w:World) (v:Value) (z:Int):Prop:=∃ s q n cap,v = .agg #[.int .i64 s,.slice q n cap]∧YT w s q n cap z
theorem YT.ext {w w':World} (h:Ext w w') {s:Int} {q:Option Addr} {n cap:Nat} {z:Int} (hv:YT w s q n cap z):YT w' s q n cap z:=by
 rcases hv with hv | ⟨b,off,l,h1,h2,h3,h4,h5,h6⟩
 ·exact .inl hv
 ·exact .inr ⟨b,off,l,h1,h2,h3,h4,h5.ext h,h6⟩
theorem XQ.ext {w w':World} (h:Ext w w') {v:Value} {z:Int} (hv:XQ w v z):XQ w' v z:=by
 obtain ⟨s,q,n,cap,rfl,hp⟩:=hv;exact⟨s,q,n,cap,rfl,hp.ext h⟩
theorem XQ.small (w:World) {z:Int} (h0 : -9223372036854775808≤z) (h1:z≤9223372036854775807):XQ w (.agg #[.int .i64 z,.slice none 0 0]) z :=
 ⟨z,none,0,0,rfl,.inl ⟨rfl,rfl,rfl,rfl,h0,h1⟩⟩
def ZG (w:World) (R:Value→World→Prop) (e:Ending) (w':World):Prop:=∃ v,e = .returned v∧R v w'∧Ext w w'
def Je (z:Int):Int:=if z<0 then -z else z
theorem Bc {z:Int} (h:z<0):Je z = -z:=if_pos h
theorem V3 {z:Int} (h:0≤z):Je z=z:=if_neg (by omega)
theorem KC (z:Int):Je z=z.natAbs:=by unfold Je;split<;>omega
def sg (neg:Bool) (n:Int):Int:=if neg then -n else n
theorem Oe (neg:Bool) (q:Option Addr) (cap:Nat) (w:World) :
  Calls Tryz.prog 235 #[.bool neg,.slice q 0 cap] w fun e w'=>ZG w (fun v w'=>XQ w' v 0) e w':=by
 go_enter Tryz.func235,Tryz.ntmps235
 go_wp2
 exact bodyPost_ret (v:=.agg #[.int .i64 0,.slice none 0 0]) (by simp [results,Tryz.results235,go_sem]) rfl ⟨_,rfl,XQ.small _ (by decide) (by decide),(Ext.refl _).alloc _⟩
theorem Od (neg:Bool) (b off cap:Nat) (x:Int) (w:World) (hc:w.cell? ⟨b,off,none⟩=some (.int .u64 x)) (h0:0≤x) (h1:x≤9223372036854775807) (hb:b<w.heap.size) :
  Calls Tryz.prog 235 #[.bool neg,.slice (some ⟨b,off,none⟩) 1 cap] w fun e w'=>ZG w (fun v w'=>XQ w' v (sg neg x)) e w':=by
 cases neg
 ·go_enter Tryz.func235,Tryz.ntmps235
  go_wp2
  exact bodyPost_ret (v:=.agg #[.int .i64 x,.slice none 0 0]) (by simp [results,Tryz.results235,go_sem]) rfl ⟨_,rfl,XQ.small _ (by omega) (by omega),(Ext.refl _).alloc _⟩
 ·go_enter Tryz.func235,Tryz.ntmps235
  go_wp2
  exact bodyPost_ret (v:=.agg #[.int .i64 (-x),.slice none 0 0]) (by simp [results,Tryz.results235,go_sem]) rfl ⟨_,rfl,XQ.small _ (by omega) (by omega),(Ext.refl _).alloc _⟩
theorem IE (neg:Bool) (b off cap:Nat) (x:Int) (w:World) (hc:w.cell? ⟨b,off,none⟩=some (.int .u64 x)) (h1:9223372036854775808≤x) (hb:b<w.heap.size) :
  Calls Tryz.prog 235 #[.bool neg,.slice (some ⟨b,off,none⟩) 1 cap] w fun e w'=>e = .returned (.agg #[.int .i64 (if neg then -1 else 1),.slice (some ⟨b,off,none⟩) 1 cap])∧Ext w w':=by
 cases neg
 ·go_enter Tryz.func235,Tryz.ntmps235
  go_wp2
  exact bodyPost_ret (v:=.agg #[.int .i64 1,.slice (some ⟨b,off,none⟩) 1 cap]) (by simp [results,Tryz.results235,go_sem]) rfl ⟨rfl,(Ext.refl _).alloc _⟩
 ·go_enter Tryz.func235,Tryz.ntmps235
  go_wp2
  exact bodyPost_ret (v:=.agg #[.int .i64 (-1),.slice (some ⟨b,off,none⟩) 1 cap]) (by simp [results,Tryz.results235,go_sem]) rfl ⟨rfl,(Ext.refl _).alloc _⟩
theorem ID (neg:Bool) (q:Option Addr) (n cap:Nat) (w:World) (hn:2≤n) :
  Calls Tryz.prog 235 #[.bool neg,.slice q n cap] w fun e w'=>e = .returned (.agg #[.int .i64 (if neg then -1 else 1),.slice q n cap])∧Ext w w':=by
 cases neg
 ·go_enter Tryz.func235,Tryz.ntmps235
  go_wp2
  exact bodyPost_ret (v:=.agg #[.int .i64 1,.slice q n cap]) (by simp [results,Tryz.results235,go_sem]) rfl ⟨rfl,(Ext.refl _).alloc _⟩
 ·go_enter Tryz.func235,Tryz.ntmps235
  go_wp2
  exact bodyPost_ret (v:=.agg #[.int .i64 (-1),.slice q n cap]) (by simp [results,Tryz.results235,go_sem]) rfl ⟨rfl,(Ext.refl _).alloc _⟩
theorem VM (neg:Bool) (v:Value) (l:List Int) (w:World) (hs:SL w v JY l) (hd:DG W l) (hn:NZ l) :
  Calls Tryz.prog 235 #[.bool neg,v] w fun e w'=>ZG w (fun v w'=>XQ w' v (sg neg (dv W l))) e w':=by
 obtain ⟨q,cap,rfl,h2,h3,h4⟩:=hs
 match l,hd,hn,h2,h4 with
 |[],hd,hn,h2,h4=>exact(Oe neg q cap w).mono fun e w' h=>by cases neg<;>exact h
 |[x],hd,hn,h2,h4 =>
  obtain ⟨b,off,rfl,hb,hc⟩:=h4 0 (by simp)
  have hx:=hd.head
  have e1:dv W [x]=x:=by simp
  rw [e1]
  by_cases hx1:x≤9223372036854775807
  ·exact Od neg b off cap x w hc hx.1 hx1 hb.lt
  ·refine(IE neg b off cap x w hc (by omega) hb.lt).mono fun e w' ⟨h,k⟩=>⟨_,h,⟨_,_,_,_,rfl,.inr ⟨b,off,[x],rfl,rfl,h2,h3,h4.ext k,hd,hn,by simp,?_,?_,by rw [e1];omega⟩⟩,k⟩
   ·cases neg<;>simp
   ·cases neg<;>simp [sg]
 |x::y::l,hd,hn,h2,h4 =>
  obtain ⟨b,off,rfl,hb,hc⟩:=h4 0 (by simp)
  refine(ID neg _ _ cap w (by simp)).mono fun e w' ⟨h,k⟩=>⟨_,h,⟨_,_,_,_,rfl,.inr ⟨b,off,x::y::l,rfl,rfl,h2,h3,h4.ext k,hd,hn,by simp,?_,?_,?_⟩⟩,k⟩
  ·cases neg<;>simp
  ·cases neg<;>simp [sg]
  ·have:=Bk Jj hd hn (by simp)
   have h6:=KH (b:=W) (by decide) (m:=1) (n:=(x::y::l).length - 1) (by simp)
   have h7:W^1=18446744073709551616:=by decide
   omega
theorem F4 (s:Int) (b off n cap:Nat) (w:World) :
  Calls Tryz.prog 234 #[.agg #[.int .i64 s,.slice (some ⟨b,off,none⟩) n cap]] w fun e w'=>e = .returned (.tuple #[.bool (decide (s<0)),.slice (some ⟨b,off,none⟩) n cap])∧Ext w w':=by
 have hn:=fun w=>run_neq_slice_nil_any (P:=Tryz.prog) w 126 248 (some ⟨b,off,none⟩) n cap 0 0 Tryz.underlying126
 go_enter Tryz.func234,Tryz.ntmps234
 go_wp2
 go_quiet (fail)
 go_wp2
 go_ret2
 exact⟨rfl,((Ext.refl _).alloc _).drewN _⟩
theorem U7 (w:World) :
  Calls Tryz.prog 234 #[.agg #[.int .i64 0,.slice none 0 0]] w fun e w'=>e = .returned (.tuple #[.bool false,.slice none 0 0])∧Ext w w':=by
 have hn:=fun w=>run_neq_slice_nil_any (P:=Tryz.prog) w 126 248 none 0 0 0 0 Tryz.underlying126
 go_enter Tryz.func234,Tryz.ntmps234
 go_wp2
 go_ret2
 exact⟨rfl,(Ext.refl _).alloc _⟩
theorem Fc (n:Int) (h0 : -9223372036854775808≤n) (h:n<0):IntKind.u64.wrap (wrap64 (-n))=Je n:=by
 rw [Bc h]
 have e:IntKind.u64.wrap (wrap64 (-n))=(wrap64 (-n))%18446744073709551616:=by simp [IntKind.wrap,IntKind.signed,IntKind.bits]
 rw [e];unfold wrap64;omega
theorem W1 (n:Int) (w:World) (h0 : -9223372036854775808≤n) (h1:n≤9223372036854775807) :
  Calls Tryz.prog 245 #[.int .i64 n] w fun e w'=>e = .returned (.int .u64 (Je n))∧w=w':=by
 by_cases h:n<0
 ·have H:=Lib.hid (Fc n h0 h)
  go_enter Tryz.func245,Tryz.ntmps245
  go_wp2
  go_ret
  exact⟨congrArg (fun x=>Ending.returned (.int .u64 x)) H.out,rfl⟩
 ·have H:=Lib.hid (V3 (z:=n) (by omega))
  go_enter Tryz.func245,Tryz.ntmps245
  go_wp2
  go_ret
  exact⟨congrArg (fun x=>Ending.returned (.int .u64 x)) H.out.symm,rfl⟩
theorem TI (z:Int) (w:World) (hz:(z==0)=false) (h0 : -9223372036854775808≤z) (h1:z≤9223372036854775807) :
  Calls Tryz.prog 234 #[.agg #[.int .i64 z,.slice none 0 0]] w fun e w'=>(∃ b,e = .returned (.tuple #[.bool (decide (z<0)),.slice (some ⟨b,0,none⟩) 1 1])∧YD w' b 248 JY [Je z])∧Ext w w':=by
 have hn:=fun w=>run_neq_slice_nil_any (P:=Tryz.prog) w 126 248 none 0 0 0 0 Tryz.underlying126
 go_enter Tryz.func234,Tryz.ntmps234
 go_wp2
 go_region_held3 (fun w'=>w'.cell? ⟨w.heap.size,0,none⟩=some (.int .i64 z)) (go_keep) (first | (go_at_call 245;refine(W1 _ _ h0 h1).mono ?_;rintro e w' ⟨rfl,rfl⟩))
 go_wp2
 go_ret2
 exact⟨⟨_,rfl,(YD.uU _ _ 248 JY [Je z] _ rfl (by simp)).drew⟩,(((Ext.refl _).alloc _).alloc _).drew⟩
theorem YX (v:Value) (z:Int) (w:World) (hv:XQ w v z) :
  Calls Tryz.prog 234 #[v] w fun e w'=>ZG w (fun r w'=>∃ p l,r = .tuple #[.bool (decide (z<0)),p]∧SL w' p JY l∧DG W l∧NZ l∧dv W l=Je z) e w':=by
 obtain ⟨s,q,n,cap,rfl,hp⟩:=hv
 rcases hp with ⟨rfl,rfl,rfl,rfl,h0,h1⟩ | ⟨b,off,l,rfl,rfl,h3,h4,h5,h6,h7,h8,h9,h10,h11⟩
 ·by_cases hz:s=0
  ·subst hz
   exact(U7 w).mono fun e w' ⟨h,k⟩=>⟨_,h,⟨_,[],rfl,SL.nil _ _,DG.nil _,by simp [NZ],rfl⟩,k⟩
  ·refine(TI s w (by simpa using hz) h0 h1).mono fun e w' ⟨⟨b,h,hb⟩,k⟩=>⟨_,h,⟨_,[Je s],rfl,SL.W8 hb 1 (Nat.le_refl _) (by simp),?_,?_,by simp⟩,k⟩
   ·have:Je s=s.natAbs:=KC s
    have:=WV
    exact DG.cons (by omega) (by omega) (DG.nil _)
   ·have:Je s=s.natAbs:=KC s
    simp [NZ];omega
 ·have hz:decide (s<0)=decide (z<0)∧dv W l=Je z:=by
   rcases h9 with rfl | rfl
   ·rw [Int.one_mul] at h10;rw [V3 (by omega)];exact⟨by simp;omega,h10.symm⟩
   ·have:z = -dv W l:=by rw [h10];omega
    rw [Bc (by omega)];exact⟨by simp;omega,by omega⟩
  refine(F4 s b off _ cap w).mono fun e w' ⟨h,k⟩=>⟨_,h,⟨_,l,by rw [hz.1],⟨_,_,rfl,h3,h4,h5.ext k⟩,h6,h7,hz.2⟩,k⟩
theorem NQ {l:List Int} {k:Nat} (h:k<l.length):l.getD k default=l[k]:=by simp [List.getD,h]
theorem KD (v:Value) (l:List Int) (w:World) (hs:SL w v JY l) :
  Calls Tryz.prog 283 #[v] w fun e w'=>(∃ v',e = .returned v'∧SL w v' JY (Q2 l))∧w=w':=by
 obtain ⟨q,cap,rfl,hcap,hmax,hc⟩:=hs
 have HC:=Lib.hid hc;clear hc
 go_enter Tryz.func283,Tryz.ntmps283
 go_wp2
 go_loop [3] (fun n=>∃ k:Nat,k≤l.length∧n = .int .i64 k∧Q2 l=Q2 (l.take k)) (fun n=>(intOf n).toNat)
 case atStart=>exact⟨l.length,Nat.le_refl _,rfl,by rw [List.take_length]⟩
 case round =>
  obtain ⟨k,hk,rfl,he⟩:=hrel
  have HE:=Lib.hid he;clear he
  cases k with
  |zero =>
   go_wp2
   go_ret
   exact⟨⟨_,rfl,by rw [HE.out];exact⟨q,cap,rfl,by simp [Q2],hmax,fun i hi=>by simp [Q2] at hi⟩⟩,rfl⟩
  |succ k =>
   obtain ⟨b,off,rfl,hb,hc⟩:=HC.out k (by omega)
   simp only [JY] at hc
   have HT:=Lib.hid (Vu l k (by omega))
   rw [NQ (by omega)] at hc
   generalize hx:l[k]=x at hc
   have HX:=Lib.hid hx;clear hx
   by_cases h0:x=0
   ·have h1:(x==0)=true:=by simp [h0]
    go_wp2
    go_round
    case rel=>exact⟨k,by omega,rfl,by rw [HE.out,HT.out,HX.out,h0,YM]⟩
    case measure=>simp [intOf]
   ·have h1:(x==0)=false:=by simp [h0]
    go_wp2
    go_ret
    have e1:Q2 l=l.take (k+1):=by rw [HE.out,HT.out,HX.out,VF _ h0,← HX.out,← HT.out]
    exact⟨⟨_,rfl,by rw [e1];exact⟨_,cap,by rw [List.length_take,Nat.min_eq_left (by omega)];rfl,by rw [List.length_take];omega,hmax,HC.out.take _⟩⟩,rfl⟩
end
section
open Go.RowKit Ig
def sz (z:Int):Nat:=if z=0 then 0 else z.natAbs.log2+1
theorem G4 (z:Int):z.natAbs<2^sz z:=by
 unfold sz;split
 ·simp [*]
 ·exact Nat.lt_log2_self
theorem Xv (z:Int) (k:Nat):sz z≤k↔z.natAbs<2^k:=by
 constructor
 ·intro h;exact Nat.lt_of_lt_of_le (G4 z) (Nat.pow_le_pow_right (by decide) h)
 ·intro h;unfold sz;split
  ·exact Nat.zero_le _
  ·rename_i hz
   have:z.natAbs.log2<k:=(Nat.log2_lt (by omega)).2 h
   omega
theorem Vo (a b:Int):sz (a*b)≤sz a+sz b:=by
 rw [Xv,Int.natAbs_mul,Nat.pow_add]
 have h1:=G4 a;have h2:=G4 b
 calc a.natAbs*b.natAbs≤a.natAbs*2^sz b:=Nat.mul_le_mul_left _ (Nat.le_of_lt h2)
  _<2^sz a*2^sz b:=Nat.mul_lt_mul_of_pos_right h1 (Nat.pow_pos (by decide))
theorem Uk (a b:Int):sz (a+b)≤max (sz a) (sz b)+1:=by
 rw [Xv,Nat.pow_succ]
 have h1:=(Xv a (max (sz a) (sz b))).1 (Nat.le_max_left _ _)
 have h2:=(Xv b (max (sz a) (sz b))).1 (Nat.le_max_right _ _)
 omega
theorem KF {a b:Int} (h:a.natAbs≤b.natAbs):sz a≤sz b:=by
 rw [Xv];exact Nat.lt_of_le_of_lt h (G4 b)
theorem YQ (a:Int):sz (-a)=sz a:=by unfold sz;simp
theorem Er (a:Int):sz (Je a)=sz a:=by unfold Je;split<;>simp [YQ]
theorem zY {l:List Int} (h:DG W l) (hn:NZ l):l.length≤sz (dv W l):=by
 by_cases hl:l=[]
 ·subst hl;simp
 ·have h1:=Bk Jj h hn hl
  have h2:=G4 (dv W l)
  have h0:=Qu Jj h
  have h3:(2:Int)^(l.length - 1)≤W^(l.length - 1):=by
   generalize l.length - 1=k
   induction k with
   |zero=>simp
   |succ k ih=>rw [Int.pow_succ,Int.pow_succ];exact Int.mul_le_mul ih (by decide) (by decide) (Int.le_of_lt (pow_pos Jj k))
  have h4:(2:Int)^(l.length - 1)<2^sz (dv W l):=by
   have:((dv W l).natAbs:Int)<((2^sz (dv W l):Nat):Int):=by omega
   rw [Int.natCast_pow] at this
   have e:((dv W l).natAbs:Int)=dv W l:=by omega
   rw [e] at this
   have e2:((2:Nat):Int)=2:=rfl
   rw [e2] at this;omega
  have h5:2^(l.length - 1)<2^sz (dv W l):=by
   have:((2^(l.length - 1):Nat):Int)<((2^sz (dv W l):Nat):Int):=by
    rw [Int.natCast_pow,Int.natCast_pow];exact h4
   omega
  have:=(Nat.pow_lt_pow_iff_right (by decide:1<2)).1 h5
  omega
theorem Sx (v:Value) (z:Int) (w:World) (hv:XQ w v z) :
  Calls Tryz.prog 171 #[v] w fun e w'=>e = .returned (.int .i64 (Nr z))∧Ext w w':=by
 obtain ⟨s,q,n,cap,rfl,hp⟩:=hv
 have hs:Nr z=if s<0 then -1 else if s=0 then 0 else 1:=by
  rcases hp with ⟨_,_,_,rfl,_⟩ | ⟨b,off,l,_,_,_,_,_,_,_,_,h,hz,hb⟩
  ·rfl
  ·unfold Nr;rcases h with rfl | rfl
   ·rw [Int.one_mul] at hz;rw [if_neg (by omega),if_neg (by omega)];rfl
   ·rw [if_pos (by omega)];rfl
 have HS:=Lib.hid hs
 clear hs hp
 rcases Int.lt_trichotomy s 0 with g | g | g
 all_goals
  go_enter Tryz.func171,Tryz.ntmps171
  go_wp2
  go_ret
  exact⟨by rw [HS.out];simp [g]<;>omega,(Ext.refl _).alloc _⟩
theorem YT.isNone {w:World} {s:Int} {q:Option Addr} {n cap:Nat} {z:Int} (h:YT w s q n cap z) :
  (q=none∧n=0∧cap=0∧s=z∧-9223372036854775808≤z∧z≤9223372036854775807)∨(∃ b off,q=some ⟨b,off,none⟩):=by
 rcases h with h | ⟨b,off,_,h,_⟩
 ·exact .inl h
 ·exact .inr ⟨b,off,h⟩
abbrev IZ:Array Value:=#[.int .i64 0,.slice none 0 0]
theorem F9 (s:Int) (w:World) (h0 : -9223372036854775807≤s) (h1:s≤9223372036854775807) :
  Calls Tryz.prog 172 #[.agg #[.int .i64 s,.slice none 0 0]] w fun e w'=>e = .returned (.agg #[.int .i64 (-s),.slice none 0 0])∧Ext w w':=by
 have hn:=fun w=>Lib.run_eql_slice_nil (P:=Tryz.prog) w 126 248 none 0 0 0 0 Tryz.underlying126
 have hm':(s != -9223372036854775808)=true:=by simp;omega
 go_enter Tryz.func172,Tryz.ntmps172
 go_wp2
 exact bodyPost_ret (v:=.agg #[.int .i64 (-s),.slice none 0 0]) (by simp [results,Tryz.results172,go_sem]) rfl ⟨rfl,((Ext.refl _).alloc _).alloc _⟩
theorem YT.kp {w w':World} (h:Kp w w') {s:Int} {q:Option Addr} {n cap:Nat} {z:Int} (hv:YT w s q n cap z):YT w' s q n cap z:=by
 rcases hv with hv | ⟨b,off,l,h1,h2,h3,h4,h5,h6⟩
 ·exact .inl hv
 ·exact .inr ⟨b,off,l,h1,h2,h3,h4,h5.kp h (by decide),h6⟩
theorem TO:¬ DT 128:=by decide
theorem Bx.Gt {w:World} {R T:Nat} {c0 c1:Value} (h:Bx w R T [c0,c1]) (v0 v1:Value):Bx ((w.setCell ⟨R,0,none⟩ v0).setCell ⟨R,1,none⟩ v1) R T [v0,v1]:=by
 have:=(h.set 0 v0).set 1 v1;simpa using this
theorem Kp.Gt {a w:World} (h:Kp a w) {R T:Nat} (hT:KS w R T) (hD:¬ DT T) (v0 v1:Value):Kp a ((w.setCell ⟨R,0,none⟩ v0).setCell ⟨R,1,none⟩ v1) :=
 (h.set hT hD 0 v0).set (hT.set _ _ _) hD 1 v1
theorem Pn (s:Int) (q:Option Addr) (n cap:Nat) (z:Int) (w:World) (hv:YT w s q n cap z) (hq:q.isNone=false∨(s != -9223372036854775808)=false) :
  Calls Tryz.prog 172 #[.agg #[.int .i64 s,.slice q n cap]] w fun e w'=>ZG w (fun v w'=>XQ w' v (-z)) e w':=by
 have hn:=fun w=>Lib.run_eql_slice_nil (P:=Tryz.prog) w 126 248 q n cap 0 0 Tryz.underlying126
 have hz0:Hid (sg (!decide (z<0)) (Je z) = -z):=by
  show sg (!decide (z<0)) (Je z) = -z
  unfold sg Je;by_cases h:z<0<;>simp [h]
 have HV:Hid (XQ w (.agg #[.int .i64 s,.slice q n cap]) z):=⟨_,_,_,_,rfl,hv⟩
 have hB:Bx ((w.alloc (.cells #[.int .i64 s,.slice q n cap] 128)).alloc (.cells IZ 128)) (w.heap.size+1) 128 IZ.toList:=by
  have:=Bx.new (w.alloc (.cells #[.int .i64 s,.slice q n cap] 128)) 128 IZ
  simpa using this
 have HB:=Lib.hid hB
 clear hB hv
 cases hqn:q.isNone
 all_goals
  rw [hqn] at hq
  simp only [reduceCtorEq,true_or,false_or] at hq
  rw [hqn] at hn
  clear hqn
  go_enter Tryz.func172,Tryz.ntmps172
  go_wp2_with fail
  refine(YX _ z _ (HV.out.ext (((Ext.refl _).alloc _).alloc _))).mono ?_
  rintro e w1 ⟨_,rfl,⟨p,l,rfl,hsl,hd,hnz,hval⟩,hx⟩
  go_wp2_with fail
  refine(VM _ p l _ hsl hd hnz).mono ?_
  rw [hval,hz0.out]
  rintro e w2 ⟨_,rfl,⟨s',q',n',cap',rfl,hp'⟩,hx2⟩
  have hB2:=(HB.out.ext hx).ext hx2
  obtain ⟨c0,c1,f0,f1⟩:=hB2.two
  have HB2:=Lib.hid hB2
  clear hval hB2
  go_wp2
  refine bodyPost_ret (v:=.agg #[.int .i64 s',.slice q' n' cap']) (by simp [results,Tryz.results172,go_sem,c0,c1]) rfl ⟨_,rfl,⟨_,_,_,_,rfl,hp'.kp ((Kp.refl _).Gt HB2.out.NL TO _ _)⟩,?_⟩
  exact((((((Ext.refl w).alloc _).alloc _).trans hx).trans hx2).Xl (by simp) _).Xl (by simp) _
theorem Rs (v:Value) (z:Int) (w:World) (hv:XQ w v z) :
  Calls Tryz.prog 172 #[v] w fun e w'=>ZG w (fun v w'=>XQ w' v (-z)) e w':=by
 obtain ⟨s,q,n,cap,rfl,hp⟩:=hv
 rcases hp.isNone with ⟨rfl,rfl,rfl,rfl,h0,h1⟩ | ⟨b,off,rfl⟩
 ·by_cases hm:s = -9223372036854775808
  ·exact Pn _ _ _ _ _ w hp (.inr (by simpa using hm))
  ·exact(F9 s w (by omega) h1).mono fun e w' ⟨he,hx⟩=>⟨_,he,XQ.small _ (by omega) (by omega),hx⟩
 ·exact Pn _ _ _ _ _ w hp (.inl rfl)
end
end Go.Proofs.YtknegjaeoffnbaaGreatDoor
namespace Ig
def Qb (l:List Int) (k:Nat):Int:=if h:k<l.length then l[k] else 0
theorem X7 {l:List Int} {k:Nat} (h:k<l.length):Qb l k=l[k]:=dif_pos h
theorem Gx {l:List Int} {k:Nat} (h:l.length≤k):Qb l k=0:=dif_neg (by omega)
theorem DG.Qb {b:Int} (hb:0<b) {l:List Int} (h:DG b l) (k:Nat):0≤Qb l k∧Qb l k<b:=by
 unfold Ig.Qb;split
 ·exact h _ (List.getElem_mem _)
 ·exact⟨Int.le_refl _,hb⟩
theorem VN (b:Int) (l:List Int) (k:Nat):dv b (l.take (k+1))=dv b (l.take k)+b^k*Qb l k:=by
 by_cases h:k<l.length
 ·rw [X7 h,WR b l k h]
 ·rw [Gx (by omega),List.take_of_length_le (by omega),List.take_of_length_le (by omega)];simp
theorem Ve {l:List Int} {p:Nat} (h:p<l.length) (v:Int) (r:Nat):Qb (l.set p v) r=if r=p then v else Qb l r:=by
 unfold Qb
 by_cases hr:r<l.length
 ·rw [dif_pos (by simpa using hr),dif_pos hr,List.getElem_set]
  by_cases e:p=r
  ·subst e;simp
  ·rw [if_neg e,if_neg (fun e'=>e e'.symm)]
 ·rw [dif_neg (by simpa using hr),dif_neg hr,if_neg (by omega)]
theorem GF (b:Int) {l:List Int} {p:Nat} (h:p<l.length) (v:Int):dv b (l.set p v)=dv b l+b^p*(v - Qb l p):=by
 have h1:=KM b (l.set p v) (p+1) (by simp;omega)
 have h2:=KM b l (p+1) (by omega)
 have e1:(l.set p v).drop (p+1)=l.drop (p+1):=by rw [List.drop_set_of_lt (by omega)]
 have e2:(l.set p v).take (p+1)=l.take p++[v]:=by
  rw [Vu _ _ (by simpa using h)];simp [List.take_set_of_le]
 rw [h1,h2,e1,e2,XS,WR b l p h,X7 h,List.length_take,Nat.min_eq_left (by omega)]
 grind
theorem J8 {l:List Int} {k:Nat} (h:k<l.length):l.drop k=Qb l k::l.drop (k+1):=by rw [List.drop_eq_getElem_cons h,X7 h]
theorem Tj {D V2 v' U3 u' t:Int} (hD:0<D) (hv1:v'<D) (hu0:0≤u')
  (ht0:0≤t) (ht:t*V2≤U3) (htv:t≤V2) (_hv0:0≤v'):(t - 1)*(V2*D+v')≤U3*D+u':=by
 have h1:t*V2*D≤U3*D:=Int.mul_le_mul_of_nonneg_right ht (by omega)
 have h2:t*v'≤t*D:=Int.mul_le_mul_of_nonneg_left (by omega) ht0
 have h3:t*D≤V2*D:=Int.mul_le_mul_of_nonneg_right htv (by omega)
 have e:(t - 1)*(V2*D+v')=t*V2*D+t*v' - V2*D - v':=by grind
 omega
theorem NJ {D V2 v' U3 u' t:Int} (hv0:0≤v') (hu1:u'<D) (hD:0<D)
  (ht0:0≤t) (ht:U3<t*V2):U3*D+u'<t*(V2*D+v'):=by
 have h1:(U3+1)*D≤t*V2*D:=Int.mul_le_mul_of_nonneg_right (by omega) (by omega)
 have h2:0≤t*v':=Int.mul_nonneg ht0 hv0
 have e:t*(V2*D+v')=t*V2*D+t*v':=by grind
 have e2:(U3+1)*D=U3*D+D:=by grind
 omega
theorem Xw {u v q:Int} (hv:0<v) (h1:q*v≤u) (h2:u<(q+1)*v):u / v=q:=by
 have e:(q+1)*v=q*v+v:=by grind
 have:u=(u - q*v)+q*v:=by omega
 rw [this,Int.add_mul_ediv_right _ _ (by omega),Int.ediv_eq_zero_of_lt (by omega) (by omega)];omega
theorem Zg {u v q:Int} (h1:q*v≤u) (h2:u<(q+1)*v):u%v=u - q*v:=by
 have e:(q+1)*v=q*v+v:=by grind
 have:u=(u - q*v)+q*v:=by omega
 rw [this,Int.add_mul_emod_self_right,Int.emod_eq_of_lt (by omega) (by omega)];omega
section
variable {b:Int} (hb:1<b)
include hb
theorem Zs {l:List Int} {n:Nat} (hl:DG b l) (h:l.length=n+3) :
  dv b l=((Qb l (n+2)*b+Qb l (n+1))*b+Qb l n)*b^n+dv b (l.take n)∧0≤dv b (l.take n)∧dv b (l.take n)<b^n:=by
 have h1:=VN b l n
 have h2:=VN b l (n+1)
 have h3:=VN b l (n+2)
 rw [List.take_of_length_le (by omega:l.length≤n+2+1)] at h3
 have h4:=Z1 (by omega) (hl.take n)
 rw [List.length_take,Nat.min_eq_left (by omega)] at h4
 refine⟨?_,Qu (by omega) (hl.take n),h4⟩
 rw [h3,h2,h1,Int.pow_succ,Int.pow_succ];grind
theorem Y6 {l:List Int} {n:Nat} (hl:DG b l) (h:l.length=n+2) :
  dv b l=(Qb l (n+1)*b+Qb l n)*b^n+dv b (l.take n)∧0≤dv b (l.take n)∧dv b (l.take n)<b^n:=by
 have h1:=VN b l n
 have h2:=VN b l (n+1)
 rw [List.take_of_length_le (by omega:l.length≤n+1+1)] at h2
 have h4:=Z1 (by omega) (hl.take n)
 rw [List.length_take,Nat.min_eq_left (by omega)] at h4
 refine⟨?_,Qu (by omega) (hl.take n),h4⟩
 rw [h2,h1,Int.pow_succ];grind
omit hb
structure VQ (b:Int) (u v:List Int) (n:Nat):Prop where
 hu:DG b u
 hv:DG b v
 lu:u.length=n+3
 lv:v.length=n+2
 nz:0<Qb v (n+1)
 lt:dv b u<b*dv b v
include hb
theorem VQ.top {u v:List Int} {n:Nat} (h:VQ b u v n):Qb u (n+2)≤Qb v (n+1):=by
 obtain ⟨a1,a2,a3⟩:=Zs hb h.hu h.lu
 obtain ⟨b1,b2,b3⟩:=Y6 hb h.hv h.lv
 have hlt:=h.lt
 have hb0:0<b:=by omega
 have d1:=h.hu.Qb hb0 n
 have d2:=h.hu.Qb hb0 (n+1)
 have d3:=h.hv.Qb hb0 n
 have hp:=pow_pos hb0 n
 refine Int.not_lt.1 fun hc=>?_
 have e1:(Qb v (n+1)+1)*(b*b*b^n)≤Qb u (n+2)*(b*b*b^n):=Int.mul_le_mul_of_nonneg_right (by omega) (Int.mul_nonneg (Int.mul_nonneg (by omega) (by omega)) (by omega))
 have e2:0≤Qb u (n+1)*(b*b^n):=Int.mul_nonneg d2.1 (Int.mul_nonneg (by omega) (by omega))
 have e3:0≤Qb u n*b^n:=Int.mul_nonneg d1.1 (by omega)
 have e4:(Qb v n+1)*b^n≤b*b^n:=Int.mul_le_mul_of_nonneg_right (by omega) (by omega)
 have e5:b*((Qb v n+1)*b^n)≤b*(b*b^n):=Int.mul_le_mul_of_nonneg_left e4 (by omega)
 have e6:b*dv b (v.take n)≤b*b^n:=Int.mul_le_mul_of_nonneg_left (by omega) (by omega)
 have e7:b*(dv b (v.take n)+1)≤b*b^n:=Int.mul_le_mul_of_nonneg_left (by omega) (by omega)
 rw [a1,b1] at hlt
 generalize b^n=D at *
 generalize dv b (v.take n)=v' at *
 generalize dv b (u.take n)=u' at *
 generalize Qb u (n+2)=u0 at *
 generalize Qb u (n+1)=u1 at *
 generalize Qb u n=u2 at *
 generalize Qb v (n+1)=v1 at *
 generalize Qb v n=v2 at *
 grind
end
end Ig
namespace Go.Proofs.YtknegjaeoffnbaaGreatDoor
section
open Go.RowKit Ig
def XC (x y c:Int):Int:=(x+y+c)%W
def Xd (x y c:Int):Int:=(x+y+c) / W
def ZF (x y c:Int):Int:=(x - y - c)%W
def Kl (x y c:Int):Int:=if x<y+c then 1 else 0
theorem WU {x y c:Int} (hx:0≤x∧x<W) (hy:0≤y∧y<W) (hc:0≤c∧c≤1) :
  XC x y c+W*Xd x y c=x+y+c∧(0≤XC x y c∧XC x y c<W)∧0≤Xd x y c∧Xd x y c≤1:=by
 unfold XC Xd;simp only [WV] at *;omega
theorem BJ {x y c:Int} (hx:0≤x∧x<W) (hy:0≤y∧y<W) (hc:0≤c∧c≤1) :
  ZF x y c - W*Kl x y c=x - y - c∧(0≤ZF x y c∧ZF x y c<W)∧0≤Kl x y c∧Kl x y c≤1:=by
 unfold ZF Kl;simp only [WV] at *;split<;>omega
theorem YW (x y c:Int) (hx:0≤x) (hy:0≤y) (hc:0≤c) (hc1:c≤1) (w:World) :
  (callFunc 282 #[.int .u64 x,.int .u64 y,.int .u64 c]).run Tryz.prog w = .ok (.value (.tuple #[.int .u64 (XC x y c),.int .u64 (Xd x y c)])) w:=by
 rw [run_callFunc_extern (fn:=Tryz.f282) (by kernel_rfl) (by kernel_rfl) (by kernel_rfl) (by kernel_rfl) (e:=add64Entry) (by kernel_rfl),run_add64 x y c hx hy hc hc1]
 rfl
def Mp:Array Value→Sem Value:=fun args=>do
 let (x,y,b) ← Extern.MathBitsCarry.three "Sub64" args
 pure (Extern.MathBitsCarry.pair ((x+Extern.MathBitsCarry.m64 - y - b)%Extern.MathBitsCarry.m64) (if x<y+b then 1 else 0))
theorem Fp (x y b:Nat) (hb:b≤1) (w:World) :
  (Mp #[.int .u64 x,.int .u64 y,.int .u64 b]).run Tryz.prog w =
   .ok (.tuple #[.int .u64 (((x+18446744073709551616 - y - b)%18446744073709551616:Nat):Int),.int .u64 ((if x<y+b then 1 else 0:Nat):Int)]) w:=by
 have:b=0∨b=1:=by omega
 rcases this with rfl | rfl<;>rfl
theorem GV (x y c:Int) (hx:0≤x∧x<W) (hy:0≤y∧y<W) (hc:0≤c∧c≤1) (w:World) :
  (callFunc 289 #[.int .u64 x,.int .u64 y,.int .u64 c]).run Tryz.prog w = .ok (.value (.tuple #[.int .u64 (ZF x y c),.int .u64 (Kl x y c)])) w:=by
 obtain ⟨x,rfl⟩:=Int.eq_ofNat_of_zero_le hx.1
 obtain ⟨y,rfl⟩:=Int.eq_ofNat_of_zero_le hy.1
 obtain ⟨c,rfl⟩:=Int.eq_ofNat_of_zero_le hc.1
 rw [run_callFunc_extern (fn:=Tryz.f289) (by kernel_rfl) (by kernel_rfl) (by kernel_rfl) (by kernel_rfl) (e:=Mp) (by kernel_rfl),Fp x y c (by omega)]
 simp only [Result.andThen,ZF,Kl,WV] at *
 have e1:(((x+18446744073709551616 - y - c)%18446744073709551616:Nat):Int)=((x:Int) - y - c)%18446744073709551616:=by omega
 have e2:((if x<y+c then 1 else 0:Nat):Int)=if(x:Int)<y+c then 1 else 0:=by split<;>split<;>omega
 rw [e1,e2]
theorem Mr {α:Type} (ds:List α) (z x:α) (m:Nat):(ds++List.replicate (m+1) z).set ds.length x=(ds++[x])++List.replicate m z:=by
 rw [List.set_append_right _ _ (Nat.le_refl _),Nat.sub_self,List.replicate_succ,List.set_cons_zero,List.append_assoc];rfl
theorem DW {α:Type} [Inhabited α] (ds:List α) (z:α) (m k:Nat) (hk:k=ds.length):(ds++List.replicate (m+1) z).getD k default=z:=by
 subst hk;simp [List.getD,List.replicate_succ]
theorem JW {l:List Int} (h:DG W l) (k:Nat):0≤Qb l k∧Qb l k<W:=h.Qb Jj k
theorem J6 (l:List Int) (k:Nat):dv W (l.take (k+1))=dv W (l.take k)+W^k*Qb l k:=VN W l k
theorem Zd {l:List Int} {k:Nat} (h:k<l.length):l.getD k default=Qb l k:=by rw [NQ h,X7 h]
def Dm (lx ly:List Int) (k:Nat) (ds:List Int) (c:Int):Prop :=
 ds.length=k∧DG W ds∧(0≤c∧c≤1)∧dv W ds+W^k*c=dv W (lx.take k)+dv W (ly.take k)
theorem Dm.step {lx ly ds:List Int} {k:Nat} {c:Int} (h:Dm lx ly k ds c) (hx:DG W lx) (hy:DG W ly) :
  Dm lx ly (k+1) (ds++[XC (Qb lx k) (Qb ly k) c]) (Xd (Qb lx k) (Qb ly k) c):=by
 obtain ⟨h1,h2,h3,h4⟩:=h
 obtain ⟨a1,a2,a3⟩:=WU (JW hx k) (JW hy k) h3
 refine⟨by simp [h1],h2.append (DG.cons a2.1 a2.2 (DG.nil _)),a3,?_⟩
 rw [XS,h1,J6,J6,Int.pow_succ]
 generalize W^k=p at *
 generalize XC (Qb lx k) (Qb ly k) c=lo at *
 generalize Xd (Qb lx k) (Qb ly k) c=hi at *
 generalize Qb lx k=a at *
 generalize Qb ly k=b at *
 have e:p*(lo+W*hi)=p*(a+b+c):=by rw [a1]
 grind
def SO (lx ly:List Int) (k:Nat) (ds:List Int) (c:Int):Prop :=
 ds.length=k∧DG W ds∧(0≤c∧c≤1)∧dv W ds - W^k*c=dv W (lx.take k) - dv W (ly.take k)
theorem SO.step {lx ly ds:List Int} {k:Nat} {c:Int} (h:SO lx ly k ds c) (hx:DG W lx) (hy:DG W ly) :
  SO lx ly (k+1) (ds++[ZF (Qb lx k) (Qb ly k) c]) (Kl (Qb lx k) (Qb ly k) c):=by
 obtain ⟨h1,h2,h3,h4⟩:=h
 obtain ⟨a1,a2,a3⟩:=BJ (JW hx k) (JW hy k) h3
 refine⟨by simp [h1],h2.append (DG.cons a2.1 a2.2 (DG.nil _)),a3,?_⟩
 rw [XS,h1,J6,J6,Int.pow_succ]
 generalize W^k=p at *
 generalize ZF (Qb lx k) (Qb ly k) c=lo at *
 generalize Kl (Qb lx k) (Qb ly k) c=hi at *
 generalize Qb lx k=a at *
 generalize Qb ly k=b at *
 have e:p*(lo - W*hi)=p*(a - b - c):=by rw [a1]
 grind
theorem Tryz.qz:(Tryz.prog.info? 248).map (fun i=>(i.zero,i.size,i.bytes))=some (some (.int .u64 0),1,8):=by kernel_rfl
theorem Z2 (n:Nat) (hn:n≤1000000000000) (w:World) :
  (Instr.makeSlice 126 (.int .i64 (n:Int)) (.int .i64 (n:Int))).run Tryz.prog w = .ok (.slice (some ⟨w.heap.size,0,none⟩) n n) (w.alloc (.cells (madeCells #[.int .u64 0] n) 248)):=by
 obtain ⟨i0,hi,hz0,hz1,hz2⟩:=info_parts Tryz.qz
 have:=run_make (P:=Tryz.prog) w 126 248 i0 (.int .u64 0) Tryz.underlying126 hi hz0 .i64 .i64 n n (by omega) (by omega) (by rw [hz2];omega) (by omega)
 rw [this,hz1];simp [Value.cells]
end
section
open Go.RowKit Ig
theorem HK (sw:Bool) (q q':Option Addr) (cap cap':Nat) (lx ly:List Int) (w:World) (hx:DG W lx) (hy:DG W ly) (hcx:Cells w q JY lx) (hcy:Cells w q' JY ly) (hlen:lx.length≤100000000000) (hle:ly.length≤lx.length) (hsw:sw=true→ly.length<lx.length) :
  Calls Tryz.prog 254 (if sw then #[.slice q' ly.length cap',.slice q lx.length cap] else #[.slice q lx.length cap,.slice q' ly.length cap']) w fun e w' =>
   ZG w (fun v w'=>∃ l,SL w' v JY l∧DG W l∧NZ l∧dv W l=dv W lx+dv W ly) e w':=by
 have HX:=Lib.hid hcx;clear hcx
 have HY:=Lib.hid hcy;clear hcy
 have hmk:=fun w=>Z2 (lx.length+1) (by omega) w
 have ec:((lx.length+1:Nat):Int)=(lx.length:Int)+1:=by omega
 simp only [ec] at hmk
 cases sw
 all_goals
  simp only [Bool.false_eq_true,if_false,if_true,forall_const,false_implies] at hsw ⊢
  go_enter Tryz.func254,Tryz.ntmps254
  go_wp2
  go_loopw [22,6] (fun i c wr=>∃ (k:Nat) (ds:List Int) (cc:Int),k≤lx.length∧i = .int .i64 k∧c = .int .u64 cc∧Dm lx ly k ds cc∧YD wr w.heap.size 248 JY (ds++List.replicate (lx.length+1 - k) 0)∧Ext w wr)
   (fun i _ _=>lx.length - (intOf i).toNat)
  case atStart=>exact⟨0,[],0,Nat.zero_le _,rfl,rfl,⟨rfl,DG.nil _,by decide,by simp⟩,YD.made w _ JY 0 _ _ rfl,(Ext.refl _).alloc _⟩
  case round =>
   obtain ⟨k,ds,cc,hk,rfl,rfl,hI,hB,hE⟩:=hrel
   have hst:=hI.step hx hy
   obtain ⟨hd1,hd2,hd3,hd4⟩:=hI
   have hd1':=Lib.hid hd1;clear hd1
   have hd4':=Lib.hid hd4;clear hd4
   by_cases hlt:k<lx.length
   ·obtain ⟨b,off,rfl,hb,hc⟩:=HX.out k hlt
    rw [Zd hlt] at hc
    have hc:=hE.cell hc
    simp only [JY] at hc
    have e1:lx.length+1 - k=(lx.length - k)+1:=by omega
    rw [e1] at hB
    have hcell:=hB.cell (i:=k) (by simp [hd1'.out])
    rw [DW _ _ _ _ hd1'.out.symm] at hcell
    simp only [JY] at hcell
    have hfr:=hB.frozen k
    have hBs:=hB.set k (XC (Qb lx k) (Qb ly k) cc)
    rw [← hd1'.out,Mr,hd1'.out] at hBs
    have HB:=Lib.hid hB;clear hB
    have HBs:=Lib.hid hBs;clear hBs
    have HS:=Lib.hid hst;clear hst
    have hx0:=(JW hx k).1
    have hy0:=(JW hy k).1
    by_cases hlt2:k<ly.length
    ·obtain ⟨b2,off2,rfl,hb2,hc2⟩:=HY.out k hlt2
     rw [Zd hlt2] at hc2
     have hc2:=hE.cell hc2
     simp only [JY] at hc2
     have ha:=fun w=>YW (Qb lx k) (Qb ly k) cc hx0 hy0 hd3.1 hd3.2 w
     go_wp2
     go_roundw
     case rel=>exact⟨k+1,_,_,by omega,by go_num,rfl,HS.out,by rw [show lx.length+1 - (k+1)=lx.length - k from by omega];exact HBs.out,Below.setCell hE (by simp) _⟩
     case measure=>simp [intOf];omega
    ·have H0:=Lib.hid (Gx (l:=ly) (k:=k) (by omega))
     have ha:=fun w=>YW (Qb lx k) 0 cc hx0 (Int.le_refl _) hd3.1 hd3.2 w
     go_wp2
     go_roundw
     case rel=>exact⟨k+1,_,_,by omega,by go_num,rfl,by have:=HS.out;rw [H0.out] at this;exact this,by rw [show lx.length+1 - (k+1)=lx.length - k from by omega];have:=HBs.out;rw [H0.out] at this;exact this,Below.setCell hE (by simp) _⟩
     case measure=>simp [intOf];omega
   ·have hk':k=lx.length:=by omega
    subst hk'
    have e1:lx.length+1 - lx.length=0+1:=by omega
    rw [e1] at hB
    have hcell:=hB.cell (i:=lx.length) (by simp [hd1'.out])
    rw [DW _ _ _ _ hd1'.out.symm] at hcell
    simp only [JY] at hcell
    have hfr:=hB.frozen lx.length
    have hBs:=hB.set lx.length cc
    rw [← hd1'.out,Mr,hd1'.out] at hBs
    simp only [List.replicate_zero,List.append_nil] at hBs
    have hSL:=SL.W8 hBs (lx.length+1) (by simp [hd1'.out]) (by simp [hd1'.out];omega)
    have el:(ds++[cc]).length=lx.length+1:=by simp [hd1'.out]
    rw [List.take_of_length_le (by omega),el] at hSL
    have hEs:Ext w _:=Below.setCell hE (p:=⟨w.heap.size,lx.length,none⟩) (by simp) (JY cc)
    have hfin:DG W (ds++[cc])∧dv W (ds++[cc])=dv W lx+dv W ly:=by
     refine⟨hd2.append (DG.cons hd3.1 (by have:=WV;omega) (DG.nil _)),?_⟩
     rw [XS,hd1'.out,hd4'.out,List.take_of_length_le (Nat.le_refl _),List.take_of_length_le hle]
    have HB:=Lib.hid hB;clear hB
    have HBs:=Lib.hid hBs;clear hBs
    have HSL:=Lib.hid hSL;clear hSL
    have HF:=Lib.hid hfin;clear hfin
    have HES:=Lib.hid hEs;clear hEs
    clear el e1 hst
    go_wp2_with (go_at_call 283;refine(KD _ _ _ HSL.out).mono ?_;rintro e w' ⟨⟨v',rfl,hv⟩,rfl⟩)
    go_ret
    exact⟨_,rfl,⟨_,hv,HF.out.1.Q2,Xh _,by rw [XB,HF.out.2]⟩,HES.out⟩
theorem SM (v v':Value) (lx ly:List Int) (w:World) (hx:DG W lx) (hy:DG W ly) (hs:SL w v JY lx) (hs':SL w v' JY ly) (h1:lx.length≤100000000000) (h2:ly.length≤100000000000) :
  Calls Tryz.prog 254 #[v,v'] w fun e w'=>ZG w (fun v w'=>∃ l,SL w' v JY l∧DG W l∧NZ l∧dv W l=dv W lx+dv W ly) e w':=by
 obtain ⟨q,cap,rfl,hcap,hmax,hc⟩:=hs
 obtain ⟨q',cap',rfl,hcap',hmax',hc'⟩:=hs'
 by_cases h:lx.length<ly.length
 ·have:=HK true q' q cap' cap ly lx w hy hx hc' hc h2 (by omega) (fun _=>h)
  rw [Int.add_comm] at this;exact this
 ·exact HK false q q' cap cap' lx ly w hx hy hc hc' h1 (by omega) (fun h=>by cases h)
theorem BK (v v':Value) (lx ly:List Int) (w:World) (hx:DG W lx) (hy:DG W ly) (hs:SL w v JY lx) (hs':SL w v' JY ly) (h1:lx.length≤100000000000) (hle:ly.length≤lx.length) (hle2:dv W ly≤dv W lx) :
  Calls Tryz.prog 256 #[v,v'] w fun e w'=>ZG w (fun v w'=>∃ l,SL w' v JY l∧DG W l∧NZ l∧dv W l=dv W lx - dv W ly) e w':=by
 obtain ⟨q,cap,rfl,hcap,hmax,hcx⟩:=hs
 obtain ⟨q',cap',rfl,hcap',hmax',hcy⟩:=hs'
 have HX:=Lib.hid hcx;clear hcx
 have HY:=Lib.hid hcy;clear hcy
 have HLE:=Lib.hid hle2;clear hle2
 have hmk:=fun w=>Z2 lx.length (by omega) w
 go_enter Tryz.func256,Tryz.ntmps256
 go_wp2
 go_loopw [14,6] (fun i c wr=>∃ (k:Nat) (ds:List Int) (cc:Int),k≤lx.length∧i = .int .i64 k∧c = .int .u64 cc∧SO lx ly k ds cc∧YD wr w.heap.size 248 JY (ds++List.replicate (lx.length - k) 0)∧Ext w wr)
  (fun i _ _=>lx.length - (intOf i).toNat)
 case atStart=>exact⟨0,[],0,Nat.zero_le _,rfl,rfl,⟨rfl,DG.nil _,by decide,by simp⟩,YD.made w _ JY 0 _ _ rfl,(Ext.refl _).alloc _⟩
 case round =>
  obtain ⟨k,ds,cc,hk,rfl,rfl,hI,hB,hE⟩:=hrel
  have hst:=hI.step hx hy
  obtain ⟨hd1,hd2,hd3,hd4⟩:=hI
  have hd1':=Lib.hid hd1;clear hd1
  have hd4':=Lib.hid hd4;clear hd4
  by_cases hlt:k<lx.length
  ·obtain ⟨b,off,rfl,hb,hc⟩:=HX.out k hlt
   rw [Zd hlt] at hc
   have hc:=hE.cell hc
   simp only [JY] at hc
   have e1:lx.length - k=(lx.length - (k+1))+1:=by omega
   rw [e1] at hB
   have hcell:=hB.cell (i:=k) (by simp [hd1'.out])
   rw [DW _ _ _ _ hd1'.out.symm] at hcell
   simp only [JY] at hcell
   have hfr:=hB.frozen k
   have hBs:=hB.set k (ZF (Qb lx k) (Qb ly k) cc)
   rw [← hd1'.out,Mr,hd1'.out] at hBs
   have HB:=Lib.hid hB;clear hB
   have HBs:=Lib.hid hBs;clear hBs
   have HS:=Lib.hid hst;clear hst
   have hx0:=JW hx k
   have hy0:=JW hy k
   clear e1
   by_cases hlt2:k<ly.length
   ·obtain ⟨b2,off2,rfl,hb2,hc2⟩:=HY.out k hlt2
    rw [Zd hlt2] at hc2
    have hc2:=hE.cell hc2
    simp only [JY] at hc2
    have ha:=fun w=>GV (Qb lx k) (Qb ly k) cc hx0 hy0 hd3 w
    go_wp2
    go_roundw
    case rel=>exact⟨k+1,_,_,by omega,by go_num,rfl,HS.out,HBs.out,Below.setCell hE (by simp) _⟩
    case measure=>simp [intOf];omega
   ·have H0:=Lib.hid (Gx (l:=ly) (k:=k) (by omega))
    have ha:=fun w=>GV (Qb lx k) 0 cc hx0 ⟨Int.le_refl _,Jj⟩ hd3 w
    go_wp2
    go_roundw
    case rel=>exact⟨k+1,_,_,by omega,by go_num,rfl,by have:=HS.out;rw [H0.out] at this;exact this,by have:=HBs.out;rw [H0.out] at this;exact this,Below.setCell hE (by simp) _⟩
    case measure=>simp [intOf];omega
  ·have hk':k=lx.length:=by omega
   subst hk'
   rw [Nat.sub_self,List.replicate_zero,List.append_nil] at hB
   have hSL:=SL.W8 hB lx.length (by simp [hd1'.out]) (by simp [hd1'.out];omega)
   rw [List.take_of_length_le (by simp [hd1'.out]),hd1'.out] at hSL
   have hfin:dv W ds=dv W lx - dv W ly:=by
    have h4:=hd4'.out
    rw [List.take_of_length_le (Nat.le_refl _),List.take_of_length_le hle] at h4
    have h5:=Z1 Jj hd2
    have h6:=Qu Jj hd2
    have h8:=HLE.out
    rw [hd1'.out] at h5
    have h7:cc=0∨cc=1:=by omega
    rcases h7 with rfl | rfl<;>omega
   have HB:=Lib.hid hB;clear hB
   have HSL:=Lib.hid hSL;clear hSL
   have HF:=Lib.hid hfin;clear hfin
   clear hst
   go_wp2_with (go_at_call 283;refine(KD _ _ _ HSL.out).mono ?_;rintro e w' ⟨⟨v',rfl,hv⟩,rfl⟩)
   go_ret
   exact⟨_,rfl,⟨_,hv,hd2.Q2,Xh _,by rw [XB,HF.out]⟩,hE⟩
theorem Vf {x y:Int} (h:x<y):ZU x y = -1:=if_pos h
theorem Gi {x y:Int} (h:y<x):ZU x y=1:=by unfold ZU;rw [if_neg (by omega),if_neg (by omega)]
theorem E7 (x:Int):ZU x x=0:=by unfold ZU;rw [if_neg (by omega),if_pos rfl]
theorem ZN (v v':Value) (lx ly:List Int) (w:World) (hx:DG W lx) (hy:DG W ly) (nx:NZ lx) (ny:NZ ly) (hs:SL w v JY lx) (hs':SL w v' JY ly) :
  Calls Tryz.prog 255 #[v,v'] w fun e w'=>e = .returned (.int .i64 (ZU (dv W lx) (dv W ly)))∧Ext w w':=by
 obtain ⟨q,cap,rfl,hcap,hmax,hcx⟩:=hs
 obtain ⟨q',cap',rfl,hcap',hmax',hcy⟩:=hs'
 have HX:=Lib.hid hcx;clear hcx
 have HY:=Lib.hid hcy;clear hcy
 rcases Nat.lt_trichotomy lx.length ly.length with h | h | h
 ·have HL:=Lib.hid (Vf (XZ Ej hx hy ny h))
  go_enter Tryz.func255,Tryz.ntmps255
  go_wp2
  go_ret
  exact⟨by rw [HL.out];rfl,Ext.refl _⟩
 ·go_enter Tryz.func255,Tryz.ntmps255
  have hb:((lx.length:Int) != (ly.length:Int))=false:=by simp [h]
  have HLL:=Lib.hid h;clear h
  go_wp2
  go_loopw [5] (fun i wr=>∃ k:Nat,k≤lx.length∧i = .int .i64 ((k:Int) - 1)∧lx.drop k=ly.drop k∧Ext w wr) (fun i _=>(intOf i+1).toNat)
  case atStart=>exact⟨lx.length,Nat.le_refl _,rfl,by rw [List.drop_eq_nil_of_le (Nat.le_refl _),List.drop_eq_nil_of_le (by rw [HLL.out];exact Nat.le_refl _)],Ext.refl _⟩
  case round =>
   obtain ⟨k,hk,rfl,hd,hE⟩:=hrel
   have HD:=Lib.hid hd;clear hd
   cases k with
   |zero =>
    have HF:Hid (ZU (dv W lx) (dv W ly)=0):=by
     have:=HD.out;rw [List.drop_zero,List.drop_zero] at this;rw [this];exact E7 _
    go_wp2
    go_ret
    exact⟨by rw [HF.out];rfl,hE⟩
   |succ k =>
    have e1:((k+1:Nat):Int) - 1=(k:Int):=by omega
    rw [e1]
    have hk2:k<ly.length:=by have:=HLL.out;omega
    obtain ⟨b,off,rfl,hb1,hc⟩:=HX.out k (by omega)
    obtain ⟨b2,off2,rfl,hb2,hc2⟩:=HY.out k hk2
    rw [NQ (by omega)] at hc hc2
    have hc:=hE.cell hc
    have hc2:=hE.cell hc2
    simp only [JY] at hc hc2
    have HLT:=Lib.hid (SH Jj hx hy HLL.out k (by omega) HD.out)
    have HGT:=Lib.hid (SH Jj hy hx HLL.out.symm k hk2 HD.out.symm)
    have HEQ:Hid (lx[k]=ly[k]→lx.drop k=ly.drop k):=by
     intro e;rw [List.drop_eq_getElem_cons (by omega),List.drop_eq_getElem_cons hk2,e,HD.out]
    generalize lx[k]=x at *
    generalize ly[k]=y at *
    clear e1
    rcases Int.lt_trichotomy x y with g | g | g
    ·have hne:(x != y)=true:=by simp;omega
     have HL:=Lib.hid (Vf (HLT.out g))
     go_wp2
     go_quiet (fail)
     go_wp2
     go_quiet (fail)
     go_wp2
     go_ret
     exact⟨by rw [HL.out];rfl,(hE.drewN _).drewN _⟩
    ·have hne:(x != y)=false:=by simp;omega
     go_wp2
     go_quiet (fail)
     go_wp2
     go_roundw
     case rel=>exact⟨k,by omega,by go_num,HEQ.out g,hE.drewN _⟩
     case measure=>simp [intOf]
    ·have hne:(x != y)=true:=by simp;omega
     have HL:=Lib.hid (Gi (HGT.out g))
     go_wp2
     go_quiet (fail)
     go_wp2
     go_quiet (fail)
     go_wp2
     go_ret
     exact⟨by rw [HL.out];rfl,(hE.drewN _).drewN _⟩
 ·have HL:=Lib.hid (Gi (XZ Ej hy hx nx h))
  go_enter Tryz.func255,Tryz.ntmps255
  go_wp2
  go_ret
  exact⟨by rw [HL.out];rfl,Ext.refl _⟩
end
end Go.Proofs.YtknegjaeoffnbaaGreatDoor
namespace Go.Proofs
open Go.Shelf
def Tryz.D8:Go.Shelf.Ren:=⟨fun | 169=>281 | n=>n,fun | 70=>281 | 9=>9 | 0=>0 | 72=>284 | 37=>282 | 127=>307 | 3=>3 | 5=>5 | n=>n,fun | n=>n⟩
theorem Tryz.qh:Go.Proofs.Lays.n169 Tryz.prog Tryz.D8:={
 mixed:=by kernel_rfl
 f169:=Tryz.func281.trans (congrArg some (by kernel_rfl))
 t0:=Tryz.underlying0
 a0:=Tryz.isAgg0
 z0:=Tryz.sizeOf0
 v0:=Tryz.zeroValue0
 t3:=Tryz.underlying3
 a3:=Tryz.isAgg3
 z3:=Tryz.sizeOf3
 v3:=Tryz.zeroValue3
 t9:=Tryz.underlying9
 a9:=Tryz.isAgg9
 z9:=Tryz.sizeOf9
 v9:=Tryz.zeroValue9
 t37:=Tryz.underlying282
 a37:=Tryz.isAgg282
 z37:=Tryz.sizeOf282
 v37:=Tryz.zeroValue282
 t70:=Tryz.underlying281
 a70:=Tryz.isAgg281
 z70:=Tryz.sizeOf281
 v70:=Tryz.zeroValue281
 t72:=Tryz.underlying284
 a72:=Tryz.isAgg284
 z72:=Tryz.sizeOf284
 v72:=Tryz.zeroValue284
 t127:=Tryz.underlying307
 a127:=Tryz.isAgg307
 z127:=Tryz.sizeOf307
 v127:=Tryz.zeroValue307 }
theorem Tryz.B6:Builder.Extra Tryz.prog Tryz.D8:={
 sizeBuilder:=by kernel_rfl
 liesBuilder:=by kernel_rfl
 t5:=Tryz.underlying5
 a5:=Tryz.isAgg5
 z5:=Tryz.sizeOf5
 v5:=Tryz.zeroValue5
 infoByte:=by kernel_rfl
 cellsByte:=by kernel_rfl
 sizeByte:=by kernel_rfl
 neB5:=by decide }
open Go.RowKit in
theorem Tryz.Builder_String_any (B b:Nat) (l:List UInt8) (w:World) (h:Lib.IsBuilder 284 5 B b (Lib.byteCells l) w) (hBw:B≤w.heap.size) :
  Calls Tryz.prog 281 #[.pointer (some ⟨b,0,none⟩)] w fun e w'=>e = .returned (.string ⟨l.toArray⟩)∧Below B w w':=Any.Builder_String_any Tryz.qh Tryz.B6 B b l w h hBw
def Tryz.Tf:Go.Shelf.Ren:=⟨fun | 125=>214 | 128=>265 | 129=>266 | n=>n,fun | 46=>232 | 3=>3 | 51=>269 | 53=>248 | 4=>4 | 5=>5 | 9=>9 | n=>n,fun | n=>n⟩
theorem Tryz.ql:Go.Proofs.Lays.n125 Tryz.prog Tryz.Tf:={
 mixed:=by kernel_rfl
 f125:=Tryz.func214.trans (congrArg some (by kernel_rfl))
 f128:=Tryz.func265.trans (congrArg some (by kernel_rfl))
 f129:=Tryz.func266.trans (congrArg some (by kernel_rfl))
 t3:=Tryz.underlying3
 a3:=Tryz.isAgg3
 z3:=Tryz.sizeOf3
 v3:=Tryz.zeroValue3
 t4:=Tryz.underlying4
 a4:=Tryz.isAgg4
 z4:=Tryz.sizeOf4
 v4:=Tryz.zeroValue4
 t5:=Tryz.underlying5
 a5:=Tryz.isAgg5
 z5:=Tryz.sizeOf5
 v5:=Tryz.zeroValue5
 t9:=Tryz.underlying9
 a9:=Tryz.isAgg9
 z9:=Tryz.sizeOf9
 v9:=Tryz.zeroValue9
 t46:=Tryz.underlying232
 a46:=Tryz.isAgg232
 z46:=Tryz.sizeOf232
 v46:=Tryz.zeroValue232
 t51:=Tryz.underlying269
 a51:=Tryz.isAgg269
 z51:=Tryz.sizeOf269
 v51:=Tryz.zeroValue269
 t53:=Tryz.underlying248
 a53:=Tryz.isAgg248
 z53:=Tryz.sizeOf248
 v53:=Tryz.zeroValue248 }
theorem Tryz.bits_Len (x:Int) (w:World) (h0:0≤x) (h1:x≤18446744073709551615) :
  Calls Tryz.prog 214 #[.int .u64 x] w fun e w'=>e = .returned (.int .i64 (Lib.bitLen x.toNat))∧w'=w:=Any.bits_Len Tryz.ql x w h0 h1
def Tryz.Td:Go.Shelf.Ren:=⟨fun | 134=>285 | 129=>266 | n=>n,fun | 53=>248 | 3=>3 | 4=>4 | 46=>232 | 5=>5 | 9=>9 | n=>n,fun | n=>n⟩
theorem Tryz.qj:Go.Proofs.Lays.n134 Tryz.prog Tryz.Td:={
 mixed:=by kernel_rfl
 f129:=Tryz.func266.trans (congrArg some (by kernel_rfl))
 f134:=Tryz.func285.trans (congrArg some (by kernel_rfl))
 t3:=Tryz.underlying3
 a3:=Tryz.isAgg3
 z3:=Tryz.sizeOf3
 v3:=Tryz.zeroValue3
 t4:=Tryz.underlying4
 a4:=Tryz.isAgg4
 z4:=Tryz.sizeOf4
 v4:=Tryz.zeroValue4
 t5:=Tryz.underlying5
 a5:=Tryz.isAgg5
 z5:=Tryz.sizeOf5
 v5:=Tryz.zeroValue5
 t9:=Tryz.underlying9
 a9:=Tryz.isAgg9
 z9:=Tryz.sizeOf9
 v9:=Tryz.zeroValue9
 t46:=Tryz.underlying232
 a46:=Tryz.isAgg232
 z46:=Tryz.sizeOf232
 v46:=Tryz.zeroValue232
 t53:=Tryz.underlying248
 a53:=Tryz.isAgg248
 z53:=Tryz.sizeOf248
 v53:=Tryz.zeroValue248 }
theorem Tryz.bits_LeadingZeros64 (x:Int) (w:World) (h0:0≤x) (h1:x≤18446744073709551615) :
  Calls Tryz.prog 285 #[.int .u64 x] w fun e w'=>e = .returned (.int .i64 (64 - (Lib.bitLen x.toNat:Int)))∧w'=w:=Any.bits_LeadingZeros64 Tryz.qj x w h0 h1
def Tryz.Th:Go.Shelf.Ren:=⟨fun | 103=>161 | 210=>227 | 206=>271 | n=>n,fun | 9=>9 | 4=>4 | 24=>190 | 3=>3 | n=>n,fun | n=>n⟩
theorem Tryz.qp:Go.Proofs.Lays.n103 Tryz.prog Tryz.Th:={
 mixed:=by kernel_rfl
 f103:=Tryz.func161.trans (congrArg some (by kernel_rfl))
 f206:=Tryz.func271.trans (congrArg some (by kernel_rfl))
 f210:=Tryz.func227.trans (congrArg some (by kernel_rfl))
 t3:=Tryz.underlying3
 a3:=Tryz.isAgg3
 z3:=Tryz.sizeOf3
 v3:=Tryz.zeroValue3
 t4:=Tryz.underlying4
 a4:=Tryz.isAgg4
 z4:=Tryz.sizeOf4
 v4:=Tryz.zeroValue4
 t9:=Tryz.underlying9
 a9:=Tryz.isAgg9
 z9:=Tryz.sizeOf9
 v9:=Tryz.zeroValue9
 t24:=Tryz.underlying190
 a24:=Tryz.isAgg190
 z24:=Tryz.sizeOf190
 v24:=Tryz.zeroValue190 }
open Go.RowKit in
theorem Tryz.strings_CutPrefix (s p:ByteArray) (w:World) :
  Calls Tryz.prog 161 #[.string s,.string p] w fun e w'=>e = .returned (.tuple #[.string ⟨(Lib.trimPrefix s.data.toList p.data.toList).toArray⟩,.bool (Lib.hasPrefix s.data.toList p.data.toList)])∧w'=w:=Any.strings_CutPrefix Tryz.qp s p w
def Tryz.xJ:Go.Shelf.Ren:=⟨fun | 215=>267 | n=>n,fun | 3=>3 | 4=>4 | n=>n,fun | n=>n⟩
def Tryz.Tg:Go.Shelf.Ren:=⟨fun | 122=>216 | 215=>267 | n=>n,fun | 3=>3 | 4=>4 | n=>n,fun | n=>n⟩
theorem Tryz.qm:Go.Proofs.Lays.n122 Tryz.prog Tryz.Tg:={
 mixed:=by kernel_rfl
 f122:=Tryz.func216.trans (congrArg some (by kernel_rfl))
 f215:=Tryz.func267.trans (congrArg some (by kernel_rfl))
 t3:=Tryz.underlying3
 a3:=Tryz.isAgg3
 z3:=Tryz.sizeOf3
 v3:=Tryz.zeroValue3
 t4:=Tryz.underlying4
 a4:=Tryz.isAgg4
 z4:=Tryz.sizeOf4
 v4:=Tryz.zeroValue4 }
open Go.RowKit in
theorem Tryz.cmp_Compare_int (x y:Int) (w:World) :
  Calls Tryz.prog 216 #[.int .i64 x,.int .i64 y] w fun e w'=>e = .returned (.int .i64 (Lib.compareInt x y))∧w'=w:=Any.cmp_Compare_int Tryz.qm x y w
def Tryz.Tb:Go.Shelf.Ren:=⟨fun | 172=>231 | 244=>273 | 245=>274 | 247=>300 | 279=>301 | 280=>302 | 281=>303 | 282=>304 | 287=>314 | 316=>315 | 171=>277 | 205=>316 | 321=>325 | 322=>326 | 243=>305 | 246=>317 | 283=>318 | 284=>319 | 285=>320 | 286=>321 | 129=>266 | 317=>327 | 318=>328 | 319=>329 | 320=>330 | 337=>332 | 338=>333 | n=>n,fun | 9=>9 | 3=>3 | 75=>239 | 76=>240 | 4=>4 | 5=>5 | 167=>298 | 37=>282 | 0=>0 | 85=>299 | 2=>2 | 168=>301 | 53=>248 | 175=>313 | 46=>232 | 210=>317 | 127=>307 | 145=>330 | 143=>328 | 21=>21 | 171=>320 | 173=>322 | 212=>332 | 51=>269 | 20=>20 | 213=>333 | 232=>335 | 233=>336 | 80=>247 | n=>n,fun | 15=>3 | 16=>4 | 17=>5 | 18=>6 | 19=>7 | n=>n⟩
theorem Tryz.qg:Go.Proofs.Lays.n172 Tryz.prog Tryz.Tb:={
 mixed:=by kernel_rfl
 f129:=Tryz.func266.trans (congrArg some (by kernel_rfl))
 f171:=Tryz.func277.trans (congrArg some (by kernel_rfl))
 f172:=Tryz.func231.trans (congrArg some (by kernel_rfl))
 f205:=Tryz.func316.trans (congrArg some (by kernel_rfl))
 f243:=Tryz.func305.trans (congrArg some (by kernel_rfl))
 f244:=Tryz.func273.trans (congrArg some (by kernel_rfl))
 f245:=Tryz.func274.trans (congrArg some (by kernel_rfl))
 f246:=Tryz.func317.trans (congrArg some (by kernel_rfl))
 f247:=Tryz.func300.trans (congrArg some (by kernel_rfl))
 f279:=Tryz.func301.trans (congrArg some (by kernel_rfl))
 f280:=Tryz.func302.trans (congrArg some (by kernel_rfl))
 f281:=Tryz.func303.trans (congrArg some (by kernel_rfl))
 f282:=Tryz.func304.trans (congrArg some (by kernel_rfl))
 f283:=Tryz.func318.trans (congrArg some (by kernel_rfl))
 f284:=Tryz.func319.trans (congrArg some (by kernel_rfl))
 f285:=Tryz.func320.trans (congrArg some (by kernel_rfl))
 f286:=Tryz.func321.trans (congrArg some (by kernel_rfl))
 f287:=Tryz.func314.trans (congrArg some (by kernel_rfl))
 f316:=Tryz.func315.trans (congrArg some (by kernel_rfl))
 f317:=Tryz.func327.trans (congrArg some (by kernel_rfl))
 f318:=Tryz.func328.trans (congrArg some (by kernel_rfl))
 f319:=Tryz.func329.trans (congrArg some (by kernel_rfl))
 f320:=Tryz.func330.trans (congrArg some (by kernel_rfl))
 f321:=Tryz.func325.trans (congrArg some (by kernel_rfl))
 f322:=Tryz.func326.trans (congrArg some (by kernel_rfl))
 f337:=Tryz.func332.trans (congrArg some (by kernel_rfl))
 f338:=Tryz.func333.trans (congrArg some (by kernel_rfl))
 t0:=Tryz.underlying0
 a0:=Tryz.isAgg0
 z0:=Tryz.sizeOf0
 v0:=Tryz.zeroValue0
 t2:=Tryz.underlying2
 a2:=Tryz.isAgg2
 z2:=Tryz.sizeOf2
 v2:=Tryz.zeroValue2
 t3:=Tryz.underlying3
 a3:=Tryz.isAgg3
 z3:=Tryz.sizeOf3
 v3:=Tryz.zeroValue3
 t4:=Tryz.underlying4
 a4:=Tryz.isAgg4
 z4:=Tryz.sizeOf4
 v4:=Tryz.zeroValue4
 t5:=Tryz.underlying5
 a5:=Tryz.isAgg5
 z5:=Tryz.sizeOf5
 v5:=Tryz.zeroValue5
 t9:=Tryz.underlying9
 a9:=Tryz.isAgg9
 z9:=Tryz.sizeOf9
 v9:=Tryz.zeroValue9
 t20:=Tryz.underlying20
 a20:=Tryz.isAgg20
 z20:=Tryz.sizeOf20
 v20:=Tryz.zeroValue20
 t21:=Tryz.underlying21
 a21:=Tryz.isAgg21
 z21:=Tryz.sizeOf21
 v21:=Tryz.zeroValue21
 t37:=Tryz.underlying282
 a37:=Tryz.isAgg282
 z37:=Tryz.sizeOf282
 v37:=Tryz.zeroValue282
 t46:=Tryz.underlying232
 a46:=Tryz.isAgg232
 z46:=Tryz.sizeOf232
 v46:=Tryz.zeroValue232
 t51:=Tryz.underlying269
 a51:=Tryz.isAgg269
 z51:=Tryz.sizeOf269
 v51:=Tryz.zeroValue269
 t53:=Tryz.underlying248
 a53:=Tryz.isAgg248
 z53:=Tryz.sizeOf248
 v53:=Tryz.zeroValue248
 t75:=Tryz.underlying239
 a75:=Tryz.isAgg239
 z75:=Tryz.sizeOf239
 v75:=Tryz.zeroValue239
 t76:=Tryz.underlying240
 a76:=Tryz.isAgg240
 z76:=Tryz.sizeOf240
 v76:=Tryz.zeroValue240
 t85:=Tryz.underlying299
 a85:=Tryz.isAgg299
 z85:=Tryz.sizeOf299
 v85:=Tryz.zeroValue299
 t127:=Tryz.underlying307
 a127:=Tryz.isAgg307
 z127:=Tryz.sizeOf307
 v127:=Tryz.zeroValue307
 t143:=Tryz.underlying328
 a143:=Tryz.isAgg328
 z143:=Tryz.sizeOf328
 v143:=Tryz.zeroValue328
 t145:=Tryz.underlying330
 a145:=Tryz.isAgg330
 z145:=Tryz.sizeOf330
 v145:=Tryz.zeroValue330
 t167:=Tryz.underlying298
 a167:=Tryz.isAgg298
 z167:=Tryz.sizeOf298
 v167:=Tryz.zeroValue298
 t168:=Tryz.underlying301
 a168:=Tryz.isAgg301
 z168:=Tryz.sizeOf301
 v168:=Tryz.zeroValue301
 t171:=Tryz.underlying320
 a171:=Tryz.isAgg320
 z171:=Tryz.sizeOf320
 v171:=Tryz.zeroValue320
 t173:=Tryz.underlying322
 a173:=Tryz.isAgg322
 z173:=Tryz.sizeOf322
 v173:=Tryz.zeroValue322
 t175:=Tryz.underlying313
 a175:=Tryz.isAgg313
 z175:=Tryz.sizeOf313
 v175:=Tryz.zeroValue313
 t210:=Tryz.underlying317
 a210:=Tryz.isAgg317
 z210:=Tryz.sizeOf317
 v210:=Tryz.zeroValue317
 t212:=Tryz.underlying332
 a212:=Tryz.isAgg332
 z212:=Tryz.sizeOf332
 v212:=Tryz.zeroValue332
 t213:=Tryz.underlying333
 a213:=Tryz.isAgg333
 z213:=Tryz.sizeOf333
 t232:=Tryz.underlying335
 a232:=Tryz.isAgg335
 z232:=Tryz.sizeOf335
 v232:=Tryz.zeroValue335
 t233:=Tryz.underlying336
 a233:=Tryz.isAgg336
 z233:=Tryz.sizeOf336
 v233:=Tryz.zeroValue336
 g15:=by kernel_rfl
 g16:=by kernel_rfl
 g17:=by kernel_rfl
 g18:=by kernel_rfl
 g19:=by kernel_rfl }
open Go.RowKit in
theorem Tryz.strconv_Atoi (s:ByteArray) (n:Int) (hl:s.size≤18) (h:Lib.atoi s.data.toList=some n) (w:World) :
  Calls Tryz.prog 231 #[.string s] w fun e w'=>e = .returned (.tuple #[.int .i64 n,.nilIface])∧∃ t,w'=Lib.bytesWorld w 5 t:=Any.strconv_Atoi Tryz.qg s n hl h w
def Tryz.Te:Go.Shelf.Ren:=⟨fun | 129=>266 | n=>n,fun | 53=>248 | 3=>3 | 4=>4 | 46=>232 | 5=>5 | 9=>9 | n=>n,fun | n=>n⟩
theorem Tryz.qk:Go.Proofs.Lays.n129 Tryz.prog Tryz.Te:={
 mixed:=by kernel_rfl
 f129:=Tryz.func266.trans (congrArg some (by kernel_rfl))
 t3:=Tryz.underlying3
 a3:=Tryz.isAgg3
 z3:=Tryz.sizeOf3
 v3:=Tryz.zeroValue3
 t4:=Tryz.underlying4
 a4:=Tryz.isAgg4
 z4:=Tryz.sizeOf4
 v4:=Tryz.zeroValue4
 t5:=Tryz.underlying5
 a5:=Tryz.isAgg5
 z5:=Tryz.sizeOf5
 v5:=Tryz.zeroValue5
 t9:=Tryz.underlying9
 a9:=Tryz.isAgg9
 z9:=Tryz.sizeOf9
 v9:=Tryz.zeroValue9
 t46:=Tryz.underlying232
 a46:=Tryz.isAgg232
 z46:=Tryz.sizeOf232
 v46:=Tryz.zeroValue232
 t53:=Tryz.underlying248
 a53:=Tryz.isAgg248
 z53:=Tryz.sizeOf248
 v53:=Tryz.zeroValue248 }
theorem Tryz.bits_Len64 (x:Int) (w:World) (h0:0≤x) (h1:x≤18446744073709551615) :
  Calls Tryz.prog 266 #[.int .u64 x] w fun e w'=>e = .returned (.int .i64 (Lib.bitLen x.toNat))∧w'=w:=Any.bits_Len64 Tryz.qk x w h0 h1
def Tryz.TZ:Go.Shelf.Ren:=⟨fun | 283=>318 | n=>n,fun | 3=>3 | 9=>9 | 4=>4 | n=>n,fun | n=>n⟩
theorem Tryz.qe:Go.Proofs.Lays.n283 Tryz.prog Tryz.TZ:={
 mixed:=by kernel_rfl
 f283:=Tryz.func318.trans (congrArg some (by kernel_rfl))
 t3:=Tryz.underlying3
 a3:=Tryz.isAgg3
 z3:=Tryz.sizeOf3
 v3:=Tryz.zeroValue3
 t4:=Tryz.underlying4
 a4:=Tryz.isAgg4
 z4:=Tryz.sizeOf4
 v4:=Tryz.zeroValue4
 t9:=Tryz.underlying9
 a9:=Tryz.isAgg9
 z9:=Tryz.sizeOf9
 v9:=Tryz.zeroValue9 }
open Go.Lib in
theorem Tryz.internal_strconv_small (i:Nat) (h:i<100) (w:World) :
  Calls Tryz.prog 318 #[.int .i64 i] w fun e w'=>e = .returned (.string ⟨(Lib.decDigits i).toArray⟩)∧w'=w:=Any.internal_strconv_small Tryz.qe i h w
def Tryz.Rz:Go.Shelf.Ren:=⟨fun | 284=>319 | 129=>266 | 317=>327 | 318=>328 | n=>n,fun | 53=>248 | 3=>3 | 212=>332 | 0=>0 | 4=>4 | 46=>232 | 5=>5 | 9=>9 | n=>n,fun | 17=>5 | n=>n⟩
theorem Tryz.Oi:Go.Proofs.LaysM.n284 Tryz.prog Tryz.Rz:={
 mixed:=by kernel_rfl
 f129:=Tryz.func266.trans (congrArg some (by kernel_rfl))
 f284:=Tryz.func319.trans (congrArg some (by kernel_rfl))
 f317:=Tryz.func327.trans (congrArg some (by kernel_rfl))
 f318:=Tryz.func328.trans (congrArg some (by kernel_rfl))
 t0:=Tryz.underlying0
 a0:=Tryz.isAgg0
 z0:=Tryz.sizeOf0
 v0:=Tryz.zeroValue0
 t3:=Tryz.underlying3
 a3:=Tryz.isAgg3
 z3:=Tryz.sizeOf3
 v3:=Tryz.zeroValue3
 t4:=Tryz.underlying4
 a4:=Tryz.isAgg4
 z4:=Tryz.sizeOf4
 v4:=Tryz.zeroValue4
 t5:=Tryz.underlying5
 a5:=Tryz.isAgg5
 z5:=Tryz.sizeOf5
 v5:=Tryz.zeroValue5
 t9:=Tryz.underlying9
 a9:=Tryz.isAgg9
 z9:=Tryz.sizeOf9
 v9:=Tryz.zeroValue9
 t46:=Tryz.underlying232
 a46:=Tryz.isAgg232
 z46:=Tryz.sizeOf232
 v46:=Tryz.zeroValue232
 t53:=Tryz.underlying248
 a53:=Tryz.isAgg248
 z53:=Tryz.sizeOf248
 v53:=Tryz.zeroValue248
 t212:=Tryz.underlying332
 a212:=Tryz.isAgg332
 z212:=Tryz.sizeOf332
 v212:=Tryz.zeroValue332
 g17:=by kernel_rfl
 i0:=by kernel_rfl
 i3:=by kernel_rfl
 i4:=by kernel_rfl
 i5:=by kernel_rfl
 i9:=by kernel_rfl
 i46:=by kernel_rfl
 i53:=by kernel_rfl
 i212:=by kernel_rfl
 m17:=by kernel_rfl }
open Go.Lib in
theorem Tryz.internal_strconv_numDigits (u:Nat) (h1:1≤u) (h2:u<18446744073709551616) (w:World) (htab:Lib.TabIs Tryz.prog w "internal/strconv.uint64pow10" .u64 Lib.pow10Tab) :
  Calls Tryz.prog 319 #[.int .u64 u] w fun e w'=>e = .returned (.int .i64 (Lib.nDigits u))∧w'=w:=Any.internal_strconv_numDigits Tryz.Oi u h1 h2 w htab
def Tryz.TY:Go.Shelf.Ren:=⟨fun | 285=>320 | n=>n,fun | 37=>282 | 53=>248 | 3=>3 | 4=>4 | 51=>269 | 9=>9 | 5=>5 | 0=>0 | n=>n,fun | n=>n⟩
theorem Tryz.qd:Go.Proofs.Lays.n285 Tryz.prog Tryz.TY:={
 mixed:=by kernel_rfl
 f285:=Tryz.func320.trans (congrArg some (by kernel_rfl))
 t0:=Tryz.underlying0
 a0:=Tryz.isAgg0
 z0:=Tryz.sizeOf0
 v0:=Tryz.zeroValue0
 t3:=Tryz.underlying3
 a3:=Tryz.isAgg3
 z3:=Tryz.sizeOf3
 v3:=Tryz.zeroValue3
 t4:=Tryz.underlying4
 a4:=Tryz.isAgg4
 z4:=Tryz.sizeOf4
 v4:=Tryz.zeroValue4
 t5:=Tryz.underlying5
 a5:=Tryz.isAgg5
 z5:=Tryz.sizeOf5
 v5:=Tryz.zeroValue5
 t9:=Tryz.underlying9
 a9:=Tryz.isAgg9
 z9:=Tryz.sizeOf9
 v9:=Tryz.zeroValue9
 t37:=Tryz.underlying282
 a37:=Tryz.isAgg282
 z37:=Tryz.sizeOf282
 v37:=Tryz.zeroValue282
 t51:=Tryz.underlying269
 a51:=Tryz.isAgg269
 z51:=Tryz.sizeOf269
 v51:=Tryz.zeroValue269
 t53:=Tryz.underlying248
 a53:=Tryz.isAgg248
 z53:=Tryz.sizeOf248
 v53:=Tryz.zeroValue248 }
open Go.RowKit Go.Sort Go.Lib in
theorem Tryz.internal_strconv_formatBase10 (Bw off cap:Nat) (u:Nat) (d:Array UInt8) (w:World) (hH:Holds (fun(b:UInt8)=>Value.int .u8 (b.toNat:Int)) w Bw off d) (hu:u<10^d.size) (hu64:u<18446744073709551616) (hsz:d.size<4611686018427387904) :
  Calls Tryz.prog 320 #[.slice (some ⟨Bw,off,none⟩) d.size cap,.int .u64 u] w fun e w' =>
   e = .returned (.tuple #[])∧∃ (n v':Nat) (dk:Array UInt8),w'=(putRow (fun(b:UInt8)=>Value.int .u8 (b.toNat:Int)) w Bw off dk).drewN n∧FmtInv d.size u 0 v' dk:=Any.internal_strconv_formatBase10 Tryz.qd Bw off cap u d w hH hu hu64 hsz
def Tryz.R2:Go.Shelf.Ren:=⟨fun | 171=>277 | 243=>305 | 246=>317 | 283=>318 | 284=>319 | 285=>320 | 286=>321 | 129=>266 | 317=>327 | 318=>328 | 319=>329 | 320=>330 | 337=>332 | 338=>333 | n=>n,fun | 3=>3 | 9=>9 | 2=>2 | 4=>4 | 171=>320 | 0=>0 | 53=>248 | 37=>282 | 5=>5 | 173=>322 | 212=>332 | 51=>269 | 20=>20 | 213=>333 | 46=>232 | 232=>335 | 233=>336 | n=>n,fun | 17=>5 | 18=>6 | 19=>7 | n=>n⟩
theorem Tryz.Oj:Go.Proofs.LaysM.n171 Tryz.prog Tryz.R2:={
 mixed:=by kernel_rfl
 f129:=Tryz.func266.trans (congrArg some (by kernel_rfl))
 f171:=Tryz.func277.trans (congrArg some (by kernel_rfl))
 f243:=Tryz.func305.trans (congrArg some (by kernel_rfl))
 f246:=Tryz.func317.trans (congrArg some (by kernel_rfl))
 f283:=Tryz.func318.trans (congrArg some (by kernel_rfl))
 f284:=Tryz.func319.trans (congrArg some (by kernel_rfl))
 f285:=Tryz.func320.trans (congrArg some (by kernel_rfl))
 f286:=Tryz.func321.trans (congrArg some (by kernel_rfl))
 f317:=Tryz.func327.trans (congrArg some (by kernel_rfl))
 f318:=Tryz.func328.trans (congrArg some (by kernel_rfl))
 f319:=Tryz.func329.trans (congrArg some (by kernel_rfl))
 f320:=Tryz.func330.trans (congrArg some (by kernel_rfl))
 f337:=Tryz.func332.trans (congrArg some (by kernel_rfl))
 f338:=Tryz.func333.trans (congrArg some (by kernel_rfl))
 t0:=Tryz.underlying0
 a0:=Tryz.isAgg0
 z0:=Tryz.sizeOf0
 v0:=Tryz.zeroValue0
 t2:=Tryz.underlying2
 a2:=Tryz.isAgg2
 z2:=Tryz.sizeOf2
 v2:=Tryz.zeroValue2
 t3:=Tryz.underlying3
 a3:=Tryz.isAgg3
 z3:=Tryz.sizeOf3
 v3:=Tryz.zeroValue3
 t4:=Tryz.underlying4
 a4:=Tryz.isAgg4
 z4:=Tryz.sizeOf4
 v4:=Tryz.zeroValue4
 t5:=Tryz.underlying5
 a5:=Tryz.isAgg5
 z5:=Tryz.sizeOf5
 v5:=Tryz.zeroValue5
 t9:=Tryz.underlying9
 a9:=Tryz.isAgg9
 z9:=Tryz.sizeOf9
 v9:=Tryz.zeroValue9
 t20:=Tryz.underlying20
 a20:=Tryz.isAgg20
 z20:=Tryz.sizeOf20
 v20:=Tryz.zeroValue20
 t37:=Tryz.underlying282
 a37:=Tryz.isAgg282
 z37:=Tryz.sizeOf282
 v37:=Tryz.zeroValue282
 t46:=Tryz.underlying232
 a46:=Tryz.isAgg232
 z46:=Tryz.sizeOf232
 v46:=Tryz.zeroValue232
 t51:=Tryz.underlying269
 a51:=Tryz.isAgg269
 z51:=Tryz.sizeOf269
 v51:=Tryz.zeroValue269
 t53:=Tryz.underlying248
 a53:=Tryz.isAgg248
 z53:=Tryz.sizeOf248
 v53:=Tryz.zeroValue248
 t171:=Tryz.underlying320
 a171:=Tryz.isAgg320
 z171:=Tryz.sizeOf320
 v171:=Tryz.zeroValue320
 t173:=Tryz.underlying322
 a173:=Tryz.isAgg322
 z173:=Tryz.sizeOf322
 v173:=Tryz.zeroValue322
 t212:=Tryz.underlying332
 a212:=Tryz.isAgg332
 z212:=Tryz.sizeOf332
 v212:=Tryz.zeroValue332
 t213:=Tryz.underlying333
 a213:=Tryz.isAgg333
 z213:=Tryz.sizeOf333
 t232:=Tryz.underlying335
 a232:=Tryz.isAgg335
 z232:=Tryz.sizeOf335
 v232:=Tryz.zeroValue335
 t233:=Tryz.underlying336
 a233:=Tryz.isAgg336
 z233:=Tryz.sizeOf336
 v233:=Tryz.zeroValue336
 g17:=by kernel_rfl
 g18:=by kernel_rfl
 g19:=by kernel_rfl
 i0:=by kernel_rfl
 i2:=by kernel_rfl
 i3:=by kernel_rfl
 i4:=by kernel_rfl
 i5:=by kernel_rfl
 i9:=by kernel_rfl
 i20:=by kernel_rfl
 i37:=by kernel_rfl
 i46:=by kernel_rfl
 i51:=by kernel_rfl
 i53:=by kernel_rfl
 i171:=by kernel_rfl
 i173:=by kernel_rfl
 i212:=by kernel_rfl
 i232:=by kernel_rfl
 i233:=by kernel_rfl
 m17:=by kernel_rfl
 m18:=by kernel_rfl
 m19:=by kernel_rfl }
open Go.RowKit Go.Sort Go.Lib in
theorem Tryz.strconv_Itoa (n:Int) (h0 : -9223372036854775808≤n) (h1:n≤9223372036854775807) (w:World) (htab:Lib.TabIs Tryz.prog w "internal/strconv.uint64pow10" .u64 Lib.pow10Tab) :
  Calls Tryz.prog 277 #[.int .i64 n] w fun e w'=>e = .returned (.string ⟨(Lib.itoa n).toArray⟩)∧∃ k os,w'=grow (w.drewN k) os:=Any.strconv_Itoa Tryz.Oj n h0 h1 w htab
def Tryz.Tc:Go.Shelf.Ren:=⟨fun | 145=>160 | 220=>226 | 219=>270 | 217=>296 | 225=>297 | 224=>298 | 267=>299 | 266=>312 | 314=>313 | n=>n,fun | 9=>9 | 4=>4 | 59=>188 | 3=>3 | 5=>5 | 46=>232 | 146=>311 | 51=>269 | n=>n,fun | 1=>0 | n=>n⟩
theorem Tryz.qi:Go.Proofs.Lays.n145 Tryz.prog Tryz.Tc:={
 mixed:=by kernel_rfl
 f145:=Tryz.func160.trans (congrArg some (by kernel_rfl))
 f217:=Tryz.func296.trans (congrArg some (by kernel_rfl))
 f219:=Tryz.func270.trans (congrArg some (by kernel_rfl))
 f220:=Tryz.func226.trans (congrArg some (by kernel_rfl))
 f224:=Tryz.func298.trans (congrArg some (by kernel_rfl))
 f225:=Tryz.func297.trans (congrArg some (by kernel_rfl))
 f266:=Tryz.func312.trans (congrArg some (by kernel_rfl))
 f267:=Tryz.func299.trans (congrArg some (by kernel_rfl))
 f314:=Tryz.func313.trans (congrArg some (by kernel_rfl))
 t3:=Tryz.underlying3
 a3:=Tryz.isAgg3
 z3:=Tryz.sizeOf3
 v3:=Tryz.zeroValue3
 t4:=Tryz.underlying4
 a4:=Tryz.isAgg4
 z4:=Tryz.sizeOf4
 v4:=Tryz.zeroValue4
 t5:=Tryz.underlying5
 a5:=Tryz.isAgg5
 z5:=Tryz.sizeOf5
 v5:=Tryz.zeroValue5
 t9:=Tryz.underlying9
 a9:=Tryz.isAgg9
 z9:=Tryz.sizeOf9
 v9:=Tryz.zeroValue9
 t46:=Tryz.underlying232
 a46:=Tryz.isAgg232
 z46:=Tryz.sizeOf232
 v46:=Tryz.zeroValue232
 t51:=Tryz.underlying269
 a51:=Tryz.isAgg269
 z51:=Tryz.sizeOf269
 v51:=Tryz.zeroValue269
 t59:=Tryz.underlying188
 a59:=Tryz.isAgg188
 z59:=Tryz.sizeOf188
 v59:=Tryz.zeroValue188
 t146:=Tryz.underlying311
 a146:=Tryz.isAgg311
 z146:=Tryz.sizeOf311
 v146:=Tryz.zeroValue311
 g1:=by kernel_rfl }
open Go.RowKit Go.Lib in
theorem Tryz.strings_Cut (s sep:ByteArray) (m:Int) (w:World) (hs:s.size<4294967281) (hm:w.cell? ⟨0,0,none⟩=some (.int .i64 m)) :
  Calls Tryz.prog 160 #[.string s,.string sep] w fun e w'=>e = .returned (.tuple #[.string ⟨(Lib.cut s.data.toList sep.data.toList).1.toArray⟩,.string ⟨(Lib.cut s.data.toList sep.data.toList).2.1.toArray⟩,.bool (Lib.cut s.data.toList sep.data.toList).2.2])∧∃ n,w'=w.drewN n:=Any.strings_Cut Tryz.qi s sep m w hs hm
def Tryz.AK:Go.Shelf.Ren:=⟨fun | 99=>229 | 206=>271 | n=>n,fun | 9=>9 | 4=>4 | 3=>3 | n=>n,fun | n=>n⟩
theorem Tryz.zZ:Go.Proofs.Lays.n99 Tryz.prog Tryz.AK:={
 mixed:=by kernel_rfl
 f99:=Tryz.func229.trans (congrArg some (by kernel_rfl))
 f206:=Tryz.func271.trans (congrArg some (by kernel_rfl))
 t3:=Tryz.underlying3
 a3:=Tryz.isAgg3
 z3:=Tryz.sizeOf3
 v3:=Tryz.zeroValue3
 t4:=Tryz.underlying4
 a4:=Tryz.isAgg4
 z4:=Tryz.sizeOf4
 v4:=Tryz.zeroValue4
 t9:=Tryz.underlying9
 a9:=Tryz.isAgg9
 z9:=Tryz.sizeOf9
 v9:=Tryz.zeroValue9 }
open Go.RowKit Go.Lib in
theorem Tryz.strings_HasPrefix (s p:ByteArray) (w:World) :
  Calls Tryz.prog 229 #[.string s,.string p] w fun e w'=>e = .returned (.bool (Lib.hasPrefix s.data.toList p.data.toList))∧w'=w:=Any.strings_HasPrefix Tryz.zZ s p w
def Tryz.Ti:Go.Shelf.Ren:=⟨fun | 101=>230 | 208=>272 | 206=>271 | n=>n,fun | 9=>9 | 4=>4 | 3=>3 | n=>n,fun | n=>n⟩
theorem Tryz.qt:Go.Proofs.Lays.n101 Tryz.prog Tryz.Ti:={
 mixed:=by kernel_rfl
 f101:=Tryz.func230.trans (congrArg some (by kernel_rfl))
 f206:=Tryz.func271.trans (congrArg some (by kernel_rfl))
 f208:=Tryz.func272.trans (congrArg some (by kernel_rfl))
 t3:=Tryz.underlying3
 a3:=Tryz.isAgg3
 z3:=Tryz.sizeOf3
 v3:=Tryz.zeroValue3
 t4:=Tryz.underlying4
 a4:=Tryz.isAgg4
 z4:=Tryz.sizeOf4
 v4:=Tryz.zeroValue4
 t9:=Tryz.underlying9
 a9:=Tryz.isAgg9
 z9:=Tryz.sizeOf9
 v9:=Tryz.zeroValue9 }
open Go.RowKit Go.Lib in
theorem Tryz.strings_TrimPrefix (s p:ByteArray) (w:World) :
  Calls Tryz.prog 230 #[.string s,.string p] w fun e w'=>e = .returned (.string ⟨(Lib.trimPrefix s.data.toList p.data.toList).toArray⟩)∧w'=w:=Any.strings_TrimPrefix Tryz.qt s p w
def Tryz.Ta:Go.Shelf.Ren:=⟨fun | 264=>244 | n=>n,fun | 53=>248 | 46=>232 | n=>n,fun | n=>n⟩
theorem Tryz.qf:Go.Proofs.Lays.n264 Tryz.prog Tryz.Ta:={
 mixed:=by kernel_rfl
 f264:=Tryz.func244.trans (congrArg some (by kernel_rfl))
 t46:=Tryz.underlying232
 a46:=Tryz.isAgg232
 z46:=Tryz.sizeOf232
 v46:=Tryz.zeroValue232
 t53:=Tryz.underlying248
 a53:=Tryz.isAgg248
 z53:=Tryz.sizeOf248
 v53:=Tryz.zeroValue248 }
open Go.RowKit Go.Lib in
theorem Tryz.bits_Mul64 (x y:Nat) (hx:x<18446744073709551616) (hy:y<18446744073709551616) (w:World) :
  Calls Tryz.prog 244 #[.int .u64 x,.int .u64 y] w fun e w'=>e = .returned (.tuple #[.int .u64 ((x*y / 18446744073709551616:Nat):Int),.int .u64 ((x*y%18446744073709551616:Nat):Int)])∧w'=w:=Any.bits_Mul64 Tryz.qf x y hx hy w
def Tryz.D9:Go.Shelf.Ren:=⟨fun | 105=>279 | 212=>307 | 99=>229 | 165=>308 | 166=>280 | 170=>309 | 169=>281 | 263=>322 | 264=>244 | 206=>271 | 240=>310 | 241=>323 | 276=>324 | 277=>331 | n=>n,fun | 9=>9 | 3=>3 | 4=>4 | 20=>20 | 0=>0 | 46=>232 | 109=>304 | 5=>5 | 72=>284 | 76=>240 | 51=>269 | 146=>311 | 53=>248 | 148=>249 | 70=>281 | 37=>282 | 75=>239 | 127=>307 | 164=>325 | 80=>247 | n=>n,fun | n=>n⟩
theorem Tryz.qn:Go.Proofs.Lays.n105 Tryz.prog Tryz.D9:={
 mixed:=by kernel_rfl
 f99:=Tryz.func229.trans (congrArg some (by kernel_rfl))
 f105:=Tryz.func279.trans (congrArg some (by kernel_rfl))
 f165:=Tryz.func308.trans (congrArg some (by kernel_rfl))
 f166:=Tryz.func280.trans (congrArg some (by kernel_rfl))
 f169:=Tryz.func281.trans (congrArg some (by kernel_rfl))
 f170:=Tryz.func309.trans (congrArg some (by kernel_rfl))
 f206:=Tryz.func271.trans (congrArg some (by kernel_rfl))
 f212:=Tryz.func307.trans (congrArg some (by kernel_rfl))
 f240:=Tryz.func310.trans (congrArg some (by kernel_rfl))
 f241:=Tryz.func323.trans (congrArg some (by kernel_rfl))
 f263:=Tryz.func322.trans (congrArg some (by kernel_rfl))
 f264:=Tryz.func244.trans (congrArg some (by kernel_rfl))
 f276:=Tryz.func324.trans (congrArg some (by kernel_rfl))
 f277:=Tryz.func331.trans (congrArg some (by kernel_rfl))
 t0:=Tryz.underlying0
 a0:=Tryz.isAgg0
 z0:=Tryz.sizeOf0
 v0:=Tryz.zeroValue0
 t3:=Tryz.underlying3
 a3:=Tryz.isAgg3
 z3:=Tryz.sizeOf3
 v3:=Tryz.zeroValue3
 t4:=Tryz.underlying4
 a4:=Tryz.isAgg4
 z4:=Tryz.sizeOf4
 v4:=Tryz.zeroValue4
 t5:=Tryz.underlying5
 a5:=Tryz.isAgg5
 z5:=Tryz.sizeOf5
 v5:=Tryz.zeroValue5
 t9:=Tryz.underlying9
 a9:=Tryz.isAgg9
 z9:=Tryz.sizeOf9
 v9:=Tryz.zeroValue9
 t20:=Tryz.underlying20
 a20:=Tryz.isAgg20
 z20:=Tryz.sizeOf20
 v20:=Tryz.zeroValue20
 t37:=Tryz.underlying282
 a37:=Tryz.isAgg282
 z37:=Tryz.sizeOf282
 v37:=Tryz.zeroValue282
 t46:=Tryz.underlying232
 a46:=Tryz.isAgg232
 z46:=Tryz.sizeOf232
 v46:=Tryz.zeroValue232
 t51:=Tryz.underlying269
 a51:=Tryz.isAgg269
 z51:=Tryz.sizeOf269
 v51:=Tryz.zeroValue269
 t53:=Tryz.underlying248
 a53:=Tryz.isAgg248
 z53:=Tryz.sizeOf248
 v53:=Tryz.zeroValue248
 t70:=Tryz.underlying281
 a70:=Tryz.isAgg281
 z70:=Tryz.sizeOf281
 v70:=Tryz.zeroValue281
 t72:=Tryz.underlying284
 a72:=Tryz.isAgg284
 z72:=Tryz.sizeOf284
 v72:=Tryz.zeroValue284
 t75:=Tryz.underlying239
 a75:=Tryz.isAgg239
 z75:=Tryz.sizeOf239
 v75:=Tryz.zeroValue239
 t76:=Tryz.underlying240
 a76:=Tryz.isAgg240
 z76:=Tryz.sizeOf240
 v76:=Tryz.zeroValue240
 t109:=Tryz.underlying304
 a109:=Tryz.isAgg304
 z109:=Tryz.sizeOf304
 v109:=Tryz.zeroValue304
 t127:=Tryz.underlying307
 a127:=Tryz.isAgg307
 z127:=Tryz.sizeOf307
 v127:=Tryz.zeroValue307
 t146:=Tryz.underlying311
 a146:=Tryz.isAgg311
 z146:=Tryz.sizeOf311
 v146:=Tryz.zeroValue311
 t148:=Tryz.underlying249
 a148:=Tryz.isAgg249
 z148:=Tryz.sizeOf249
 v148:=Tryz.zeroValue249
 t164:=Tryz.underlying325
 a164:=Tryz.isAgg325
 z164:=Tryz.sizeOf325
 v164:=Tryz.zeroValue325 }
theorem Tryz.B7:Builder.Extra Tryz.prog Tryz.D9:={
 sizeBuilder:=by kernel_rfl
 liesBuilder:=by kernel_rfl
 t5:=Tryz.underlying5
 a5:=Tryz.isAgg5
 z5:=Tryz.sizeOf5
 v5:=Tryz.zeroValue5
 infoByte:=by kernel_rfl
 cellsByte:=by kernel_rfl
 sizeByte:=by kernel_rfl
 neB5:=by decide }
open Go.RowKit Go.Lib in
theorem Tryz.strings_Repeat (s:ByteArray) (c:Nat) (w:World) (hc:c≤9223372036854775807) (hlen:s.size*c≤140737488355328) :
  Calls Tryz.prog 279 #[.string s,.int .i64 c] w fun e w'=>e = .returned (.string ⟨(Lib.repeatL s.data.toList c).toArray⟩)∧Below w.heap.size w w':=Any.strings_Repeat Tryz.qn Tryz.B7 s c w hc hlen
end Go.Proofs
namespace Go.Proofs.YtknegjaeoffnbaaGreatDoor
section
open Go.RowKit
section
variable {P:Program} {N:Nat} {m:Sl} {S:World→Prop} {ty:TypeId} {T yT:TypeId} {x y:Operand} {a b:Nat} {k:IntKind}
theorem Sf (n:Int):IntKind.u64.wrap n=n%18446744073709551616:=IntKind.wrap_u64 n
theorem Ux (hx:ev m x=some (.int .u64 (a:Int))) (hy:ev m y=some (.int k (b:Int))) (z:Nat) (h:b≤64∧a*2^b%18446744073709551616=z):Qt P N m S (.binOp .shl T x y yT) ty (.int .u64 (z:Int)):=fun s w _ _ _ _ ha _=>by
 have h1:min b 64=b:=by omega
 have h2:¬ ((b:Int)<0):=by omega
 have h3:IntKind.u64.wrap ((a:Int)*2^b)=(z:Int):=by
  rw [Sf,← h.2,Int.natCast_emod,Int.natCast_mul,Int.natCast_pow];rfl
 simp [execOp,ha.ev hx,ha.ev hy,eqGuard,binOp,Op.shift,IntKind.bits,h1,h2,h3]
theorem Rc (hx:ev m x=some (.int .u64 (a:Int))) (hy:ev m y=some (.int k (b:Int))) (z:Nat) (h:b≤64∧a / 2^b=z):Qt P N m S (.binOp .shr T x y yT) ty (.int .u64 (z:Int)):=fun s w _ _ _ _ ha _=>by
 have h1:min b 64=b:=by omega
 have h2:¬ ((b:Int)<0):=by omega
 have h3:(a:Int) / 2^b=(z:Int):=by
  rw [← h.2,Int.natCast_ediv,Int.natCast_pow];rfl
 simp [execOp,ha.ev hx,ha.ev hy,eqGuard,binOp,Op.shift,IntKind.bits,h1,h2]
 exact h3
theorem Vd (n:Nat) (h:n<18446744073709551616):(BitVec.ofInt 64 (n:Int)).toNat=n:=by
 rw [BitVec.toNat_ofInt]
 have h3:(((2^64:Nat):Int))=18446744073709551616:=by decide
 rw [h3];omega
theorem L9 (hx:ev m x=some (.int .u64 (a:Int))) (hy:ev m y=some (.int .u64 ((4294967295:Nat):Int))) (z:Nat) (h:a<18446744073709551616∧a%4294967296=z):Qt P N m S (.binOp .and T x y yT) ty (.int .u64 (z:Int)):=fun s w _ _ _ _ ha _=>by
 have e:IntKind.u64.wrap (((BitVec.ofInt 64 (a:Int) &&& BitVec.ofInt 64 ((4294967295:Nat):Int)).toNat:Nat):Int)=(z:Int):=by
  rw [BitVec.toNat_and,Vd a h.1,Vd _ (by decide),show(4294967295:Nat)=2^32 - 1 by decide,Nat.and_two_pow_sub_one_eq_mod,Sf]
  have:=h.2
  omega
 have e2:(do eqGuard .and T x y (.int .u64 (a:Int)) (.int .u64 ((4294967295:Nat):Int));binOp .and T (.int .u64 (a:Int)) (.int .u64 ((4294967295:Nat):Int)):Sem Value).run P w = .ok (.int .u64 (z:Int)) w:=by
  simp only [eqGuard,binOp,Op.intBits,Sem.run_bind,Sem.run_pure,Result.andThen_ok]
  rw [← e];rfl
 simp only [execOp,ha.ev hx,ha.ev hy]
 simp only [Sem.run_bind] at e2 ⊢
 rw [e2];rfl
theorem vT (hx:ev m x=some (.int .u64 (a:Int))) (hy:ev m y=some (.int .u64 (b:Int))) (z:Nat) (h:a<18446744073709551616∧(∃ c k,a=c*2^k∧b<2^k)∧b<18446744073709551616∧a+b=z):Qt P N m S (.binOp .or T x y yT) ty (.int .u64 (z:Int)):=fun s w _ _ _ _ ha _=>by
 obtain ⟨h1,⟨c,k,h2,h3⟩,h4,h5⟩:=h
 have e:IntKind.u64.wrap (((BitVec.ofInt 64 (a:Int) ||| BitVec.ofInt 64 (b:Int)).toNat:Nat):Int)=(z:Int):=by
  have h7:a ||| b=a+b:=by rw [h2,Nat.mul_comm,Nat.two_pow_add_eq_or_of_lt h3]
  have h8:a ||| b<2^64:=Nat.or_lt_two_pow h1 h4
  rw [BitVec.toNat_or,Vd a h1,Vd b h4,Sf]
  omega
 have e2:(do eqGuard .or T x y (.int .u64 (a:Int)) (.int .u64 (b:Int));binOp .or T (.int .u64 (a:Int)) (.int .u64 (b:Int)):Sem Value).run P w = .ok (.int .u64 (z:Int)) w:=by
  simp only [eqGuard,binOp,Op.intBits,Sem.run_bind,Sem.run_pure,Result.andThen_ok]
  rw [← e];rfl
 simp only [execOp,ha.ev hx,ha.ev hy]
 simp only [Sem.run_bind] at e2 ⊢
 rw [e2];rfl
theorem WD (hx:ev m x=some (.int .u64 (a:Int))) (hy:ev m y=some (.int .u64 (b:Int))) (z:Nat) (h:(a+b)%18446744073709551616=z):Qt P N m S (.binOp .add T x y yT) ty (.int .u64 (z:Int)) :=
 QU hx hy (by show some (Value.int .u64 (IntKind.u64.wrap ((a:Int)+b)))=_;rw [Sf];congr 2;omega)
theorem VJ (hx:ev m x=some (.int .u64 (a:Int))) (hy:ev m y=some (.int .u64 (b:Int))) (z:Nat) (h:a*b%18446744073709551616=z):Qt P N m S (.binOp .mul T x y yT) ty (.int .u64 (z:Int)) :=
 QU hx hy (by show some (Value.int .u64 (IntKind.u64.wrap ((a:Int)*b)))=_;rw [Sf,← Int.natCast_mul];congr 2;omega)
theorem WC (hx:ev m x=some (.int .u64 (a:Int))) (hy:ev m y=some (.int .u64 (b:Int))) (z:Nat) (h:b<18446744073709551616∧(a+18446744073709551616 - b)%18446744073709551616=z):Qt P N m S (.binOp .sub T x y yT) ty (.int .u64 (z:Int)) :=
 QU hx hy (by show some (Value.int .u64 (IntKind.u64.wrap ((a:Int) - b)))=_;rw [Sf];congr 2;omega)
theorem Uy (hx:ev m x=some (.int .u64 (a:Int))) (hy:ev m y=some (.int .u64 (b:Int))) (z:Nat) (h:0<b∧a<18446744073709551616∧a / b=z):Qt P N m S (.binOp .quo T x y yT) ty (.int .u64 (z:Int)):=by
 have:=I3 (P:=P) (N:=N) (m:=m) (S:=S) (ty:=ty) (T:=T) (yT:=yT) hx hy (by omega)
 have e:IntKind.u64.wrap ((a:Int).tdiv b)=(z:Int):=by
  have h1:a / b≤a:=Nat.div_le_self a b
  rw [Int.tdiv_eq_ediv_of_nonneg (by omega),← Int.natCast_ediv,Sf,h.2.2]
  omega
 rw [e] at this;exact this
theorem zF (hx:ev m x=some (.int .u64 (a:Int))) (hy:ev m y=some (.int .u64 (b:Int))) (z:Nat) (h:0<b∧a%b=z):Qt P N m S (.binOp .rem T x y yT) ty (.int .u64 (z:Int)):=by
 have:=VH (P:=P) (N:=N) (m:=m) (S:=S) (ty:=ty) (T:=T) (yT:=yT) hx hy (by omega) (by omega)
 rw [← Int.natCast_emod,h.2] at this;exact this
end
section
variable {D yn1 yn0 u un q r:Nat}
theorem Oq (hD:D=4294967296) (h:q*yn1+r=u) (hc:q*yn0≤D*r+un):q*(yn1*D+yn0)≤u*D+un:=by
 subst hD
 rw [Nat.mul_add,← Nat.mul_assoc,← h]
 generalize q*yn1=A at *
 generalize q*yn0=B at *
 omega
theorem q9 (hy:0<yn1*D+yn0) (hq:(u*D+un) / (yn1*D+yn0)≤q) (h:q*(yn1*D+yn0)≤u*D+un):q=(u*D+un) / (yn1*D+yn0) :=
 Nat.le_antisymm ((Nat.le_div_iff_mul_le hy).2 h) hq
theorem DV (hD:D=4294967296) (hy:0<yn1*D+yn0) (h:q*yn1+r=u) (hq:(u*D+un) / (yn1*D+yn0)≤q) (hc:q*yn0≤D*r+un):q=(u*D+un) / (yn1*D+yn0):=q9 hy hq (Oq hD h hc)
theorem Be (hD:D=4294967296) (hy:0<yn1*D+yn0) (h0:yn0<D) (h:q*yn1+r=u) (hq:(u*D+un) / (yn1*D+yn0)≤q) (hqD:q≤D) (hr:D≤r):q=(u*D+un) / (yn1*D+yn0):=by
 refine DV hD hy h hq ?_
 have h1:q*yn0≤D*D:=Nat.mul_le_mul hqD (by omega)
 have h2:D*D≤D*r:=Nat.mul_le_mul_left D hr
 omega
theorem Yb (hD:D=4294967296) (hy:0<yn1*D+yn0) (hu:u<yn1*D+yn0) (hun:un<D) (h:q*yn1+r=u) (hc:D≤q∨D*r+un<q*yn0):(u*D+un) / (yn1*D+yn0)<q:=by
 rw [Nat.div_lt_iff_lt_mul hy]
 rcases hc with hc | hc
 ·have h1:D*(yn1*D+yn0)≤q*(yn1*D+yn0):=Nat.mul_le_mul_right _ hc
  have h2:(u+1)*D≤(yn1*D+yn0)*D:=Nat.mul_le_mul_right _ hu
  rw [Nat.add_mul] at h2
  rw [Nat.mul_comm D] at h1
  omega
 ·subst hD
  rw [Nat.mul_add,← Nat.mul_assoc,← h]
  generalize q*yn1=A at *
  generalize q*yn0=B at *
  omega
theorem NO (hD:D=4294967296) (h1:2147483648≤yn1) (hun:un<D):(u*D+un) / (yn1*D+yn0)≤u / yn1:=by
 have h2:0<yn1*D:=by subst hD;omega
 refine Nat.le_trans (Nat.div_le_div_left (Nat.le_add_right _ yn0) h2) ?_
 rw [Nat.mul_comm yn1,← Nat.div_div_eq_div_mul]
 have:(u*D+un) / D=u:=by subst hD;omega
 rw [this];exact Nat.le_refl _
theorem EB (hD:D=4294967296) (h1:2147483648≤yn1) (h0:yn0<D) (hu:u<yn1*D+yn0):u / yn1≤D+1:=by
 have:u / yn1<D+2:=by
  rw [Nat.div_lt_iff_lt_mul (by omega)]
  subst hD;omega
 omega
end
structure RJ (yn1 yn0 u un:Nat) where
 q:Nat
 r:Nat
 h:q*yn1+r=u
 le:(u*4294967296+un) / (yn1*4294967296+yn0)≤q
 up:q≤4294967297
 lo:r<4294967296
end
section
open Go.RowKit
theorem Ya {q yn1 r u:Nat} (h:q*yn1+r=u) (hq:1≤q):(q - 1)*yn1+(r+yn1)=u:=by
 obtain ⟨k,rfl⟩:∃ k,q=k+1:=⟨q - 1,by omega⟩
 rw [Nat.add_mul] at h
 rw [Nat.add_sub_cancel];omega
theorem FF {q a:Nat} (hq:q<4294967296) (ha:a<4294967296):q*a<18446744073709551616:=by
 have:q*a≤4294967295*4294967295:=Nat.mul_le_mul (by omega) (by omega)
 omega
theorem A0 {P:Program} {N:Nat} {m:Sl} {S:World→Prop} {ty:TypeId} {src dst:TypeId} {x:Operand} {k':IntKind} {n:Nat} (hx:ev m x=some (.int k' (n:Int))) (hs:(P.underlying src).isSome=true) (hk:Py P dst=some .u64) (h:n<18446744073709551616):Qt P N m S (.convert src dst x) ty (.int .u64 (n:Int)):=by
 have:=Pd (P:=P) (N:=N) (m:=m) (S:=S) (ty:=ty) hx hs hk
 rw [Sf,Int.emod_eq_of_lt (by omega) (by omega)] at this;exact this
theorem QT.same [Dr] {P:Program} {f:FuncId} {args:List Value} {w:World} {F:Gs} {v:Value} (he:Enters P f) (hF:Fits F w) (h:Calls P f args.toArray w fun e w'=>e = .returned v∧w'=w):QT P f args w F (fun(_:Unit)=>v) (fun _ _=>True) :=
 ⟨he,h.mono fun e w' ⟨h1,h2⟩=>⟨(),F,h1,by rw [h2];exact PI.refl _,Gs.le_refl F,fun _ _=>rfl,by rw [h2];exact hF,fun _ _=>trivial⟩⟩
theorem A8 {y:Nat} (h0:0<y) (h1:y<18446744073709551616):∃ s:Nat,(64 - (Lib.bitLen y:Int))=s∧s<64∧y*2^s<18446744073709551616∧9223372036854775808≤y*2^s:=by
 obtain ⟨g1,g2,g3⟩:=Lib.bitLenAux_bounds 64 y h1 (by omega)
 have g4:Lib.bitLen y≤64:=Lib.bitLen_le y 64 (by omega) h1
 change 1≤Lib.bitLen y at g1
 change 2^(Lib.bitLen y - 1)≤y at g2
 change y<2^Lib.bitLen y at g3
 generalize Lib.bitLen y=n at *
 refine⟨64 - n,by omega,by omega,?_,?_⟩
 ·have e:2^n*2^(64 - n)=18446744073709551616:=by rw [← Nat.pow_add,show n+(64 - n)=64 by omega]
  rw [← e];exact Nat.mul_lt_mul_of_pos_right g3 (Nat.two_pow_pos _)
 ·have e:2^(n - 1)*2^(64 - n)=9223372036854775808:=by rw [← Nat.pow_add,show n - 1+(64 - n)=63 by omega]
  rw [← e];exact Nat.mul_le_mul_right _ g2
theorem zV {w:World} {F:Gs} {y s:Nat} (hF:Fits F w) (h1:y<18446744073709551616) (hs:(64 - (Lib.bitLen y:Int))=s):QT Tryz.prog 285 [.int .u64 (y:Int)] w F (fun(_:Unit)=>.int .i64 (s:Int)) (fun _ _=>True) :=
 QT.same (enters_of Tryz.func285 (by rfl) rfl) hF ((Tryz.bits_LeadingZeros64 (y:Int) w (by omega) (by omega)).mono fun e w' ⟨h2,h3⟩=>⟨by rw [h2,Int.toNat_natCast,hs],h3⟩)
theorem IL {A B R1 R0 u v v1 v0:Nat} (h1:A+R1=u*4294967296+v1) (h2:B+R0=R1*4294967296+v0) (h3:v=v1*4294967296+v0):A*4294967296+B+R0=u*18446744073709551616+v:=by
 subst h3;omega
theorem Ts {q a r:Nat} (h:((q*a:Nat):Int)>(r:Int)):1≤q:=by
 rcases Nat.eq_zero_or_pos q with h0 | h0
 ·subst h0;simp at h;omega
 ·exact h0
theorem zk {q:Nat} (h:q<4294967296):q*4294967296%18446744073709551616=q*4294967296:=by omega
theorem zo {q p:Nat} (h:q<4294967296) (k:p<4294967296):(q*4294967296+p)%18446744073709551616=q*4294967296+p:=by omega
theorem jJ {w:World} {F:Gs} {h l y:Nat} (hF:Fits F w) (hh:h<y) (hl:l<18446744073709551616) (hy:y<18446744073709551616) :
  QT Tryz.prog 284 [.int .u64 (h:Int),.int .u64 (l:Int),.int .u64 (y:Int)] w F (fun(_:Unit)=>.tuple #[.int .u64 (((h*18446744073709551616+l) / y:Nat):Int),.int .u64 (((h*18446744073709551616+l)%y:Nat):Int)]) (fun _ _=>True):=by
 obtain ⟨s,hs,hs64,hY1,hY2⟩:=A8 (by omega) hy
 obtain ⟨Y,hYe⟩:∃ Y,Y=y*2^s:=⟨_,rfl⟩
 obtain ⟨a1,ha1⟩:∃ a1,a1=Y / 4294967296:=⟨_,rfl⟩
 obtain ⟨a0,ha0⟩:∃ a0,a0=Y%4294967296:=⟨_,rfl⟩
 obtain ⟨u,hu⟩:∃ u,u=h*2^s+l / 2^(64 - s):=⟨_,rfl⟩
 obtain ⟨v,hv⟩:∃ v,v=l*2^s%18446744073709551616:=⟨_,rfl⟩
 obtain ⟨v1,hv1⟩:∃ v1,v1=v / 4294967296:=⟨_,rfl⟩
 obtain ⟨v0,hv0⟩:∃ v0,v0=v%4294967296:=⟨_,rfl⟩
 rw [← hYe] at hY1 hY2
 have hA1:2147483648≤a1:=by omega
 have ha0l:a0<4294967296:=by omega
 have hv1l:v1<4294967296:=by omega
 have hv0l:v0<4294967296:=by omega
 have hYa:a1*4294967296+a0=Y:=by omega
 have e64:2^(64 - s)*2^s=18446744073709551616:=by rw [← Nat.pow_add,show 64 - s+s=64 by omega]
 have hp:=Nat.two_pow_pos s
 have hlow:l / 2^(64 - s)<2^s:=by rw [Nat.div_lt_iff_lt_mul (Nat.two_pow_pos _),Nat.mul_comm,e64];exact hl
 have hhs:h*2^s+2^s≤Y:=by have:=Nat.mul_le_mul_right (2^s) hh;rw [Nat.succ_mul] at this;omega
 have huY:u<Y:=by omega
 have hNv:u*18446744073709551616+v=(h*18446744073709551616+l)*2^s:=by
  have h1:l*2^s / 18446744073709551616=l / 2^(64 - s):=by rw [← e64,Nat.mul_div_mul_right _ _ hp]
  have h2:=Nat.div_add_mod (l*2^s) 18446744073709551616
  rw [h1,← hv] at h2
  rw [hu,Nat.add_mul,Nat.add_mul,Nat.mul_right_comm]
  omega
 obtain ⟨Q1,hQ1⟩:∃ Q1,Q1=(u*4294967296+v1) / (a1*4294967296+a0):=⟨_,rfl⟩
 obtain ⟨R1,hR1⟩:∃ R1,R1=(u*4294967296+v1)%(a1*4294967296+a0):=⟨_,rfl⟩
 have hY0:0<a1*4294967296+a0:=by omega
 have hR1l:R1<Y:=by rw [hR1,← hYa];exact Nat.mod_lt _ hY0
 have hD1:Q1*Y+R1=u*4294967296+v1:=by rw [hQ1,hR1,← hYa,Nat.mul_comm];exact Nat.div_add_mod _ _
 have hQ1l:Q1<4294967296:=by rw [hQ1,Nat.div_lt_iff_lt_mul hY0,hYa];omega
 obtain ⟨Q0,hQ0⟩:∃ Q0,Q0=(R1*4294967296+v0) / (a1*4294967296+a0):=⟨_,rfl⟩
 obtain ⟨R0,hR0⟩:∃ R0,R0=(R1*4294967296+v0)%(a1*4294967296+a0):=⟨_,rfl⟩
 have hR0l:R0<Y:=by rw [hR0,← hYa];exact Nat.mod_lt _ hY0
 have hD0:Q0*Y+R0=R1*4294967296+v0:=by rw [hQ0,hR0,← hYa,Nat.mul_comm];exact Nat.div_add_mod _ _
 have hQ0l:Q0<4294967296:=by rw [hQ0,Nat.div_lt_iff_lt_mul hY0,hYa];omega
 have hall:(Q1*4294967296+Q0)*Y+R0=(h*18446744073709551616+l)*2^s:=by
  rw [← hNv,Nat.add_mul,Nat.mul_right_comm]
  exact IL hD1 hD0 (by omega)
 have hq:(h*18446744073709551616+l) / y=Q1*4294967296+Q0:=by
  have:=Nat.mul_div_mul_right (h*18446744073709551616+l) y hp
  rw [← this,← hall,← hYe,Nat.mul_comm _ Y,Nat.mul_add_div (by omega),Nat.div_eq_of_lt hR0l,Nat.add_zero]
 have hr:(h*18446744073709551616+l)%y=R0 / 2^s:=by
  have:=Nat.mul_mod_mul_right (2^s) (h*18446744073709551616+l) y
  rw [← hall,← hYe,Nat.mul_comm _ Y,Nat.mul_add_mod,Nat.mod_eq_of_lt hR0l] at this
  rw [this,Nat.mul_div_cancel _ hp]
 refine QT.intro (G:=fun _=>True) Tryz.func284 rfl (by rfl) rfl rfl hF (fun F' hF'=>trivial)<|J_sr<|JS_as rfl<|JS_as rfl<|JS_nt<|QG<|J_sr<|JS_mv rfl<|QA (QU rfl rfl rfl)<|QE<|QC ?_
 refine QP rfl (fun hc=>?_) (fun hc=>?_)
 ·exact absurd hc (by simp at hc;omega)
 ·
  refine QO<|QC<|QG<|J_sr<|JS_mv rfl<|JS_mv rfl<|QA (QU rfl rfl rfl)<|QE<|QC ?_
  refine QP rfl (fun hc=>?_) (fun hc=>?_)
  ·exact absurd hc (by simp at hc;omega)
  ·
   refine QO<|QC<|QG<|J_sr<|JS_mv rfl<|QA (QU rfl rfl rfl)<|QE<|QC ?_
   refine QP rfl (fun hc=>?_) (fun hc=>?_)
   ·
    refine QG<|JR subl_r mixed (by kernel_rfl)<|QM (QD rfl)<|QM (QD rfl)<|QM (Uy rfl rfl (l / y) (⟨by omega,by omega,rfl⟩))<|QM (QD rfl)<|QM (QD rfl)<|QM (zF rfl rfl (l%y) (⟨by omega,rfl⟩))<|QM (QF rfl)<|QM (QF rfl)<|Q9<|QC<|QS ?_
    exact JX () rfl (.tmp rfl (.tmp rfl .nil)) (by have h0:h=0:=(by simp at hc;omega);subst h0;simp) (fun _ _=>trivial)
   ·
    refine QO<|QC<|J_sr<|JS_mv rfl<|QH rfl (fun w F hF hG=>zV (s:=s) hF (by omega) hs) (fun c35=>QA (A0 rfl ko xL (by omega))<|JS_as rfl<|JS_nt<|J_sr<|JS_mv rfl<|JS_mv rfl<|QA (Ux rfl rfl (Y) (⟨by omega,by rw [← hYe];omega⟩))<|JS_as rfl<|JS_nt<|J_sr<|JS_mv rfl<|QA (Rc (b:=32) rfl rfl (a1) (⟨by decide,ha1.symm⟩))<|JS_as rfl<|QE<|QC ?_)
    refine J_sr<|JS_mv rfl<|QA (L9 rfl rfl (a0) (⟨by omega,ha0.symm⟩))<|JS_as rfl<|JS_nt<|J_sr<|JS_mv rfl<|JS_mv rfl<|QA (Ux rfl rfl (h*2^s) (⟨by omega,Nat.mod_eq_of_lt (by omega)⟩))<|JS_mv rfl<|JS_mv rfl<|QA (WC (a:=64) rfl rfl (64 - s) (⟨by omega,by omega⟩))<|QA (Rc rfl rfl (l / 2^(64 - s)) (⟨by omega,rfl⟩))<|QA (vT rfl rfl (u) (⟨by omega,⟨h,s,rfl,hlow⟩,by omega,hu.symm⟩))<|JS_as rfl<|JS_nt<|J_sr<|JS_mv rfl<|JS_mv rfl<|QA (Ux rfl rfl (v) (⟨by omega,hv.symm⟩)) ?_
    refine JS_as rfl<|JS_nt<|J_sr<|JS_mv rfl<|QA (Rc (b:=32) rfl rfl (v1) (⟨by decide,hv1.symm⟩))<|JS_as rfl<|JS_nt<|J_sr<|JS_mv rfl<|QA (L9 rfl rfl (v0) (⟨by omega,hv0.symm⟩))<|JS_as rfl<|JS_nt<|J_sr<|JS_mv rfl<|JS_mv rfl<|QA (Uy rfl rfl (u / a1) (⟨by omega,by omega,rfl⟩))<|JS_as rfl<|QE<|QC ?_
    refine J_sr<|JS_mv rfl<|JS_mv rfl<|JS_mv rfl<|QA (VJ rfl rfl (u / a1*a1) (by have:=Nat.div_mul_le_self u a1;omega))<|QA (WC rfl rfl (u%a1) (by have:=Nat.div_add_mod u a1;rw [Nat.mul_comm] at this;have:=Nat.div_mul_le_self u a1;omega))<|JS_as rfl<|QE<|QC ?_
    refine Kj (ι:=Unit) (fun _=>[(2,.int .u64 ((Y:Nat):Int)),(8,.int .u64 ((s:Nat):Int)),(9,.int .u64 ((a1:Nat):Int)),(10,.int .u64 ((a0:Nat):Int)),(11,.int .u64 ((u:Nat):Int)),(13,.int .u64 ((v1:Nat):Int)),(14,.int .u64 ((v0:Nat):Int)),(15,.int .u64 ((Q1:Nat):Int))]) (fun _=>[]) (fun _ _=>True) ?_ ?_
    ·
     refine QX<|Xa (ι:=RJ a1 a0 u v1) (fun i=>[(2,.int .u64 ((Y:Nat):Int)),(8,.int .u64 ((s:Nat):Int)),(9,.int .u64 ((a1:Nat):Int)),(10,.int .u64 ((a0:Nat):Int)),(11,.int .u64 ((u:Nat):Int)),(13,.int .u64 ((v1:Nat):Int)),(14,.int .u64 ((v0:Nat):Int)),(15,.int .u64 ((i.q:Nat):Int)),(16,.int .u64 ((i.r:Nat):Int))]) (fun _=>[]) (fun _ _=>True) (fun i=>i.q) ⟨u / a1,u%a1,by rw [Nat.mul_comm];exact Nat.div_add_mod u a1,NO rfl hA1 hv1l,EB rfl hA1 ha0l (by omega),by have:=Nat.mod_lt u (show a1>0 by omega);omega⟩ ⟨rfl,rfl,rfl,rfl,rfl,rfl,rfl,rfl,rfl,trivial⟩ subl_r (fun _ _=>trivial) (fun i=>QG<|J_sr<|JS_mv rfl<|QA (QU rfl rfl rfl)<|JS_mv rfl ?_)
     refine Qn (t:=69) rfl (fun hb69=>?_) (fun hb69=>?_)
     ·
      refine QN rfl rfl rfl<|QN rfl rfl rfl<|QN rfl rfl rfl<|QN rfl rfl rfl<|QN rfl rfl rfl<|QN rfl rfl rfl<|QN rfl rfl rfl<|QN rfl rfl rfl<|QA (Qj rfl rfl rfl)<|QE<|QC ?_
      refine QP rfl (fun hc=>?_) (fun hc=>?_)
      ·
       refine QO<|QC<|QX<|J_sr<|JS_mv rfl<|QA (WC (b:=1) rfl rfl (i.q - 1) (⟨by decide,by have:=i.up;have:=dec_t hb69;omega⟩))<|JS_as rfl<|JS_nt<|J_sr<|JS_mv rfl<|JS_mv rfl<|QA (WD rfl rfl (i.r+a1) (by have:=i.lo;omega))<|JS_as rfl<|JS_nt<|J_sr<|JS_mv rfl<|QA (QU rfl rfl rfl)<|QE<|QC ?_
       refine QP rfl (fun hc=>?_) (fun hc=>?_)
       ·
        refine Qy ?_
        repeat (first | refine QZ ?_ | refine QV (by rfl) ?_)
        refine Qa ?_
        simp only [decide_eq_true_eq] at *;have more:=Yb (un:=v1) (D:=4294967296) rfl (by omega) (by omega) (by omega) i.h (.inl (by omega));exact XE () ⟨rfl,rfl,rfl,rfl,rfl,rfl,rfl,congrArg (fun n:Nat=>some (Value.int .u64 (n:Int))) ((Be rfl (by omega) ha0l (Ya i.h (by omega)) (by rw [← hQ1];rw [← hQ1] at more;omega) (by have:=i.up;omega) (by omega)).trans hQ1.symm),trivial⟩ subl_r (fun _ _=>trivial)
       ·
        refine QO<|Qk ?_
        simp only [decide_eq_true_eq,decide_eq_false_iff_not] at *;have more:=Yb (un:=v1) (D:=4294967296) rfl (by omega) (by omega) (by omega) i.h (.inl (by omega));exact Ql (⟨i.q - 1,i.r+a1,Ya i.h (by omega),by omega,by have:=i.up;omega,by omega⟩:RJ a1 a0 u v1) (by show i.q - 1<i.q;omega) ⟨rfl,rfl,rfl,rfl,rfl,rfl,rfl,rfl,rfl,trivial⟩ subl_r (fun _ _=>trivial)
      ·
       refine Qy ?_
       repeat (first | refine QZ ?_ | refine QV (by rfl) ?_)
       refine Qa ?_
       cases hc
     ·
      refine QJ rfl rfl<|JS_mv rfl<|QJ rfl rfl<|JS_mv rfl<|QJ rfl rfl<|QA (VJ rfl rfl (i.q*a0) (Nat.mod_eq_of_lt (FF (by have:=dec_f hb69;omega) ha0l)))<|QJ rfl rfl<|JS_mv rfl<|QJ rfl rfl<|QA (VJ (a:=4294967296) rfl rfl (4294967296*i.r) (by have:=i.lo;omega))<|QJ rfl rfl<|JS_mv rfl<|QJ rfl rfl<|QA (WD rfl rfl (4294967296*i.r+v1) (by have:=i.lo;omega))<|QJ rfl rfl<|QA (QU rfl rfl rfl)<|QA (Qh rfl rfl rfl)<|QE<|QC ?_
      refine QP rfl (fun hc=>?_) (fun hc=>?_)
      ·
       refine QO<|QC<|QX<|J_sr<|JS_mv rfl<|QA (WC (b:=1) rfl rfl (i.q - 1) (⟨by decide,by have:=i.up;have:=Ts (dec_t hc);omega⟩))<|JS_as rfl<|JS_nt<|J_sr<|JS_mv rfl<|JS_mv rfl<|QA (WD rfl rfl (i.r+a1) (by have:=i.lo;omega))<|JS_as rfl<|JS_nt<|J_sr<|JS_mv rfl<|QA (QU rfl rfl rfl)<|QE<|QC ?_
       refine QP rfl (fun hc=>?_) (fun hc=>?_)
       ·
        refine Qy ?_
        repeat (first | refine QZ ?_ | refine QV (by rfl) ?_)
        refine Qa ?_
        simp only [decide_eq_true_eq] at *;have more:=Yb (un:=v1) (D:=4294967296) rfl (by omega) (by omega) (by omega) i.h (.inr (by omega));exact XE () ⟨rfl,rfl,rfl,rfl,rfl,rfl,rfl,congrArg (fun n:Nat=>some (Value.int .u64 (n:Int))) ((Be rfl (by omega) ha0l (Ya i.h (by omega)) (by rw [← hQ1];rw [← hQ1] at more;omega) (by have:=i.up;omega) (by omega)).trans hQ1.symm),trivial⟩ subl_r (fun _ _=>trivial)
       ·
        refine QO<|Qk ?_
        simp only [decide_eq_true_eq,decide_eq_false_iff_not] at *;have more:=Yb (un:=v1) (D:=4294967296) rfl (by omega) (by omega) (by omega) i.h (.inr (by omega));exact Ql (⟨i.q - 1,i.r+a1,Ya i.h (by omega),by omega,by have:=i.up;omega,by omega⟩:RJ a1 a0 u v1) (by show i.q - 1<i.q;omega) ⟨rfl,rfl,rfl,rfl,rfl,rfl,rfl,rfl,rfl,trivial⟩ subl_r (fun _ _=>trivial)
      ·
       refine Qy ?_
       repeat (first | refine QZ ?_ | refine QV (by rfl) ?_)
       refine Qa ?_
       simp only [decide_eq_false_iff_not] at *;exact XE () ⟨rfl,rfl,rfl,rfl,rfl,rfl,rfl,congrArg (fun n:Nat=>some (Value.int .u64 (n:Int))) ((DV rfl (by omega) i.h i.le (by omega)).trans hQ1.symm),trivial⟩ subl_r (fun _ _=>trivial)
    ·intro i
     refine J_sr<|JS_mv rfl<|QA (VJ (b:=4294967296) rfl rfl (u*4294967296%18446744073709551616) (rfl))<|JS_mv rfl<|QA (WD rfl rfl ((u*4294967296+v1)%18446744073709551616) (by omega))<|JS_mv rfl<|JS_mv rfl<|QA (VJ rfl rfl (Q1*Y%18446744073709551616) (rfl))<|QA (WC rfl rfl (R1) (⟨by omega,by generalize Q1*Y=B at *;omega⟩))<|JS_as rfl<|JS_nt<|J_sr<|JS_mv rfl<|JS_mv rfl<|QA (Uy rfl rfl (R1 / a1) (⟨by omega,by omega,rfl⟩))<|JS_as rfl<|JS_nt<|J_sr<|JS_mv rfl<|JS_mv rfl ?_
     refine JS_mv rfl<|QA (VJ rfl rfl (R1 / a1*a1) (by have:=Nat.div_mul_le_self R1 a1;omega))<|QA (WC rfl rfl (R1%a1) (by have:=Nat.div_add_mod R1 a1;rw [Nat.mul_comm] at this;have:=Nat.div_mul_le_self R1 a1;omega))<|JS_as rfl<|QE<|QC ?_
     refine Kj (ι:=Unit) (fun _=>[(2,.int .u64 ((Y:Nat):Int)),(8,.int .u64 ((s:Nat):Int)),(14,.int .u64 ((v0:Nat):Int)),(15,.int .u64 ((Q1:Nat):Int)),(17,.int .u64 ((R1:Nat):Int)),(18,.int .u64 ((Q0:Nat):Int))]) (fun _=>[]) (fun _ _=>True) ?_ ?_
     ·
      refine QX<|Xa (ι:=RJ a1 a0 R1 v0) (fun i=>[(2,.int .u64 ((Y:Nat):Int)),(8,.int .u64 ((s:Nat):Int)),(9,.int .u64 ((a1:Nat):Int)),(10,.int .u64 ((a0:Nat):Int)),(14,.int .u64 ((v0:Nat):Int)),(15,.int .u64 ((Q1:Nat):Int)),(17,.int .u64 ((R1:Nat):Int)),(18,.int .u64 ((i.q:Nat):Int)),(16,.int .u64 ((i.r:Nat):Int))]) (fun _=>[]) (fun _ _=>True) (fun i=>i.q) ⟨R1 / a1,R1%a1,by rw [Nat.mul_comm];exact Nat.div_add_mod R1 a1,NO rfl hA1 hv0l,EB rfl hA1 ha0l (by omega),by have:=Nat.mod_lt R1 (show a1>0 by omega);omega⟩ ⟨rfl,rfl,rfl,rfl,rfl,rfl,rfl,rfl,rfl,trivial⟩ subl_r (fun _ _=>trivial) (fun i=>QG<|J_sr<|JS_mv rfl<|QA (QU rfl rfl rfl)<|JS_mv rfl ?_)
      refine Qn (t:=104) rfl (fun hb104=>?_) (fun hb104=>?_)
      ·
       refine QN rfl rfl rfl<|QN rfl rfl rfl<|QN rfl rfl rfl<|QN rfl rfl rfl<|QN rfl rfl rfl<|QN rfl rfl rfl<|QN rfl rfl rfl<|QN rfl rfl rfl<|QA (Qj rfl rfl rfl)<|QE<|QC ?_
       refine QP rfl (fun hc=>?_) (fun hc=>?_)
       ·
        refine QO<|QC<|QX<|J_sr<|JS_mv rfl<|QA (WC (b:=1) rfl rfl (i.q - 1) (⟨by decide,by have:=i.up;have:=dec_t hb104;omega⟩))<|JS_as rfl<|JS_nt<|J_sr<|JS_mv rfl<|JS_mv rfl<|QA (WD rfl rfl (i.r+a1) (by have:=i.lo;omega))<|JS_as rfl<|JS_nt<|J_sr<|JS_mv rfl<|QA (QU rfl rfl rfl)<|QE<|QC ?_
        refine QP rfl (fun hc=>?_) (fun hc=>?_)
        ·
         refine Qy ?_
         repeat (first | refine QZ ?_ | refine QV (by rfl) ?_)
         refine Qa ?_
         simp only [decide_eq_true_eq] at *;have more:=Yb (un:=v0) (D:=4294967296) rfl (by omega) (by omega) (by omega) i.h (.inl (by omega));exact XE () ⟨rfl,rfl,rfl,rfl,rfl,congrArg (fun n:Nat=>some (Value.int .u64 (n:Int))) ((Be rfl (by omega) ha0l (Ya i.h (by omega)) (by rw [← hQ0];rw [← hQ0] at more;omega) (by have:=i.up;omega) (by omega)).trans hQ0.symm),trivial⟩ subl_r (fun _ _=>trivial)
        ·
         refine QO<|Qk ?_
         simp only [decide_eq_true_eq,decide_eq_false_iff_not] at *;have more:=Yb (un:=v0) (D:=4294967296) rfl (by omega) (by omega) (by omega) i.h (.inl (by omega));exact Ql (⟨i.q - 1,i.r+a1,Ya i.h (by omega),by omega,by have:=i.up;omega,by omega⟩:RJ a1 a0 R1 v0) (by show i.q - 1<i.q;omega) ⟨rfl,rfl,rfl,rfl,rfl,rfl,rfl,rfl,rfl,trivial⟩ subl_r (fun _ _=>trivial)
       ·
        refine Qy ?_
        repeat (first | refine QZ ?_ | refine QV (by rfl) ?_)
        refine Qa ?_
        cases hc
      ·
       refine QJ rfl rfl<|JS_mv rfl<|QJ rfl rfl<|JS_mv rfl<|QJ rfl rfl<|QA (VJ rfl rfl (i.q*a0) (Nat.mod_eq_of_lt (FF (by have:=dec_f hb104;omega) ha0l)))<|QJ rfl rfl<|JS_mv rfl<|QJ rfl rfl<|QA (VJ (a:=4294967296) rfl rfl (4294967296*i.r) (by have:=i.lo;omega))<|QJ rfl rfl<|JS_mv rfl<|QJ rfl rfl<|QA (WD rfl rfl (4294967296*i.r+v0) (by have:=i.lo;omega))<|QJ rfl rfl<|QA (QU rfl rfl rfl)<|QA (Qh rfl rfl rfl)<|QE<|QC ?_
       refine QP rfl (fun hc=>?_) (fun hc=>?_)
       ·
        refine QO<|QC<|QX<|J_sr<|JS_mv rfl<|QA (WC (b:=1) rfl rfl (i.q - 1) (⟨by decide,by have:=i.up;have:=Ts (dec_t hc);omega⟩))<|JS_as rfl<|JS_nt<|J_sr<|JS_mv rfl<|JS_mv rfl<|QA (WD rfl rfl (i.r+a1) (by have:=i.lo;omega))<|JS_as rfl<|JS_nt<|J_sr<|JS_mv rfl<|QA (QU rfl rfl rfl)<|QE<|QC ?_
        refine QP rfl (fun hc=>?_) (fun hc=>?_)
        ·
         refine Qy ?_
         repeat (first | refine QZ ?_ | refine QV (by rfl) ?_)
         refine Qa ?_
         simp only [decide_eq_true_eq] at *;have more:=Yb (un:=v0) (D:=4294967296) rfl (by omega) (by omega) (by omega) i.h (.inr (by omega));exact XE () ⟨rfl,rfl,rfl,rfl,rfl,congrArg (fun n:Nat=>some (Value.int .u64 (n:Int))) ((Be rfl (by omega) ha0l (Ya i.h (by omega)) (by rw [← hQ0];rw [← hQ0] at more;omega) (by have:=i.up;omega) (by omega)).trans hQ0.symm),trivial⟩ subl_r (fun _ _=>trivial)
        ·
         refine QO<|Qk ?_
         simp only [decide_eq_true_eq,decide_eq_false_iff_not] at *;have more:=Yb (un:=v0) (D:=4294967296) rfl (by omega) (by omega) (by omega) i.h (.inr (by omega));exact Ql (⟨i.q - 1,i.r+a1,Ya i.h (by omega),by omega,by have:=i.up;omega,by omega⟩:RJ a1 a0 R1 v0) (by show i.q - 1<i.q;omega) ⟨rfl,rfl,rfl,rfl,rfl,rfl,rfl,rfl,rfl,trivial⟩ subl_r (fun _ _=>trivial)
       ·
        refine Qy ?_
        repeat (first | refine QZ ?_ | refine QV (by rfl) ?_)
        refine Qa ?_
        simp only [decide_eq_false_iff_not] at *;exact XE () ⟨rfl,rfl,rfl,rfl,rfl,congrArg (fun n:Nat=>some (Value.int .u64 (n:Int))) ((DV rfl (by omega) i.h i.le (by omega)).trans hQ0.symm),trivial⟩ subl_r (fun _ _=>trivial)
     ·intro i
      refine J_sr<|JS_mv rfl<|QA (VJ (b:=4294967296) rfl rfl (Q1*4294967296) (zk hQ1l))<|JS_mv rfl<|QA (WD rfl rfl (Q1*4294967296+Q0) (zo hQ1l hQ0l))<|JS_mv rfl<|QA (VJ (b:=4294967296) rfl rfl (R1*4294967296%18446744073709551616) (rfl))<|JS_mv rfl<|QA (WD rfl rfl ((R1*4294967296+v0)%18446744073709551616) (by omega))<|JS_mv rfl<|JS_mv rfl<|QA (VJ rfl rfl (Q0*Y%18446744073709551616) (rfl))<|QA (WC rfl rfl (R0) (⟨by omega,by generalize Q0*Y=B at *;omega⟩))<|JS_mv rfl<|QA (Rc rfl rfl (R0 / 2^s) (⟨by omega,rfl⟩))<|JS_as rfl<|JS_as rfl<|JS_nt<|QS ?_
      exact JX () rfl (.tmp rfl (.tmp rfl .nil)) (by rw [hq,hr]) (fun _ _=>trivial)
end
section
open Go.RowKit Ig
def Xm (x y:Int):Int:=x*y / W
def Jv (x y:Int):Int:=x*y%W
theorem YZ (x y:Int) (w:World) (hx:0≤x∧x<W) (hy:0≤y∧y<W) :
  Calls Tryz.prog 244 #[.int .u64 x,.int .u64 y] w fun e w'=>e = .returned (.tuple #[.int .u64 (Xm x y),.int .u64 (Jv x y)])∧w=w':=by
 obtain ⟨a,rfl⟩:=Int.eq_ofNat_of_zero_le hx.1
 obtain ⟨b,rfl⟩:=Int.eq_ofNat_of_zero_le hy.1
 have hW:W=18446744073709551616:=rfl
 refine(Tryz.bits_Mul64 a b (by omega) (by omega) w).mono ?_
 rintro e w' ⟨rfl,rfl⟩
 refine⟨?_,rfl⟩
 unfold Xm Jv
 rw [hW]
 simp only [Int.natCast_ediv,Int.natCast_emod,Int.natCast_mul]
 rfl
def AY (h l y:Int):Int:=(h*W+l) / y
def IX (h l y:Int):Int:=(h*W+l)%y
def Uq (w:World):Gs:=fun b=>match w.heap[b]? with | some (.cells c T _)=>some (c,T) | _=>none
theorem S5 (w:World):Fits (Uq w) w:=by
 refine⟨fun b c T h=>?_,fun b c fr h=>?_⟩
 ·unfold Uq at h
  split at h
  ·rename_i c' T' fr e;cases h;exact⟨fr,e⟩
  ·cases h
 ·unfold Uq;rw [h]
theorem P5 (h l y:Int) (w:World) (hh:0≤h∧h<y) (hl:0≤l∧l<W) (hy:y<W) :
  Calls Tryz.prog 284 #[.int .u64 h,.int .u64 l,.int .u64 y] w fun e w'=>e = .returned (.tuple #[.int .u64 (AY h l y),.int .u64 (IX h l y)])∧Ext w w':=by
 obtain ⟨a,rfl⟩:=Int.eq_ofNat_of_zero_le hh.1
 obtain ⟨b,rfl⟩:=Int.eq_ofNat_of_zero_le hl.1
 obtain ⟨c,rfl⟩:=Int.eq_ofNat_of_zero_le (show 0≤y by omega)
 have hW:W=18446744073709551616:=rfl
 refine(jJ (S5 w) (h:=a) (l:=b) (y:=c) (by omega) (by omega) (by omega)).2.mono ?_
 rintro e w' ⟨_,F',rfl,hx,_⟩
 refine⟨?_,hx.toBelow⟩
 unfold AY IX
 rw [hW]
 simp only [Int.natCast_ediv,Int.natCast_emod,Int.natCast_mul,Int.natCast_add]
 rfl
theorem Og (x:Int) (w:World) (hx:0<x∧x<W) :
  Calls Tryz.prog 285 #[.int .u64 x] w fun e w'=>(∃ s:Nat,e = .returned (.int .i64 s)∧s<64∧x*2^s<W∧9223372036854775808≤x*2^s)∧w=w':=by
 obtain ⟨a,rfl⟩:=Int.eq_ofNat_of_zero_le (show 0≤x by omega)
 have hW:W=18446744073709551616:=rfl
 obtain ⟨s,h1,h2,h3,h4⟩:=A8 (y:=a) (by omega) (by omega)
 refine(Tryz.bits_LeadingZeros64 (a:Int) w (by omega) (by omega)).mono ?_
 rintro e w' ⟨rfl,rfl⟩
 refine⟨⟨s,?_,h2,?_,?_⟩,rfl⟩
 ·rw [Int.toNat_natCast,h1]
 ·rw [hW];have:((a*2^s:Nat):Int)<18446744073709551616:=by omega
  simpa [Int.natCast_mul,Int.natCast_pow] using this
 ·have:(9223372036854775808:Int)≤((a*2^s:Nat):Int):=by omega
  simpa [Int.natCast_mul,Int.natCast_pow] using this
end
section
open Go.RowKit Ig
theorem Ex {x y o c:Int} (hx:0≤x∧x<W) (hy:0≤y∧y<W) (ho:0≤o∧o<W) (hc:0≤c∧c<W) :
  (0≤Xm x y∧Xm x y<W)∧(0≤Jv x y∧Jv x y<W) ∧
  (0≤XC (Jv x y) o 0∧XC (Jv x y) o 0<W) ∧
  (0≤Xm x y+Xd (Jv x y) o 0∧Xm x y+Xd (Jv x y) o 0<W) ∧
  (0≤XC (XC (Jv x y) o 0) c 0∧XC (XC (Jv x y) o 0) c 0<W) ∧
  (0≤Xm x y+Xd (Jv x y) o 0+Xd (XC (Jv x y) o 0) c 0∧Xm x y+Xd (Jv x y) o 0+Xd (XC (Jv x y) o 0) c 0<W) ∧
  XC (XC (Jv x y) o 0) c 0+W*(Xm x y+Xd (Jv x y) o 0+Xd (XC (Jv x y) o 0) c 0)=x*y+o+c:=by
 have hm0:0≤x*y:=Int.mul_nonneg hx.1 hy.1
 have hm1:x*y≤(W - 1)*(W - 1):=Int.mul_le_mul (by omega) (by omega) hy.1 (by simp only [WV];omega)
 have e1:Jv x y+W*Xm x y=x*y:=by unfold Jv Xm;rw [Int.add_comm];exact Int.mul_ediv_add_emod _ _
 have l0:0≤Jv x y:=Int.emod_nonneg _ (by decide)
 have l1:Jv x y<W:=Int.emod_lt_of_pos _ Jj
 have h0:0≤Xm x y:=Int.ediv_nonneg hm0 (by decide)
 generalize x*y=m at *
 generalize Jv x y=lo at *
 generalize Xm x y=hi at *
 have a:=WU (x:=lo) (y:=o) (c:=0) ⟨l0,l1⟩ ho (by decide)
 generalize XC lo o 0=lo1 at *
 generalize Xd lo o 0=c1 at *
 have a':=WU (x:=lo1) (y:=c) (c:=0) a.2.1 hc (by decide)
 generalize XC lo1 c 0=lo2 at *
 generalize Xd lo1 c 0=c2 at *
 simp only [WV] at *
 omega
def Ys (la lb:List Int) (i j:Nat) (x:Int) (o:List Int) (c:Int):Prop :=
 o.length=la.length+lb.length∧DG W o∧(∀ p,i+lb.length≤p→Qb o p=0)∧(0≤c∧c<W) ∧
  dv W o+W^(i+j)*c=dv W (la.take i)*dv W lb+W^i*(x*dv W (lb.take j))
theorem Ys.step {la lb o:List Int} {i j:Nat} {x c:Int} (h:Ys la lb i j x o c) (hx:0≤x∧x<W) (hb:DG W lb) (hj:j<lb.length) (hi:i<la.length) :
  Ys la lb i (j+1) x (o.set (i+j) (XC (XC (Jv x (Qb lb j)) (Qb o (i+j)) 0) c 0))
   (Xm x (Qb lb j)+Xd (Jv x (Qb lb j)) (Qb o (i+j)) 0+Xd (XC (Jv x (Qb lb j)) (Qb o (i+j)) 0) c 0):=by
 obtain ⟨h1,h2,h3,h4,h5⟩:=h
 obtain ⟨_,_,_,_,m1,m2,m3⟩:=Ex hx (JW hb j) (JW h2 (i+j)) h4
 refine⟨by simpa using h1,h2.set _ m1.1 m1.2,?_,m2,?_⟩
 ·intro p hp
  rw [Ve (by omega),if_neg (by omega)];exact h3 p hp
 ·rw [GF W (by omega),J6,← Nat.add_assoc,Int.pow_succ]
  generalize XC (XC (Jv x (Qb lb j)) (Qb o (i+j)) 0) c 0=lo at *
  generalize Xm x (Qb lb j)+Xd (Jv x (Qb lb j)) (Qb o (i+j)) 0+Xd (XC (Jv x (Qb lb j)) (Qb o (i+j)) 0) c 0=hi at *
  have e:W^(i+j)*(lo+W*hi)=W^(i+j)*(x*Qb lb j+Qb o (i+j)+c):=by rw [m3]
  rw [Int.pow_add] at *
  grind
theorem Ys.row {la lb o:List Int} {i:Nat} {x c:Int} (h:Ys la lb i lb.length x o c) (hi:i<la.length) (hx:x=Qb la i) :
  Ys la lb (i+1) 0 0 (o.set (i+lb.length) c) 0:=by
 obtain ⟨h1,h2,h3,h4,h5⟩:=h
 refine⟨by simpa using h1,h2.set _ h4.1 h4.2,?_,⟨Int.le_refl _,Jj⟩,?_⟩
 ·intro p hp
  rw [Ve (by omega),if_neg (by omega)];exact h3 p (by omega)
 ·rw [GF W (by omega),h3 _ (Nat.le_refl _),J6,← hx]
  rw [List.take_length] at h5
  simp only [Int.mul_zero,Int.add_zero,Int.zero_mul,Int.sub_zero]
  rw [h5];grind
theorem Ys.start (la lb:List Int):Ys la lb 0 0 0 (List.replicate (la.length+lb.length) 0) 0:=by
 refine⟨by simp,DG.replicate Jj _,?_,⟨Int.le_refl _,Jj⟩,by rw [NX];simp⟩
 intro p _;unfold Qb;split<;>simp
theorem Ys.next {la lb o:List Int} {i:Nat} {c y:Int} (h:Ys la lb i 0 0 o c) (x:Int) (hc:c=0) (hy:y=0):Ys la lb i 0 x o y:=by
 obtain ⟨h1,h2,h3,h4,h5⟩:=h
 subst hc hy
 exact⟨h1,h2,h3,h4,by simpa using h5⟩
theorem BV (v v':Value) (la lb:List Int) (w:World) (ha:DG W la) (hb:DG W lb) (hs:SL w v JY la) (hs':SL w v' JY lb) (h1:la.length≤100000000000) (h2:lb.length≤100000000000) :
  Calls Tryz.prog 246 #[v,v'] w fun e w'=>ZG w (fun v w'=>∃ l,SL w' v JY l∧DG W l∧NZ l∧dv W l=dv W la*dv W lb) e w':=by
 obtain ⟨q,cap,rfl,hcap,hmax,hca⟩:=hs
 obtain ⟨q',cap',rfl,hcap',hmax',hcb⟩:=hs'
 have HA:=Lib.hid hca;clear hca
 have HB:=Lib.hid hcb;clear hcb
 have hmk:=fun w=>Z2 (la.length+lb.length) (by omega) w
 have ec:((la.length+lb.length:Nat):Int)=(la.length:Int)+lb.length:=by omega
 simp only [ec] at hmk
 clear ec
 go_enter Tryz.func246,Tryz.ntmps246
 go_wp2
 go_loopw [22] (fun i wr=>∃ (k:Nat) (o:List Int),k≤la.length∧i = .int .i64 k∧Ys la lb k 0 0 o 0∧YD wr w.heap.size 248 JY o∧Ext w wr)
  (fun i _=>la.length - (intOf i).toNat)
 case atStart=>exact⟨0,_,Nat.zero_le _,rfl,Ys.start la lb,YD.made w _ JY 0 _ _ rfl,(Ext.refl _).alloc _⟩
 case round =>
  obtain ⟨k,o,hk,rfl,hI,hBl,hE⟩:=hrel
  rename_i wr _
  obtain ⟨wo,rfl⟩:∃ wo:World,wo=wr:=⟨_,rfl⟩
  clear hmk
  by_cases hlt:k<la.length
  ·obtain ⟨b,off,rfl,hbl,hc⟩:=HA.out k hlt
   rw [Zd hlt] at hc
   have hc:=hE.cell hc
   simp only [JY] at hc
   have hx:=JW ha k
   have HI:=Lib.hid hI;clear hI
   have HBl:=Lib.hid hBl;clear hBl
   go_wp2
   go_loopw [29,8] (fun j c wr=>∃ (m:Nat) (o:List Int) (cc:Int),m≤lb.length∧j = .int .i64 m∧c = .int .u64 cc∧Ys la lb k m (Qb la k) o cc∧YD wr w.heap.size 248 JY o∧Ext w wr)
    (fun j _ _=>lb.length - (intOf j).toNat)
   case atStart=>exact⟨0,o,0,Nat.zero_le _,rfl,rfl,HI.out.next _ rfl rfl,HBl.out,hE⟩
   case round =>
    clear HI HBl hE hc
    obtain ⟨m,o,cc,hm,rfl,rfl,hI,hBl,hE⟩:=hrel
    by_cases hlt2:m<lb.length
    ·obtain ⟨b2,off2,rfl,hb2,hc2⟩:=HB.out m hlt2
     rw [Zd hlt2] at hc2
     have hc2:=hE.cell hc2
     simp only [JY] at hc2
     have hst:=hI.step hx hb hlt2 hlt
     obtain ⟨hd1,hd2,hd3,hd4,hd5⟩:=hI
     clear hd3 hd5
     have hd1':=Lib.hid hd1
     have hol:k+m<o.length:=by omega
     clear hd1
     have hy:=JW hb m
     have ho:=JW hd2 (k+m)
     have hcell:=hBl.cell (i:=k+m) hol
     rw [Zd hol] at hcell
     simp only [JY] at hcell
     have hfr:=hBl.frozen (k+m)
     have HBs:=Lib.hid (hBl.set (k+m) (XC (XC (Jv (Qb la k) (Qb lb m)) (Qb o (k+m)) 0) cc 0))
     have HS:=Lib.hid hst
     clear hst hBl
     obtain ⟨g1,g2,g3,g4,g5,g6,_⟩:=Ex hx hy ho hd4
     generalize hmy:Xm (Qb la k) (Qb lb m)=mh at *
     generalize hml:Jv (Qb la k) (Qb lb m)=ml at *
     have HMH:=Lib.hid hmy
     have HML:=Lib.hid hml
     clear hmy hml
     have ha1:=fun w=>YW ml (Qb o (k+m)) 0 g2.1 ho.1 (by decide) (by decide) w
     have ha2:=fun w=>YW (XC ml (Qb o (k+m)) 0) cc 0 g3.1 hd4.1 (by decide) (by decide) w
     have b1:0≤mh+Xd ml (Qb o (k+m)) 0:=g4.1
     have b2:mh+Xd ml (Qb o (k+m)) 0≤18446744073709551615:=by have:=g4.2;simp only [WV] at this;omega
     have b3:0≤mh+Xd ml (Qb o (k+m)) 0+Xd (XC ml (Qb o (k+m)) 0) cc 0:=g6.1
     have b4:mh+Xd ml (Qb o (k+m)) 0+Xd (XC ml (Qb o (k+m)) 0) cc 0≤18446744073709551615:=by have:=g6.2;simp only [WV] at this;omega
     go_wp2_with (go_at_call 244;refine(YZ _ _ _ hx hy).mono ?_;rw [HMH.out,HML.out];rintro e w' ⟨rfl,rfl⟩)
     go_roundw
     case rel=>exact⟨m+1,_,_,by omega,by go_num,rfl,HS.out,HBs.out,Below.setCell hE (by simp) _⟩
     case measure=>simp [intOf];omega
    ·have hk':m=lb.length:=by omega
     subst hk'
     have hst:=hI.row hlt rfl
     obtain ⟨hd1,hd2,hd3,hd4,hd5⟩:=hI
     clear hd3 hd5
     have hol:k+lb.length<o.length:=by omega
     clear hd1
     have hcell:=hBl.cell (i:=k+lb.length) hol
     rw [Zd hol] at hcell
     simp only [JY] at hcell
     have hfr:=hBl.frozen (k+lb.length)
     have HBs:=Lib.hid (hBl.set (k+lb.length) cc)
     have HS:=Lib.hid hst
     clear hst hBl
     go_wp2
     go_roundw
     case rel=>exact⟨k+1,_,by omega,by go_num,HS.out,HBs.out,Below.setCell hE (by simp) _⟩
     case measure=>simp [intOf];omega
  ·have hk':k=la.length:=by omega
   subst hk'
   obtain ⟨hd1,hd2,hd3,hd4,hd5⟩:=hI
   have hSL:=SL.W8 hBl (la.length+lb.length) (by omega) (by omega)
   rw [List.take_of_length_le (by omega),hd1] at hSL
   have HSL:=Lib.hid hSL
   rw [List.take_length] at hd5
   have HF:=Lib.hid hd5
   clear hd5 hSL hd1 hBl
   go_wp2_with (go_at_call 283;refine(KD _ _ _ HSL.out).mono ?_;rintro e w' ⟨⟨v',rfl,hv⟩,rfl⟩)
   go_ret
   exact⟨_,rfl,⟨_,hv,hd2.Q2,Xh _,by rw [XB];have:=HF.out;simpa using this⟩,hE⟩
end
section
open Go.RowKit Ig
def p2 (s:Nat):Int:=2^s
theorem Zp (s:Nat):0<p2 s:=Int.pow_pos (by decide)
theorem WI {s:Nat} (h:s<64):p2 (64 - s)*p2 s=W:=by
 unfold p2;rw [← Int.pow_add,show 64 - s+s=64 from by omega];rfl
theorem Rn:p2 0=1:=rfl
theorem xC {s:Nat} (h:s<64):2*p2 s≤W:=by
 have h1:=WI h
 have h2:2≤p2 (64 - s):=by
  unfold p2;rw [show 64 - s=(63 - s)+1 from by omega,Int.pow_succ]
  have:=Zp (63 - s);unfold p2 at this;omega
 have h3:2*p2 s≤p2 (64 - s)*p2 s:=Int.mul_le_mul_of_nonneg_right h2 (Int.le_of_lt (Zp s))
 omega
theorem Ar {x:Int} {s:Nat} (hs:s<64):x*p2 s%W=p2 s*(x%p2 (64 - s)):=by
 rw [← WI hs,Int.mul_comm (p2 (64 - s)) (p2 s),Int.mul_comm x (p2 s),Int.mul_emod_mul_of_pos _ _ (Zp s)]
theorem Lk {x:Int} {s:Nat} (hs:s<64):x*p2 s / W=x / p2 (64 - s):=by
 rw [← WI hs];exact Int.mul_ediv_mul_of_pos_left x _ (Zp s)
theorem Ro {x h:Int} {s:Nat} (hs:s<64) (h0:0≤h) (h1:h<p2 s):bits .or .u64 h (x*p2 s%W)=h+x*p2 s%W∧h+x*p2 s%W<W:=by
 have e:=Ar (x:=x) hs
 have k0:=Zp (64 - s)
 have b0:0≤x%p2 (64 - s):=Int.emod_nonneg _ (by omega)
 have b1:x%p2 (64 - s)<p2 (64 - s):=Int.emod_lt_of_pos _ k0
 have hb:p2 s*(x%p2 (64 - s))+h<W:=by
  have:p2 s*(x%p2 (64 - s)+1)≤p2 s*p2 (64 - s):=Int.mul_le_mul_of_nonneg_left (by omega) (Int.le_of_lt (Zp s))
  rw [Int.mul_comm (p2 s) (p2 (64 - s)),WI hs,Int.mul_add] at this;omega
 have hb0:0≤p2 s*(x%p2 (64 - s)):=Int.mul_nonneg (Int.le_of_lt (Zp s)) b0
 rw [e]
 refine⟨?_,by omega⟩
 obtain ⟨a,ha⟩:=Int.eq_ofNat_of_zero_le b0
 obtain ⟨c,rfl⟩:=Int.eq_ofNat_of_zero_le h0
 rw [ha] at *
 have e2:p2 s*(a:Int)=((2^s*a:Nat):Int):=by simp [p2]
 have h1':c<2^s:=by
  have:(c:Int)<((2^s:Nat):Int):=(by simpa [p2] using h1);omega
 rw [e2] at hb ⊢
 have hW:=WV
 rw [u64_or_nat _ _ (by omega) (by omega),Nat.or_comm,← Nat.two_pow_add_eq_or_of_lt h1']
 omega
def Dg (l:List Int) (s k:Nat) (ds:List Int) (h:Int):Prop :=
 ds.length=k∧DG W ds∧(0≤h∧h<p2 s)∧dv W ds+W^k*h=dv W (l.take k)*p2 s
theorem Dg.step {l ds:List Int} {s k:Nat} {h:Int} (hi:Dg l s k ds h) (hs:s<64) (hl:DG W l) :
  Dg l s (k+1) (ds++[h+Qb l k*p2 s%W]) (Qb l k / p2 (64 - s)):=by
 obtain ⟨h1,h2,h3,h4⟩:=hi
 obtain ⟨_,b⟩:=Ro (x:=Qb l k) hs h3.1 h3.2
 have hd:=JW hl k
 have l0:0≤Qb l k*p2 s%W:=Int.emod_nonneg _ (by decide)
 have q:=Int.mul_ediv_add_emod (Qb l k*p2 s) W
 have hk:0≤Qb l k / p2 (64 - s)∧Qb l k / p2 (64 - s)<p2 s:=by
  refine⟨Int.ediv_nonneg hd.1 (Int.le_of_lt (Zp _)),?_⟩
  refine Int.ediv_lt_of_lt_mul (Zp _) ?_
  rw [Int.mul_comm,WI hs];exact hd.2
 refine⟨by simp [h1],h2.append (DG.cons (by omega) b (DG.nil _)),hk,?_⟩
 rw [XS,h1,J6,Int.pow_succ,← Lk hs]
 generalize Qb l k*p2 s / W=a at *
 generalize Qb l k*p2 s%W=c at *
 have e:W^k*(W*a+c)=W^k*(Qb l k*p2 s):=by rw [q]
 grind
theorem Dg.zero {l ds:List Int} {k:Nat} {h:Int} (hi:Dg l 0 k ds h):h=0:=by
 have:=hi.2.2.1;rw [Rn] at this;omega
theorem Md (x:Int) (s:Nat):IntKind.u64.wrap (x*2^s)=x*p2 s%W:=by
 simp [IntKind.wrap,IntKind.signed,IntKind.bits,p2,WV]
theorem V9 {α:Type} (ds:List α) (x y:α) (r:List α) (k:Nat) (h:ds.length=k):(ds++x::r).set k y=ds++y::r:=by
 subst h;rw [List.set_append_right _ _ (Nat.le_refl _),Nat.sub_self,List.set_cons_zero]
theorem Lp {α:Type} (ds:List α) (x y z:α) (r:List α) (k:Nat) (h:ds.length=k):(ds++z::x::r).set (k+1) y=(ds++[z])++y::r:=by
 have:=V9 (ds++[z]) x y r (k+1) (by simp [h])
 rw [List.append_assoc] at this;exact this
set_option maxRecDepth 100000 in
theorem RV (s:Nat) (q:Option Addr) (cap:Nat) (l:List Int) (w:World) (hs:s<64) (hl:DG W l) (hc:Cells w q JY l) (hlen:l.length≤100000000000) :
  Calls Tryz.prog 286 #[.slice q l.length cap,.int .i64 s] w fun e w' =>
   ZG w (fun v w'=>∃ l':List Int,v = .slice (some ⟨w.heap.size,0,none⟩) (l.length+1) (l.length+1)∧YD w' w.heap.size 248 JY l'∧l'.length=l.length+1∧DG W l'∧dv W l'=dv W l*p2 s) e w':=by
 have HC:=Lib.hid hc;clear hc
 have hmk:=fun w=>Z2 (l.length+1) (by omega) w
 have ec:((l.length+1:Nat):Int)=(l.length:Int)+1:=by omega
 simp only [ec] at hmk
 clear ec
 go_enter Tryz.func286,Tryz.ntmps286
 go_wp2
 go_loopw [14] (fun i wr=>∃ (k:Nat) (ds:List Int) (h:Int),k≤l.length∧i = .int .i64 k∧Dg l s k ds h∧YD wr w.heap.size 248 JY (ds++h::List.replicate (l.length - k) 0)∧Ext w wr)
  (fun i _=>l.length - (intOf i).toNat)
 case atStart=>exact⟨0,[],0,Nat.zero_le _,rfl,⟨rfl,DG.nil _,⟨Int.le_refl _,Zp _⟩,by simp⟩,YD.made w _ JY 0 _ _ rfl,(Ext.refl _).alloc _⟩
 case round =>
  obtain ⟨k,ds,h,hk,rfl,hI,hB,hE⟩:=hrel
  clear hmk
  by_cases hlt:k<l.length
  ·obtain ⟨b,off,rfl,hb,hc⟩:=HC.out k hlt
   rw [Zd hlt] at hc
   have hc:=hE.cell hc
   simp only [JY] at hc
   have hst:=hI.step hs hl
   obtain ⟨hd1,hd2,hd3,hd4⟩:=hI
   have hor:=(Ro (x:=Qb l k) hs hd3.1 hd3.2).1
   have HO:=Lib.hid hor;clear hor hd4
   have hlen1:k<(ds++h::List.replicate (l.length - k) 0).length:=by simp [hd1]
   have hlen2:k+1<(ds++h::List.replicate (l.length - k) 0).length:=by simp [hd1];omega
   have hcell:=hB.cell hlen1
   have hcell2:=hB.cell hlen2
   have hg:(ds++h::List.replicate (l.length - k) 0).getD k default=h:=by subst hd1;simp [List.getD]
   rw [hg] at hcell
   simp only [JY] at hcell hcell2
   have hfr:=hB.frozen k
   have hfr2:=hB.frozen (k+1)
   have hx0:(0:Int)≤(k:Int):=by omega
   have hx1:(k:Int)<(l.length:Int)+1:=by omega
   generalize (ds++h::List.replicate (l.length - k) 0).getD (k+1) default=z at hcell2
   have HD1:=Lib.hid hd1
   have HB:=Lib.hid hB
   clear hg hd1 hB hlen1 hlen2
   by_cases hs0:0<s
   ·go_wp2
    go_still_tail 9,(by kernel_rfl)
    go_wp2
    go_roundw
    case rel =>
     refine⟨k+1,ds++[h+Qb l k*p2 s%W],Qb l k / p2 (64 - s),by omega,by go_num,hst,?_,((hE.Xl (by simp) _).Xl (by simp) _).drew⟩
     rw [Md,HO.out]
     have h1:=HB.out.set k (h+Qb l k*p2 s%W)
     rw [V9 _ _ _ _ _ HD1.out,show l.length - k=(l.length - (k+1))+1 from by omega,List.replicate_succ] at h1
     have h2:=h1.set (k+1) (Qb l k / p2 (64 - s))
     rw [Lp _ _ _ _ _ _ HD1.out] at h2
     exact h2.drew
    case measure=>simp [intOf];omega
   ·have hz:Hid (Qb l k / p2 (64 - s)=0):=by
     have e:s=0:=by omega
     subst e;exact hst.zero
    go_wp2
    go_still_tail 9,(by kernel_rfl)
    go_wp2
    go_roundw
    case rel =>
     refine⟨k+1,ds++[h+Qb l k*p2 s%W],Qb l k / p2 (64 - s),by omega,by go_num,hst,?_,(hE.Xl (by simp) _).drew⟩
     rw [Md,HO.out,hz.out]
     have h1:=HB.out.set k (h+Qb l k*p2 s%W)
     rw [V9 _ _ _ _ _ HD1.out,show l.length - k=(l.length - (k+1))+1 from by omega,List.replicate_succ] at h1
     rw [List.append_assoc]
     exact h1.drew
    case measure=>simp [intOf];omega
  ·have hk':k=l.length:=by omega
   subst hk'
   obtain ⟨hd1,hd2,hd3,hd4⟩:=hI
   have HF:Hid (dv W ds+W^l.length*h=dv W l*p2 s):=by rw [List.take_length] at hd4;exact hd4
   have HD1:=Lib.hid hd1
   rw [Nat.sub_self,List.replicate_zero] at hB
   have HB:=Lib.hid hB
   have hh:h<W:=by have:=xC hs;have:=Zp s;omega
   clear hd1 hd4 hB
   go_wp2
   go_ret
   exact⟨_,rfl,⟨_,rfl,HB.out,by simp [HD1.out],hd2.append (DG.cons hd3.1 hh (DG.nil _)),by rw [XS,HD1.out,HF.out]⟩,hE⟩
theorem Dx (s:Nat) (v:Value) (l:List Int) (w:World) (hs:s<64) (hl:DG W l) (hv:SL w v JY l) (hlen:l.length≤100000000000) :
  Calls Tryz.prog 286 #[v,.int .i64 s] w fun e w' =>
   ZG w (fun v w'=>∃ l':List Int,v = .slice (some ⟨w.heap.size,0,none⟩) (l.length+1) (l.length+1)∧YD w' w.heap.size 248 JY l'∧l'.length=l.length+1∧DG W l'∧dv W l'=dv W l*p2 s) e w':=by
 obtain ⟨q,cap,rfl,_,_,hc⟩:=hv
 exact RV s q cap l w hs hl hc hlen
end
section
open Go.RowKit Ig
def Zx (u v:List Int) (n:Nat) (q r over:Int):Prop :=
 (0≤q∧q<W)∧(0≤r∧r<W)∧(0≤over∧over≤1)∧q*Qb v (n+1)+r+W*over=Qb u (n+2)*W+Qb u (n+1)∧dv W u<(q+1)*dv W v
abbrev Vg (u v:List Int) (n:Nat):Prop:=VQ W u v n
theorem VQ.IM {u v:List Int} {n:Nat} (h:Vg u v n) (hge:Qb v (n+1)≤Qb u (n+2)) :
  Zx u v n (W - 1) (XC (Qb u (n+1)) (Qb v (n+1)) 0) (Xd (Qb u (n+1)) (Qb v (n+1)) 0):=by
 have e:Qb u (n+2)=Qb v (n+1):=Int.le_antisymm (VQ.top Ej h) hge
 obtain ⟨a,b,c⟩:=WU (JW h.hu (n+1)) (JW h.hv (n+1)) (by decide:(0:Int)≤0∧(0:Int)≤1)
 refine⟨by decide,b,c,?_,?_⟩
 ·rw [e];grind
 ·have:=h.lt;rw [show W - 1+1=W from by omega];exact this
theorem VQ.IN {u v:List Int} {n:Nat} (h:Vg u v n) (hlt:Qb u (n+2)<Qb v (n+1)) :
  Zx u v n (AY (Qb u (n+2)) (Qb u (n+1)) (Qb v (n+1))) (IX (Qb u (n+2)) (Qb u (n+1)) (Qb v (n+1))) 0:=by
 obtain ⟨a1,a2,a3⟩:=Zs Ej h.hu h.lu
 obtain ⟨b1,b2,b3⟩:=Y6 Ej h.hv h.lv
 have d0:=JW h.hu (n+2)
 have d1:=JW h.hu n
 have d2:=JW h.hu (n+1)
 have d3:=JW h.hv n
 have d4:=JW h.hv (n+1)
 have hp:=pow_pos Jj n
 have hz:=h.nz
 have hW:=Jj
 unfold AY IX
 unfold Zx
 rw [a1,b1]
 generalize W^n=D at *
 generalize dv W (v.take n)=v' at *
 generalize dv W (u.take n)=u' at *
 generalize Qb u (n+2)=u0 at *
 generalize Qb u (n+1)=u1 at *
 generalize Qb u n=u2 at *
 generalize Qb v (n+1)=v1 at *
 generalize Qb v n=v2 at *
 have m0:0≤u0*W:=Int.mul_nonneg d0.1 (by omega)
 have m1:(u0+1)*W≤v1*W:=Int.mul_le_mul_of_nonneg_right (by omega) (by omega)
 have q1:=Int.mul_ediv_add_emod (u0*W+u1) v1
 have q2:=Int.emod_nonneg (u0*W+u1) (by omega:v1≠0)
 have q3:=Int.emod_lt_of_pos (u0*W+u1) hz
 have q4:0≤(u0*W+u1) / v1:=Int.ediv_nonneg (by omega) (by omega)
 have q5:(u0*W+u1) / v1<W:=by
  refine Int.ediv_lt_of_lt_mul hz ?_
  rw [Int.add_mul] at m1;rw [Int.mul_comm W v1];omega
 generalize (u0*W+u1) / v1=q at *
 generalize (u0*W+u1)%v1=r at *
 refine⟨⟨q4,q5⟩,⟨q2,by omega⟩,by omega,by rw [Int.mul_comm q v1];omega,?_⟩
 have k1:(u0*W+u1+1)≤(q+1)*v1:=by rw [Int.add_mul,Int.mul_comm q v1];omega
 have k2:(u0*W+u1+1)*(W*D)≤(q+1)*v1*(W*D):=Int.mul_le_mul_of_nonneg_right k1 (Int.mul_nonneg (by omega) (by omega))
 have k3:0≤(q+1)*(v2*D):=Int.mul_nonneg (by omega) (Int.mul_nonneg d3.1 (by omega))
 have k4:0≤(q+1)*v':=Int.mul_nonneg (by omega) b2
 have k5:(u2+1)*D≤W*D:=Int.mul_le_mul_of_nonneg_right (by omega) (by omega)
 grind
theorem Zx.less {u v:List Int} {n:Nat} {q r:Int} (h:Vg u v n) (g:Zx u v n q r 0) (hb:r*W+Qb u n<q*Qb v n) :
  Zx u v n (q - 1) (XC r (Qb v (n+1)) 0) (Xd r (Qb v (n+1)) 0):=by
 obtain ⟨g1,g2,g3,g4,g5⟩:=g
 obtain ⟨a1,a2,a3⟩:=Zs Ej h.hu h.lu
 obtain ⟨b1,b2,b3⟩:=Y6 Ej h.hv h.lv
 obtain ⟨a,b,c⟩:=WU g2 (JW h.hv (n+1)) (by decide:(0:Int)≤0∧(0:Int)≤1)
 have hp:=pow_pos Jj n
 have d1:=JW h.hu n
 have d3:=JW h.hv n
 have q1:1≤q:=by
  refine Int.not_lt.1 fun hc=>?_
  have:q=0:=by omega
  subst this
  have:0≤r*W:=Int.mul_nonneg g2.1 (by decide)
  omega
 refine⟨by omega,b,c,?_,?_⟩
 ·have:(q - 1)*Qb v (n+1)=q*Qb v (n+1) - Qb v (n+1):=by grind
  omega
 ·rw [show q - 1+1=q from by omega,a1,b1]
  refine NJ b2 a3 hp (by omega) ?_
  generalize Qb u (n+2)=u0 at *
  generalize Qb u (n+1)=u1 at *
  generalize Qb u n=u2 at *
  generalize Qb v (n+1)=v1 at *
  generalize Qb v n=v2 at *
  have e:q*(v1*W+v2)=(q*v1+r)*W - r*W+q*v2:=by grind
  have e2:q*v1+r=u0*W+u1:=by omega
  rw [e,e2];omega
theorem Zx.fin {u v:List Int} {n:Nat} {q r over:Int} (h:Vg u v n) (g:Zx u v n q r over) (hb:over=0→q*Qb v n≤r*W+Qb u n) :
  (q - 1)*dv W v≤dv W u∧dv W u<(q+1)*dv W v:=by
 obtain ⟨g1,g2,g3,g4,g5⟩:=g
 refine⟨?_,g5⟩
 obtain ⟨a1,a2,a3⟩:=Zs Ej h.hu h.lu
 obtain ⟨b1,b2,b3⟩:=Y6 Ej h.hv h.lv
 have hp:=pow_pos Jj n
 have d1:=JW h.hu n
 have d3:=JW h.hv n
 have d4:=JW h.hv (n+1)
 have hz:=h.nz
 rw [a1,b1]
 have hR:q*Qb v n≤(r+W*over)*W+Qb u n:=by
  have:over=0∨over=1:=by omega
  rcases this with rfl | rfl
  ·simpa using hb rfl
  ·have k1:q*Qb v n≤W*W:=Int.mul_le_mul (by omega) (by omega) d3.1 (by decide)
   have k2:0≤r*W:=Int.mul_nonneg g2.1 (by decide)
   have e:(r+W*1)*W=r*W+W*W:=by grind
   rw [e];omega
 refine Tj hp b3 a2 g1.1 ?_ ?_ b2
 ·generalize Qb u (n+2)=u0 at *
  generalize Qb u (n+1)=u1 at *
  generalize Qb u n=u2 at *
  generalize Qb v (n+1)=v1 at *
  generalize Qb v n=v2 at *
  rw [← g4]
  grind
 ·have k1:1*W≤Qb v (n+1)*W:=Int.mul_le_mul_of_nonneg_right (by omega) (by decide)
  omega
end
end Go.Proofs.YtknegjaeoffnbaaGreatDoor
