/- Steps of the proof of the theorem in the last file. -/
import Derived.WalkKit
import Derived.WalkSpells
import Derived.WalkLawsBesides
import Derived.Lib.Hide
import Derived.Deep.RegionHeld3
import Derived.StillTail
import Derived.Deep.LoopGhost
import Derived.IntWalk
import Derived.Test.YtknegjaeoffnbaaGreatDoorProg
import Derived.KernelRfl
import Derived.Deep.QuietTactic
import Derived.BigQuiet
import Derived.Laws.Externs
import Derived.Shelf.Strings.Builder1
import Derived.Shelf.Strings.Builder2
import Derived.Shelf.Small.Bits
import Derived.Shelf.Small.Wraps
import Derived.Shelf.Strconv.Atoi
import Derived.Shelf.Strconv.Itoa0
import Derived.Shelf.Strconv.Itoa1
import Derived.Shelf.LaysM
import Derived.Shelf.Strconv.Itoa2
import Derived.Shelf.Strconv.Itoa3
import Derived.Shelf.Strings.Search1
import Derived.Shelf.Strings.Search2
import Derived.Shelf.Strings.Cut
import Derived.Shelf.Strings.Prefix
import Derived.Shelf.Bits.Mul64
import Derived.Shelf.Strings.Repeat
import Derived.Ground.Names2Prog
import Derived.Shelf.Slices.Clone
import Derived.Shelf.Slices.SearchI
import Derived.Ground.SlgnProg
import Derived.Shelf.SlicesE.Clone
import Derived.Laws.BitsAllLaws
import Derived.StillTailTactics
set_option linter.all false
namespace Go.Proofs.YtknegjaeoffnbaaGreatDoor
section
open Go.RowKit
structure G7 (α:Type) where
 val:α→Value
 ty:TypeId
instance {α:Type}:CoeFun (G7 α) (fun _=>α→Value):=⟨G7.val⟩
def Jd:G7 Int:=⟨fun x=>.int .u64 x,248⟩
def gu:G7 Int:=⟨fun x=>.int .i64 x,3⟩
def Kd (w:World) (b:Nat) (E:TypeId):Prop:=∃ c fr,w.heap[b]?=some (.cells c E fr)
theorem Kd.lt {w:World} {b E:Nat} (h:Kd w b E):b<w.heap.size:=by
 obtain ⟨c,fr,h⟩:=h
 rcases Nat.lt_or_ge b w.heap.size with g | g
 ·exact g
 ·rw [Array.getElem?_eq_none g] at h;cases h
theorem Kd.uniq {w:World} {b E E':Nat} (h:Kd w b E) (h':Kd w b E'):E=E':=by
 obtain ⟨c,fr,h⟩:=h;obtain ⟨c',fr',h'⟩:=h'
 rw [h] at h';cases h';rfl
def Row {α:Type} [Inhabited α] (w:World) (b off:Nat) (enc:G7 α) (l:List α):Prop:=∀ i,i<l.length→w.cell? ⟨b,off+i,none⟩=some (enc (l.getD i default))
abbrev Ext (w w':World):Prop:=Below w.heap.size w w'
theorem Ext.refl (w:World):Ext w w:=Below.refl _ _
theorem Ext.trans {a b c:World} (h:Ext a b) (k:Ext b c):Ext a c:=Below.trans h (Below.mono k h.size)
theorem Ext.zE {a w w':World} (h:Ext a w) (h1:w'.os=w.os) (h2:w'.tape=w.tape) (h3:w'.output=w.output) (h4:w.heap.size≤w'.heap.size) (h5:∀ i,i<a.heap.size→w'.heap[i]?=w.heap[i]?):Ext a w' :=
 ⟨h1.trans h.os,h2.trans h.tape,h3.trans h.output,Nat.le_trans h.size h4,fun i hi=>(h5 i hi).trans (h.block i hi)⟩
theorem Ext.alloc {a w:World} (h:Ext a w) (o:Obj):Ext a (w.alloc o):=Below.alloc h h.size o
theorem Ext.drew {a w:World} (h:Ext a w):Ext a w.drew:=Below.drew h
theorem Ext.drewN {a w:World} (h:Ext a w) (n:Nat):Ext a (w.drewN n):=⟨h.os,h.tape,h.output,h.size,h.block⟩
theorem Ext.cell {w w':World} (h:Ext w w') {p:Addr} {v:Value} (hv:w.cell? p=some v):w'.cell? p=some v:=by
 rw [Below.cell h (World.block_lt_of_cell? w p hv)];exact hv
theorem Ext.Xn {a w:World} (h:Ext a w) {p:Addr} (hp:a.heap.size≤p.block) (u:Value):Ext a (w.setCell p u):=Below.setCell h hp u
theorem Kd.ext {w w':World} {b E:Nat} (h:Kd w b E) (k:Below w.heap.size w w'):Kd w' b E:=by
 obtain ⟨c,fr,e⟩:=id h
 exact⟨c,fr,by rw [k.block b h.lt];exact e⟩
theorem Ext.of_eq {w w':World} (h:w=w'):Ext w w':=h ▸ Ext.refl w
def Cells {α:Type} [Inhabited α] (w:World) (q:Option Addr) (enc:G7 α) (l:List α):Prop :=
 ∀ i,i<l.length→∃ b off,q=some ⟨b,off,none⟩∧Kd w b enc.ty∧w.cell? ⟨b,off+i,none⟩=some (enc (l.getD i default))
theorem Xd {w:World} {b o b' o':Nat} {v u:Value} (h:b≠b') (hc:w.cell? ⟨b,o,none⟩=some u):(w.setCell ⟨b',o',none⟩ v).cell? ⟨b,o,none⟩=some u:=by
 rw [World.cell?_setCell_other _ _ _ _ (fun e=>h (congrArg Addr.block e).symm)];exact hc
theorem Ext.rules {W w:World} (h:Ext W w):(∀ b o,b<W.heap.size→w.cell? ⟨b,o,none⟩=W.cell? ⟨b,o,none⟩)∧(∀ b o,b<W.heap.size→w.frozen? ⟨b,o,none⟩=W.frozen? ⟨b,o,none⟩)∧W.heap.size≤w.heap.size :=
 ⟨fun b o hb=>Below.cell h (p:=⟨b,o,none⟩) hb,fun b o hb=>Below.frozen h (p:=⟨b,o,none⟩) hb,h.size⟩
def SL {α:Type} [Inhabited α] (w:World) (v:Value) (enc:G7 α) (l:List α):Prop :=
 ∃ q cap,v = .slice q l.length cap∧l.length≤cap∧(cap:Int)≤9223372036854775807∧Cells w q enc l
theorem Row.ext {α:Type} [Inhabited α] {w w':World} (h:Ext w w') {b off:Nat} {enc:G7 α} {l:List α} (hr:Row w b off enc l):Row w' b off enc l :=
 fun i hi=>h.cell (hr i hi)
theorem Cells.ext {α:Type} [Inhabited α] {w w':World} (h:Ext w w') {q:Option Addr} {enc:G7 α} {l:List α} (hr:Cells w q enc l):Cells w' q enc l:=by
 intro i hi;obtain ⟨b,off,h1,h2,h3⟩:=hr i hi
 exact⟨b,off,h1,h2.ext h,h.cell h3⟩
theorem SL.ext {α:Type} [Inhabited α] {w w':World} (h:Ext w w') {v:Value} {enc:G7 α} {l:List α} (hs:SL w v enc l):SL w' v enc l:=by
 obtain ⟨q,cap,h1,h2,h3,h4⟩:=hs
 exact⟨q,cap,h1,h2,h3,h4.ext h⟩
theorem SL.nil {α:Type} [Inhabited α] (w:World) (enc:G7 α):SL w (.slice none 0 0) enc ([]:List α) :=
 ⟨none,0,rfl,Nat.le_refl _,by decide,fun i hi=>by cases hi⟩
theorem Cells.take {α:Type} [Inhabited α] {w:World} {q:Option Addr} {enc:G7 α} {l:List α} (hr:Cells w q enc l) (n:Nat):Cells w q enc (l.take n):=by
 intro i hi
 have h1:i<l.length:=by rw [List.length_take] at hi;omega
 have h2:i<n:=by rw [List.length_take] at hi;omega
 have e:(l.take n).getD i default=l.getD i default:=by simp [List.getD,h2]
 rw [e];exact hr i h1
theorem Row.cells {α:Type} [Inhabited α] {w:World} {b off:Nat} {enc:G7 α} {l:List α} (hr:Row w b off enc l) (hb:Kd w b enc.ty):Cells w (some ⟨b,off,none⟩) enc l :=
 fun i hi=>⟨b,off,rfl,hb,hr i hi⟩
theorem Row.take {α:Type} [Inhabited α] {w:World} {b off:Nat} {enc:G7 α} {l:List α} (hr:Row w b off enc l) (n:Nat):Row w b off enc (l.take n):=by
 intro i hi
 have h1:i<l.length:=by rw [List.length_take] at hi;omega
 have h2:i<n:=by rw [List.length_take] at hi;omega
 have e:(l.take n).getD i default=l.getD i default:=by simp [List.getD,h2]
 rw [e];exact hr i h1
theorem Row.drop {α:Type} [Inhabited α] {w:World} {b off:Nat} {enc:G7 α} {l:List α} (hr:Row w b off enc l) (n:Nat):Row w b (off+n) enc (l.drop n):=by
 intro i hi
 have h1:n+i<l.length:=by rw [List.length_drop] at hi;omega
 have e:(l.drop n).getD i default=l.getD (n+i) default:=by simp [List.getD,List.getElem?_drop]
 rw [e,Nat.add_assoc];exact hr _ h1
def YI {α:Type} (w:World) (b:Nat) (E:TypeId) (enc:G7 α) (l:List α):Prop:=w.heap[b]?=some (.cells (l.map enc.val).toArray E (0,0))
theorem YI.cell {α:Type} [Inhabited α] {w:World} {b E:Nat} {enc:G7 α} {l:List α} (h:YI w b E enc l) {i:Nat} (hi:i<l.length):w.cell? ⟨b,i,none⟩=some (enc (l.getD i default)):=by
 have h':w.heap[b]?=some (.cells (l.map enc.val).toArray E (0,0)):=h
 simp [World.cell?,h',hi,List.getD]
theorem YI.frozen {α:Type} {w:World} {b E:Nat} {enc:G7 α} {l:List α} (h:YI w b E enc l) (i:Nat):w.frozen? ⟨b,i,none⟩=false:=by
 have h':w.heap[b]?=some (.cells (l.map enc.val).toArray E (0,0)):=h
 simp [World.frozen?,h']
theorem YI.lt {α:Type} {w:World} {b E:Nat} {enc:G7 α} {l:List α} (h:YI w b E enc l):b<w.heap.size:=by
 have h':w.heap[b]?=some (.cells (l.map enc.val).toArray E (0,0)):=h
 rcases Nat.lt_or_ge b w.heap.size with g | g
 ·exact g
 ·rw [Array.getElem?_eq_none g] at h';cases h'
theorem YI.set {α:Type} {w:World} {b E:Nat} {enc:G7 α} {l:List α} (h:YI w b E enc l) (i:Nat) (x:α):YI (w.setCell ⟨b,i,none⟩ (enc x)) b E enc (l.set i x):=by
 have h':w.heap[b]?=some (.cells (l.map enc.val).toArray E (0,0)):=h
 have hs:(l.set i x).map enc.val=(l.map enc.val).set i (enc x):=List.map_set
 unfold YI World.setCell
 simp [Array.getElem?_modify,h',hs]
theorem YI.ext {α:Type} {w w':World} {b E:Nat} {enc:G7 α} {l:List α} (h:YI w b E enc l) (k:Ext w w'):YI w' b E enc l:=by
 have:=k.block b h.lt
 unfold YI;rw [this];exact h
theorem YI.row {α:Type} [Inhabited α] {w:World} {b E:Nat} {enc:G7 α} {l:List α} (h:YI w b E enc l):Row w b 0 enc l:=by
 intro i hi;rw [Nat.zero_add];exact h.cell hi
theorem YI.new {α:Type} (w:World) (E:Nat) (enc:G7 α) (l:List α) (c:Array Value) (hc:c=(l.map enc.val).toArray):YI (w.alloc (.cells c E)) w.heap.size E enc l:=by
 subst hc;show(w.heap.push _)[w.heap.size]?=_;simp
theorem YI.vd {α:Type} (w:World) (b E:Nat) (enc:G7 α) (l:List α) (c:Array Value) (hc:c=(l.map enc.val).toArray) (hb:b=w.heap.size):YI (w.alloc (.cells c E)) b E enc l:=by
 subst hb;exact YI.new w E enc l c hc
theorem YI.drew {α:Type} {w:World} {b E:Nat} {enc:G7 α} {l:List α} (h:YI w b E enc l):YI w.drew b E enc l:=h
theorem YI.drewN {α:Type} {w:World} {b E:Nat} {enc:G7 α} {l:List α} (h:YI w b E enc l) (n:Nat):YI (w.drewN n) b E enc l:=h
theorem YI.made {α:Type} (w:World) (E:Nat) (enc:G7 α) (x:α) (n:Nat) (z:Value) (hz:z=enc x):YI (w.alloc (.cells (madeCells #[z] n) E)) w.heap.size E enc (List.replicate n x):=by
 refine YI.new w E enc _ _ ?_
 subst hz
 apply Array.ext
 ·simp [madeCells]
 ·intro i h1 h2;simp [madeCells,Nat.mod_one]
theorem YI.Nf {α:Type} {w:World} {b E:Nat} {enc:G7 α} {l:List α} (h:YI w b E enc l):Kd w b E:=⟨_,_,h⟩
theorem SL.GG {α:Type} [Inhabited α] {w:World} {b:Nat} {enc:G7 α} {l:List α} (h:YI w b enc.ty enc l) (n:Nat) (hn:n≤l.length) (hm:(l.length:Int)≤9223372036854775807) :
  SL w (.slice (some ⟨b,0,none⟩) n l.length) enc (l.take n) :=
 ⟨_,l.length,by rw [List.length_take,Nat.min_eq_left hn],by rw [List.length_take];omega,hm,(h.row.cells h.Nf).take n⟩
def Bx (w:World) (b:Nat) (T:TypeId) (cs:List Value):Prop:=w.heap[b]?=some (.cells cs.toArray T (0,0))
theorem Bx.new (w:World) (T:TypeId) (c:Array Value):Bx (w.alloc (.cells c T)) w.heap.size T c.toList:=by
 show(w.heap.push _)[w.heap.size]?=_;simp
theorem Bx.lt {w:World} {b T:Nat} {cs:List Value} (h:Bx w b T cs):b<w.heap.size:=by
 have h':w.heap[b]?=some (.cells cs.toArray T (0,0)):=h
 rcases Nat.lt_or_ge b w.heap.size with g | g
 ·exact g
 ·rw [Array.getElem?_eq_none g] at h';cases h'
theorem Bx.ext {w w':World} {b T:Nat} {cs:List Value} (h:Bx w b T cs) (k:Ext w w'):Bx w' b T cs:=by
 unfold Bx;rw [k.block b h.lt];exact h
theorem Bx.alloc {w:World} {b T:Nat} {cs:List Value} (h:Bx w b T cs) (o:Obj):Bx (w.alloc o) b T cs:=h.ext ((Ext.refl w).alloc o)
theorem Bx.drew {w:World} {b T:Nat} {cs:List Value} (h:Bx w b T cs):Bx w.drew b T cs:=h
theorem Bx.drewN {w:World} {b T:Nat} {cs:List Value} (h:Bx w b T cs) (n:Nat):Bx (w.drewN n) b T cs:=h
theorem Bx.at {w:World} {b T:Nat} {cs:List Value} (h:Bx w b T cs) (i:Nat) (c:Value) (hi:cs[i]?=some c):w.cell? ⟨b,i,none⟩=some c:=by
 have h':w.heap[b]?=some (.cells cs.toArray T (0,0)):=h
 simp [World.cell?,h',hi]
theorem Bx.free {w:World} {b T:Nat} {cs:List Value} (h:Bx w b T cs) (i:Nat):w.frozen? ⟨b,i,none⟩=false:=by
 have h':w.heap[b]?=some (.cells cs.toArray T (0,0)):=h
 simp [World.frozen?,h']
theorem Bx.one {w:World} {b T:Nat} {c0:Value} (h:Bx w b T [c0]):w.cell? ⟨b,0,none⟩=some c0∧w.frozen? ⟨b,0,none⟩=false :=
 ⟨h.at 0 c0 rfl,h.free 0⟩
theorem Bx.two {w:World} {b T:Nat} {c0 c1:Value} (h:Bx w b T [c0,c1]):w.cell? ⟨b,0,none⟩=some c0∧w.cell? ⟨b,1,none⟩=some c1∧w.frozen? ⟨b,0,none⟩=false∧w.frozen? ⟨b,1,none⟩=false :=
 ⟨h.at 0 c0 rfl,h.at 1 c1 rfl,h.free 0,h.free 1⟩
theorem Bx.set {w:World} {b T:Nat} {cs:List Value} (h:Bx w b T cs) (i:Nat) (c:Value):Bx (w.setCell ⟨b,i,none⟩ c) b T (cs.set i c):=by
 have h':w.heap[b]?=some (.cells cs.toArray T (0,0)):=h
 unfold Bx World.setCell;simp [Array.getElem?_modify,h']
theorem Bx.Hp {w:World} {b T b' o:Nat} {cs:List Value} {v:Value} (h:Bx w b T cs) (hb:b≠b'):Bx (w.setCell ⟨b',o,none⟩ v) b T cs:=by
 unfold Bx;rw [Below.heap_setCell _ _ _ _ hb];exact h
theorem Bx.Nf {w:World} {b T:Nat} {cs:List Value} (h:Bx w b T cs):Kd w b T:=⟨_,_,h⟩
def DT (E:TypeId):Prop:=E=248∨E=3
instance (E:TypeId):Decidable (DT E):=by unfold DT;infer_instance
structure Kp (w w':World):Prop where
 size:w.heap.size≤w'.heap.size
 block:∀ b E,Kd w b E→DT E→w'.heap[b]?=w.heap[b]?
theorem Kp.refl (w:World):Kp w w:=⟨Nat.le_refl _,fun _ _ _ _=>rfl⟩
theorem Kp.Ao {w w':World} (h:Ext w w'):Kp w w':=⟨h.size,fun b _ hb _=>h.block b hb.lt⟩
theorem Kp.trans {a b c:World} (h:Kp a b) (k:Kp b c):Kp a c :=
 ⟨Nat.le_trans h.size k.size,fun i E hi hE=>by
  have e:=h.block i E hi hE
  have hi':Kd b i E:=by obtain ⟨x,fr,hx⟩:=hi;exact⟨x,fr,by rw [e];exact hx⟩
  exact(k.block i E hi' hE).trans e⟩
theorem Kp.ext {a b c:World} (h:Kp a b) (k:Ext b c):Kp a c:=h.trans (Kp.Ao k)
theorem Kp.drew {a b:World} (h:Kp a b):Kp a b.drew:=⟨h.size,h.block⟩
theorem Kp.drewN {a b:World} (h:Kp a b) (n:Nat):Kp a (b.drewN n):=⟨h.size,h.block⟩
theorem Kp.set {a w:World} (h:Kp a w) {R T:Nat} (hT:Kd w R T) (hD:¬ DT T) (i:Nat) (v:Value):Kp a (w.setCell ⟨R,i,none⟩ v) :=
 h.trans ⟨by simp [World.setCell],fun b E hb hE=>Below.heap_setCell _ _ _ _ (by rintro rfl;exact hD ((hb.uniq hT) ▸ hE))⟩
theorem Kd.set {w:World} {b T:Nat} (h:Kd w b T) (R i:Nat) (v:Value):Kd (w.setCell ⟨R,i,none⟩ v) b T:=by
 obtain ⟨c,fr,h⟩:=h
 by_cases e:b=R
 ·subst e;exact⟨_,_,by unfold World.setCell;simp [Array.getElem?_modify,h];exact⟨rfl,rfl⟩⟩
 ·exact⟨c,fr,by rw [Below.heap_setCell _ _ _ _ e];exact h⟩
theorem Kd.kp {w w':World} {b E:Nat} (h:Kd w b E) (k:Kp w w') (hE:DT E):Kd w' b E:=by
 obtain ⟨c,fr,e⟩:=id h
 exact⟨c,fr,by rw [k.block b E h hE];exact e⟩
theorem Cells.kp {α:Type} [Inhabited α] {w w':World} (k:Kp w w') {q:Option Addr} {enc:G7 α} (hE:DT enc.ty) {l:List α} (hr:Cells w q enc l):Cells w' q enc l:=by
 intro i hi;obtain ⟨b,off,h1,h2,h3⟩:=hr i hi
 exact⟨b,off,h1,h2.kp k hE,by rw [World.cell?_of_block (w:=w) (k.block b _ h2 hE)];exact h3⟩
end
section
open Go
section
variable {P:Program} {md:Region.Mode}
def KS (md:Region.Mode) (ops:Array Oper) (n:Nat):Bool :=
 (List.range n).all fun i=>match ops[i]? with
  |some o=>o.after.all fun e=>!Region.binds md e||decide (e.on<i)
  |none=>false
theorem Xt {ops:Array Oper} {n:Nat} (h:KS md ops n=true) {i:Nat} (hi:i<n):∃ o,ops[i]?=some o∧∀ e∈o.after,Region.binds md e=true→e.on<i:=by
 have h1:=List.all_eq_true.1 h i (List.mem_range.2 hi)
 cases ho:ops[i]? with
 |none=>rw [ho] at h1;cases h1
 |some o =>
  rw [ho] at h1
  refine⟨o,rfl,fun e he hb=>?_⟩
  have h2:=Array.all_eq_true_iff_forall_mem.1 h1 e he
  simpa [hb] using h2
def Z1 (n m:Nat):Array Bool:=(Array.range m).map fun i=>decide (i<n)
theorem EK {n m:Nat} {listed:Array Bool} (hs:listed.size=m) (h1:∀ i,i<n→i<m→listed.getD i false=true) (h2:∀ i,n≤i→i<m→listed.getD i false=false):listed=Z1 n m:=by
 apply Array.ext
 ·simp [Z1,hs]
 ·intro i hi hj
  have him:i<m:=by omega
  by_cases h:i<n
  ·have:=h1 i h him
   simp [hi] at this
   simp [Z1,h,this]
  ·have:=h2 i (by omega) him
   simp [hi] at this
   simp [Z1,h,this]
def TC (P:Program) (ops:Array Oper) (Q:Exit→Act→World→Prop) (tl:List Oper):Exit→Act→World→Prop
 |.normal,a,w=>wpList P ops Q tl a w
 |e,a,w=>Q e a w
theorem S4 {o:Oper} {ops:Array Oper} {Q:Exit→Act→World→Prop} {tl:List Oper} {a:Act} {w:World} {K K':Act→World→Prop} (h:∀ a w,K a w→K' a w)
  (hh:o.wp P a w K (TC P ops Q tl)):o.wp P a w K' Q:=by
 unfold Oper.wp at *
 generalize (execOp a.eval o).run P w=r at *
 cases r with
 |ok n w' =>
  cases n<;>simp only [Oper.upon] at hh ⊢ <;>
   first
    |exact h _ _ hh
    |exact Calls.mono hh (fun e w'' he=>by cases e<;>first | exact h _ _ he | exact he)
    |exact Rows.mono hh (fun _ _ he=>h _ _ he)
 |halt x w'=>cases x<;>simp only [Oper.upon] at hh ⊢<;>exact hh
theorem GK {l:List Oper} {n i:Nat} (hi:i<n):(l.take n).toArray[i]?=l.toArray[i]?:=by
 simp [hi]
theorem WT {l:List Oper} {n:Nat} {lh la:Array Bool} (hn:n<l.length) (hs:Region.sinkB md l.toArray n=true) (hc:Region.chainB md l.toArray n=true) (ho:KS md l.toArray n=true)
  (inv:HeadInv md l.toArray n la) (hsz:lh.size=n) (hrel:∀ i,i<n→la.getD i true=lh.getD i true) {k:Nat} (hk:k<n) (hun:lh.getD k true=false) :
  (∀ i,i∈Region.ready md l.toArray la↔i∈Region.ready md (l.take n).toArray lh)∧Region.ready md (l.take n).toArray lh≠[]:=by
 have hrel2:∀ i,i<n→la.getD i false=lh.getD i false:=by
  intro i hi
  have h:=hrel i hi
  have h1:i<la.size:=by rw [inv.size];simp;omega
  have h2:i<lh.size:=by omega
  simp [h1,h2] at h ⊢;exact h
 have hhead:∀ i,i<n→(i∈Region.ready md l.toArray la↔i∈Region.ready md (l.take n).toArray lh):=by
  intro i hi
  rw [mem_ready,mem_ready,hrel i hi,GK hi]
  refine and_congr_right fun _=>exists_congr fun o=>and_congr_right fun hoi=>?_
  obtain ⟨o',ho',hed⟩:=Xt ho hi
  have:o'=o:=Option.some.inj (ho'.symm.trans hoi)
  subst this
  refine forall_congr' fun e=>forall_congr' fun he=>forall_congr' fun hb=>?_
  rw [hrel2 e.on (by have:=hed e he hb;omega)]
 have hex:∃ i,i<n∧lh.getD i true=false∧∀ j,j<i→lh.getD j true=true:=by
  clear hhead hrel hrel2
  induction k using Nat.strongRecOn with
  |_ k ih =>
   by_cases h:∃ j,j<k∧lh.getD j true=false
   ·obtain ⟨j,hj,hj2⟩:=h;exact ih j hj (by omega) hj2
   ·exact⟨k,hk,hun,fun j hj=>by
     cases hv:lh.getD j true with
     |true=>rfl
     |false=>exact absurd ⟨j,hj,hv⟩ h⟩
 refine⟨fun i=>?_,?_⟩
 ·by_cases hi:i<n
  ·exact hhead i hi
  ·constructor
   ·intro h
    exact absurd h (tail_waits hs hc (by simpa using hn) inv _ k rfl hk (by rw [hrel k hk];exact hun) i (by omega))
   ·intro h
    obtain ⟨_,o,ho',_⟩:=mem_ready.1 h
    have:=(Array.getElem?_eq_some_iff.1 ho').1
    simp at this;omega
 ·obtain ⟨i,hi,h1,h2⟩:=hex
  intro hnil
  have:i∈Region.ready md (l.take n).toArray lh:=by
   rw [mem_ready]
   obtain ⟨o',ho',hed⟩:=Xt ho hi
   refine⟨h1,o',by rw [GK hi];exact ho',fun e he hb=>?_⟩
   have h3:=h2 e.on (hed e he hb)
   have h4:e.on<lh.size:=by have:=hed e he hb;omega
   simp [h4] at h3 ⊢;exact h3
  rw [hnil] at this;cases this
theorem Mk {ops:Array Oper} {Q:Exit→Act→World→Prop}:∀ (f:Nat) (listed:Array Bool) (a:Act) (w:World),wpAny P md ops Q f listed a w→wpAny P md ops Q (f+1) listed a w
 |0,listed,a,w,h=>⟨fun _=>h.2,fun i hi=>(by rw [h.1] at hi;cases hi)⟩
 |f+1,listed,a,w,h=>⟨h.1,fun i hi=>wpOp_mono (fun a' w' h'=>Mk f _ a' w' h') (h.2 i hi)⟩
theorem S8 {ops:Array Oper} {Q:Exit→Act→World→Prop} (f:Nat) (listed:Array Bool) (a:Act) (w:World) (g:Nat) (h:wpAny P md ops Q g listed a w):wpAny P md ops Q (f+g) listed a w:=by
 induction f with
 |zero=>rw [Nat.zero_add];exact h
 |succ f ih=>rw [show f+1+g=(f+g)+1 by omega];exact Mk _ _ _ _ ih
theorem PN {ops:Array Oper} {Q:Exit→Act→World→Prop} {tl:List Oper} (h:LetsOut (TC P ops Q tl)):LetsOut Q:=by
 obtain ⟨a,w,h⟩:=h;exact⟨a,w,h⟩
def Br (ops:Array Oper) (n:Nat):Bool :=
 (List.range n).all fun i=>match ops[i]? with
  |some o=>(match o.guard with | none=>true | some (g,_)=>decide (g<n))
  |none=>false
theorem BC {l:List Oper} {n g:Nat} (hg:g<n) (t:Array Value):yielded (l.take n).toArray t g=yielded l.toArray t g:=by
 unfold yielded;rw [GK hg]
theorem Iu {l:List Oper} {n i:Nat} {Q:Exit→Act→World→Prop} {tl:List Oper} {K:Act→World→Prop} {a:Act} {w:World} (hi:i<n) (hgd:Br l.toArray n=true)
  (h:wpOp P (l.take n).toArray (TC P l.toArray Q tl) i K a w):wpOp P l.toArray Q i K a w:=by
 unfold wpOp at *
 rw [GK hi] at h
 cases ho:l.toArray[i]? with
 |none=>simp only [ho] at h ⊢;exact h
 |some o =>
  simp only [ho] at h ⊢
  have hw:Region.wanted o (yielded (l.take n).toArray a.tmps)=Region.wanted o (yielded l.toArray a.tmps):=by
   have h1:=List.all_eq_true.1 hgd i (List.mem_range.2 hi)
   rw [ho] at h1
   unfold Region.wanted
   cases hg:o.guard with
   |none=>rfl
   |some gw =>
    obtain ⟨g,want⟩:=gw
    simp only [hg] at h1
    simp only [BC (l:=l) (by simpa using h1)]
  rw [hw] at h
  split
  ·rename_i hw2
   rw [if_pos hw2] at h
   rcases h with h | ⟨h1,h2⟩
   ·exact .inl (S4 (fun _ _ h=>h) h)
   ·exact .inr ⟨h1,PN h2⟩
  ·rename_i hw2
   rw [if_neg hw2] at h;exact h
theorem S7 {l:List Oper} {n:Nat} {Q:Exit→Act→World→Prop} (hn:n<l.length) (hs:Region.sinkB md l.toArray n=true) (hc:Region.chainB md l.toArray n=true) (ho:KS md l.toArray n=true)
  (hgd:Br l.toArray n=true) (hseq:Region.seqB md l.toArray (l.length - n) n (Z1 n l.length)=true) :
  ∀ (f:Nat) (lh la:Array Bool) (a:Act) (w:World),HeadInv md l.toArray n la→lh.size=n→(∀ i,i<n→la.getD i true=lh.getD i true) →
   wpAny P md (l.take n).toArray (TC P l.toArray Q (l.drop n)) f lh a w→wpAny P md l.toArray Q (f+(l.length - n)) la a w:=by
 have fin:∀ (f:Nat) (lh la:Array Bool) (a:Act) (w:World),HeadInv md l.toArray n la→lh.size=n→(∀ i,i<n→la.getD i true=lh.getD i true) →
   Region.ready md (l.take n).toArray lh=[]→wpList P l.toArray Q (l.drop n) a w→wpAny P md l.toArray Q (f+(l.length - n)) la a w:=by
  intro f lh la a w inv hsz hrel hr h
  have hall:∀ i,i<n→lh.getD i true=true:=by
   intro i hi
   cases hv:lh.getD i true with
   |true=>rfl
   |false=>exact absurd hr (WT hn hs hc ho inv hsz hrel hi hv).2
  have hla:la=Z1 n l.length:=by
   refine EK (by simpa using inv.size) (fun i hi hi2=>?_) (fun i hi hi2=>?_)
   ·have h1:=(hrel i hi).trans (hall i hi)
    have h2:i<la.size:=by rw [inv.size];simpa using hi2
    simp [h2] at h1 ⊢;exact h1
   ·exact getD_both (inv.tail i hi (by simpa using hi2))
  subst hla
  refine S8 f _ _ _ _ ?_
  have:=wpAny_of_seq (P:=P) (Q':=Q) (l.drop n) n (Z1 n l.length) a w (fun j=>by simp [List.getElem?_drop]) (by simpa using hseq) h
  simpa using this
 intro f
 induction f with
 |zero=>intro lh la a w inv hsz hrel h;exact fin 0 lh la a w inv hsz hrel h.1 h.2
 |succ f ih =>
  intro lh la a w inv hsz hrel h
  by_cases hr:Region.ready md (l.take n).toArray lh=[]
  ·exact fin (f+1) lh la a w inv hsz hrel hr (h.1 hr)
  ·obtain ⟨k,hk⟩:=List.exists_mem_of_ne_nil _ hr
   have hk2:=(mem_ready.1 hk)
   have hkn:k<n:=by
    obtain ⟨_,o,ho',_⟩:=hk2
    have:=(Array.getElem?_eq_some_iff.1 ho').1
    simp at this;omega
   have hiff:=(WT hn hs hc ho inv hsz hrel hkn hk2.1).1
   rw [show f+1+(l.length - n)=(f+(l.length - n))+1 by omega]
   refine⟨fun h0=>absurd ((hiff k).2 hk) (by rw [h0];simp),fun i hi=>?_⟩
   have hi':=(hiff i).1 hi
   have hin:i<n:=by
    obtain ⟨_,o,ho',_⟩:=mem_ready.1 hi'
    have:=(Array.getElem?_eq_some_iff.1 ho').1
    simp at this;omega
   have h2:=Iu hin hgd (h.2 i hi')
   refine wpOp_mono (fun a' w' h3=>ih _ _ a' w' (inv.set hi hin) (by simpa using hsz) (fun j hj=>?_) h3) h2
   by_cases hij:i=j
   ·subst hij
    have h1:i<la.size:=by rw [inv.size];simp;omega
    have h2:i<lh.size:=by omega
    simp [h1,h2]
   ·rw [getD_set_ne true hij,getD_set_ne true hij];exact hrel j hj
def Hl (l:List Oper) (n:Nat):Bool :=
 decide (n<l.length)&&Region.sinkB .any l.toArray n&&Region.chainB .any l.toArray n&&KS .any l.toArray n&&Br l.toArray n&&Region.seqB .any l.toArray (l.length - n) n (Z1 n l.length)
theorem Ef {id:Nat} {Q:Exit→Act→World→Prop} {a:Act} {w:World} {l:List Oper} (n:Nat) (hm:P.follows .mixedOrders=true) (hB:Hl l n=true)
  (h:wpAny P .any (l.take n).toArray (TC P l.toArray Q (l.drop n)) n (Array.replicate n false) a { w with drawn:=w.drawn+1 }):(Code.region id l.toArray true).wp P Q a w:=by
 simp only [Hl,Bool.and_eq_true,decide_eq_true_eq] at hB
 obtain ⟨⟨⟨⟨⟨hn,hs⟩,hc⟩,ho⟩,hg⟩,hseq⟩:=hB
 refine wp_region_any hm ?_
 have inv0:HeadInv .any l.toArray n (Array.replicate l.toArray.size false) :=
  ⟨by simp,fun j oj _ hl=>(by rw [getD_replicate_false] at hl;cases hl),fun t _ ht=>getD_in (by simpa using ht) (getD_replicate_false _ _)⟩
 have:=S7 (P:=P) (md:=.any) (Q:=Q) hn hs hc ho hg hseq n (Array.replicate n false) (Array.replicate l.toArray.size false) a { w with drawn:=w.drawn+1 } inv0 (by simp)
  (fun i hi=>by
   have h1:i<l.length:=(by omega)
   simp [hi,h1]) h
 rw [show n+(l.length - n)=l.toArray.size by simp;omega] at this
 exact this
def Jv:Op→Bool
 |.move _ | .assign _ | .pick .. | .nilCheck _ | .binOp .. | .unOp .. | .convert .. | .fieldAddr .. | .field .. | .indexAddr .. | .index .. | .extract .. | .slice .. | .build .. | .load .. | .makeFunc .. | .lookup ..=>true
 |.call { callee:=.builtin b,.. }=>match b with | .len | .cap | .min | .max=>true | _=>false
 |_=>false
section
variable {ops:Array Oper} {Q:Exit→Act→World→Prop} {S:World→Prop}
def PM (P:Program) (ops:Array Oper) (Q:Exit→Act→World→Prop) (S:World→Prop):List Nat→Act→World→Prop
  | [],a,w=>Q .normal a w
  | i::r,a,w=>∃ o,ops[i]?=some o ∧
      ((Jv o.op=true∧∃ v,YieldsIf P ops S o v a∧PM P ops Q S r (a.put o.dst v) w) ∨
       (Jv o.op=false∧wpOp P ops (fun _ _ _=>False) i (fun a' w'=>S w'∧PM P ops Q S r a' w') a w))
theorem qZ {i:Nat} {o:Oper} {K:Act→World→Prop} {a:Act} {w:World} (hi:ops[i]?=some o) (h:wpOp P ops (fun _ _ _=>False) i K a w) :
  ∃ u w' d,K ({ a with defers:=d }.put o.dst u) w':=by
 unfold wpOp at h
 simp only [hi] at h
 split at h
 ·rcases h with h | ⟨_,_,_,h⟩
  ·unfold Oper.wp at h
   generalize (execOp a.eval o).run P w=r at *
   cases r with
   |ok n w' =>
    cases n<;>simp only [Oper.upon] at h
    case value u=>exact⟨u,w',a.defers,h⟩
    case skip=>exact⟨undef,w',a.defers,h⟩
    case defer d=>exact⟨undef,w',d::a.defers,h⟩
    case enter f args =>
     obtain ⟨e,w'',fr,hR,_⟩:=h []
     cases e with
     |returned u=>exact⟨u,w'',a.defers,hR⟩
     |panicked c=>exact hR.elim
     |outgrown=>obtain ⟨_,_,h⟩:=hR;exact h.elim
    case row row args =>
     obtain ⟨u,w'',hR,_⟩:=h default []
     exact⟨u,w'',a.defers,hR⟩
    all_goals exact h.elim
   |halt x w'=>cases x<;>simp only [Oper.upon] at h<;>exact h.elim
  ·exact h.elim
 ·exact⟨undef,w,a.defers,h⟩
theorem S5 {j:Nat} {oi oj:Oper} {v:Value} (hj:ops[j]?=some oj) (hap:oi.apart ops oj=true) (hsj:∀ cs b,oj.op≠.select cs b)
  {K:Act→World→Prop} {a:Act} {w:World} (h:wpOp P ops (fun _ _ _=>False) j (fun a' w'=>K (a'.put oi.dst v) w') a w) :
  wpOp P ops (fun _ _ _=>False) j K (a.put oi.dst v) w:=by
 obtain ⟨h1,h2,h3⟩:=Oper.apart_spec hap
 unfold wpOp at *
 simp only [hj] at *
 rw [wanted_put oj a oi.dst v h1]
 split
 ·rename_i hw
  simp only [hw,if_true] at h
  rcases h with h | ⟨hasks,hlets⟩
  case inr=>exact .inr ⟨by unfold Oper.asks at *;rw [execOp_put oj hsj a oi.dst v h1];exact hasks,hlets⟩
  refine .inl ?_
  unfold Oper.wp at *
  rw [execOp_put oj hsj a oi.dst v h1]
  generalize (execOp a.eval oj).run P w=r at *
  cases r with
  |ok n w' =>
   cases n<;>simp only [Oper.upon] at h ⊢
   case value u=>rw [Act.put_comm a v u h2];exact h
   case skip=>rw [Act.put_comm a v undef h2];exact h
   case defer d=>rw [Act.put_defers,Act.put_comm _ v undef h2];exact h
   case enter f args =>
    refine Calls.mono h fun e w'' he=>?_
    cases e with
    |returned u=>show K _ _;rw [Act.put_comm a v u h2];exact he
    |panicked c=>exact he
    |outgrown=>exact he
   case row row args=>exact Rows.mono h fun u w'' he=>(by rw [Act.put_comm a v u h2];exact he)
  |halt x w'=>cases x<;>simp only [Oper.upon] at h ⊢
 ·rename_i hw
  simp only [hw] at h
  rw [Act.put_comm a v undef h2];exact h
theorem YieldsIf.uniq {o:Oper} {v v':Value} {a:Act} {w:World} (hS:S w) (h:YieldsIf P ops S o v a) (h':YieldsIf P ops S o v' a):v=v':=by
 rcases h with ⟨h1,h2⟩ | ⟨h1,h2⟩<;>rcases h' with ⟨g1,g2⟩ | ⟨g1,g2⟩
 ·have:=(h2 w hS).symm.trans (g2 w hS)
  simpa using this
 ·rw [h1] at g1;cases g1
 ·rw [h1] at g1;cases g1
 ·rw [h2,g2]
theorem N5 {x y:Oper} (h:x.apart ops y=true):y.apart ops x=true:=by
 obtain ⟨h1,h2,h3⟩:=Oper.apart_spec h
 unfold Oper.apart
 cases hx:x.dst with
 |none=>cases hy:y.dst with
  |none=>rfl
  |some e=>simpa using h3 e hy
 |some d =>
  have g1:=h1 d hx
  have g2:=h2 d hx
  cases hy:y.dst with
  |none=>simpa using g1
  |some e =>
   have g3:=h3 e hy
   rw [hy] at g2
   simp only [ne_eq,Option.some.injEq] at g2
   simp [g3,g1]
   exact fun h=>g2 h.symm
theorem Hw {j:Nat} {oj:Oper} {post:List Nat} (hoj:ops[j]?=some oj) (hq:Jv oj.op=true) (hsel:∀ (j:Nat) (o:Oper) cs b,ops[j]?=some o→o.op≠.select cs b) :
  ∀ (pre:List Nat) (a:Act) (w:World),(∀ k∈pre,∀ ok,ops[k]?=some ok→oj.apart ops ok=true)→PM P ops Q S (pre++j::post) a w →
   ∃ v,YieldsIf P ops S oj v a∧PM P ops Q S (pre++post) (a.put oj.dst v) w
 |[],a,w,_,h=>by
  obtain ⟨o,ho,h⟩:=h
  have:o=oj:=Option.some.inj (ho.symm.trans hoj)
  subst this
  rcases h with ⟨_,v,h1,h2⟩ | ⟨h1,_⟩
  ·exact⟨v,h1,h2⟩
  ·rw [hq] at h1;cases h1
 |k::pre,a,w,hap,h=>by
  obtain ⟨ok,hok,h⟩:=h
  have hk:=hap k (by simp) ok hok
  obtain ⟨p1,p2,p3⟩:=Oper.apart_spec hk
  rcases h with ⟨hqk,vk,hyk,h⟩ | ⟨hqk,h⟩
  ·obtain ⟨v,hy,h⟩:=Hw hoj hq hsel pre _ w (fun i hi=>hap i (by simp [hi])) h
   have hy':YieldsIf P ops S oj v a:=by
    refine hy.of_same ?_ ?_
    ·exact(execOp_put oj (fun cs b=>hsel j oj cs b hoj) a ok.dst vk p3).symm
    ·exact(wanted_put oj a ok.dst vk p3).symm
   refine⟨v,hy',ok,hok,.inl ⟨hqk,vk,?_,?_⟩⟩
   ·refine hyk.of_same ?_ ?_
    ·exact execOp_put ok (fun cs b=>hsel k ok cs b hok) a oj.dst v p1
    ·exact wanted_put ok a oj.dst v p1
   ·rw [Act.put_comm a v vk p2];exact h
  ·have h2:=wpOp_mono (fun a' w' (h:S w'∧PM P ops Q S (pre++j::post) a' w')=>(⟨h.1,Hw hoj hq hsel pre a' w' (fun i hi=>hap i (by simp [hi])) h.2⟩ :
    S w'∧∃ v,YieldsIf P ops S oj v a'∧PM P ops Q S (pre++post) (a'.put oj.dst v) w')) h
   obtain ⟨u,w1,d,hS1,v0,hy0,_⟩:=qZ hok h2
   have back:∀ (d:List Deferred) (u v:Value),YieldsIf P ops S oj v ({ a with defers:=d }.put ok.dst u)→YieldsIf P ops S oj v a:=fun d u v hy=>by
    refine hy.of_same ?_ ?_
    ·rw [execOp_put oj (fun cs b=>hsel j oj cs b hoj) _ ok.dst u p3];rfl
    ·rw [wanted_put oj _ ok.dst u p3]
   have hya:=back d u v0 hy0
   refine⟨v0,hya,ok,hok,.inr ⟨hqk,?_⟩⟩
   refine S5 hok hk (fun cs b=>hsel k ok cs b hok) ?_
   have h3:wpOp P ops (fun _ _ _=>False) k (fun a' w'=>(YieldsIf P ops S oj v0 a')∧(S w'∧∃ v,YieldsIf P ops S oj v a'∧PM P ops Q S (pre++post) (a'.put oj.dst v) w')) a w:=by
    have keep:∀ (u:Value),YieldsIf P ops S oj v0 (a.put ok.dst u):=fun u=>by
     refine hya.of_same ?_ ?_
     ·exact execOp_put oj (fun cs b=>hsel j oj cs b hoj) a ok.dst u p3
     ·exact wanted_put oj a ok.dst u p3
    have keepd:∀ (d:Deferred) (u:Value),YieldsIf P ops S oj v0 ({ a with defers:=d::a.defers }.put ok.dst u):=fun d u=>by
     refine hya.of_same ?_ ?_
     ·rw [execOp_put oj (fun cs b=>hsel j oj cs b hoj) _ ok.dst u p3];rfl
     ·rw [wanted_put oj _ ok.dst u p3]
    clear h
    unfold wpOp at h2 ⊢
    simp only [hok] at h2 ⊢
    split
    ·rename_i hw
     simp only [hw,if_true] at h2
     rcases h2 with h2 | h2
     case inr=>exact .inr h2
     refine .inl ?_
     unfold Oper.wp at *
     generalize (execOp a.eval ok).run P w=r at *
     cases r with
     |ok n w' =>
      cases n<;>simp only [Oper.upon] at h2 ⊢
      case value u=>exact⟨keep u,h2⟩
      case skip=>exact⟨keep _,h2⟩
      case defer d=>exact⟨keepd d _,h2⟩
      case enter f args =>
       refine Calls.mono h2 fun e w'' he=>?_
       cases e with
       |returned u=>exact⟨keep u,he⟩
       |panicked c=>exact he
       |outgrown=>exact he
      case row row args=>exact Rows.mono h2 fun u w'' he=>⟨keep u,he⟩
     |halt x w'=>cases x<;>simp only [Oper.upon] at h2 ⊢
    ·rename_i hw
     simp only [hw] at h2
     exact⟨keep _,h2⟩
   refine wpOp_mono (fun a' w' h=>?_) h3
   obtain ⟨hy,hS,v,hy2,hl⟩:=h
   have:v=v0:=YieldsIf.uniq hS hy2 hy
   subst this
   exact⟨hS,hl⟩
end
section
variable {ops:Array Oper} {Q:Exit→Act→World→Prop} {S:World→Prop}
theorem S6 {i:Nat} {K:Act→World→Prop} {a:Act} {w:World} (h:wpOp P ops (fun _ _ _=>False) i K a w):wpOp P ops Q i K a w:=by
 unfold wpOp at *
 cases ho:ops[i]? with
 |none=>simp only [ho] at h ⊢;exact h
 |some o =>
  simp only [ho] at h ⊢
  split
  ·rename_i hw
   rw [if_pos hw] at h
   rcases h with h | ⟨_,_,_,h⟩
   ·refine .inl ?_
    unfold Oper.wp at *
    generalize (execOp a.eval o).run P w=r at *
    cases r with
    |ok n w' =>
     cases n<;>simp only [Oper.upon] at h ⊢
     all_goals first
      |exact h
      |exact Calls.mono h fun e w'' he=>by
        cases e with
        |returned u=>exact he
        |panicked c=>exact he.elim
        |outgrown=>obtain ⟨_,_,h⟩:=he;exact h.elim
    |halt x w'=>cases x<;>simp only [Oper.upon] at h ⊢
   ·exact h.elim
  ·rename_i hw
   rw [if_neg hw] at h;exact h
def Hu (md:Region.Mode) (acc:List Nat) (o:Oper):Nat:=o.after.foldl (fun s e=>if Region.binds md e then s ||| 2^e.on ||| acc.getD e.on 0 else s) 0
def NT (md:Region.Mode) (ops:List Oper):List Nat:=ops.foldl (fun acc o=>acc++[Hu md acc o]) []
theorem Nk {md:Region.Mode} {acc:List Nat} {i:Nat}:∀ (l:List Edge) (s:Nat),(l.foldl (fun s e=>if Region.binds md e then s ||| 2^e.on ||| acc.getD e.on 0 else s) s).testBit i=true →
  s.testBit i=true∨∃ e∈l,Region.binds md e=true∧(i=e.on∨(acc.getD e.on 0).testBit i=true)
 |[],s,h=>.inl h
 |e::l,s,h=>by
  rw [List.foldl_cons] at h
  rcases Nk l _ h with h | ⟨e',he',h⟩
  ·split at h
   ·rename_i hb
    rw [Nat.testBit_or,Nat.testBit_or,Nat.testBit_two_pow] at h
    simp only [Bool.or_eq_true,decide_eq_true_eq] at h
    rcases h with (h | h) | h
    ·exact .inl h
    ·exact .inr ⟨e,by simp,hb,.inl h.symm⟩
    ·exact .inr ⟨e,by simp,hb,.inr h⟩
   ·exact .inl h
  ·exact .inr ⟨e',by simp [he'],h⟩
theorem T3 {md:Region.Mode} {acc:List Nat} {o:Oper} {i:Nat} (h:(Hu md acc o).testBit i=true):∃ e∈o.after,Region.binds md e=true∧(i=e.on∨(acc.getD e.on 0).testBit i=true):=by
 unfold Hu at h
 rw [← Array.foldl_toList] at h
 rcases Nk _ _ h with h | ⟨e,he,h⟩
 ·simp at h
 ·exact⟨e,by simpa using he,h⟩
theorem RC (md:Region.Mode):∀ (l:List Oper) (acc:List Nat),∃ r,l.foldl (fun acc o=>acc++[Hu md acc o]) acc=acc++r∧r.length=l.length ∧
  ∀ k o,l[k]?=some o→r[k]?=some (Hu md (acc++r.take k) o)
 |[],acc=>⟨[],by simp,rfl,fun k o h=>by simp at h⟩
 |o::l,acc=>by
  obtain ⟨r,h1,h2,h3⟩:=RC md l (acc++[Hu md acc o])
  refine⟨Hu md acc o::r,by simp [h1],by simp [h2],fun k o' h=>?_⟩
  cases k with
  |zero=>simp at h;subst h;simp
  |succ k =>
   simp at h
   have:=h3 k o' h
   simpa using this
theorem Ay {md:Region.Mode} {l:List Oper} {k i:Nat} {o:Oper} (ho:l[k]?=some o) (hord:∀ e∈o.after,Region.binds md e=true→e.on<k) (h:((NT md l).getD k 0).testBit i=true) :
  ∃ e∈o.after,Region.binds md e=true∧(i=e.on∨((NT md l).getD e.on 0).testBit i=true):=by
 obtain ⟨r,h1,h2,h3⟩:=RC md l []
 have e1:NT md l=r:=by unfold NT;rw [h1];simp
 rw [e1] at h ⊢
 have h4:=h3 k o ho
 rw [List.getD,h4] at h
 obtain ⟨e,he,hb,hi⟩:=T3 h
 refine⟨e,he,hb,hi.imp id fun hi=>?_⟩
 have hlt:=hord e he hb
 have hk:k<r.length:=by rcases Nat.lt_or_ge k r.length with g | g;exact g;rw [List.getElem?_eq_none g] at h4;cases h4
 have e2:([]++r.take k).getD e.on 0=r.getD e.on 0:=by simp [List.getD,hlt]
 rw [e2] at hi;exact hi
def lexB (md:Region.Mode) (l:List Oper):Bool :=
 let ms:=NT md l
 Region.noSelect l.toArray&&KS md l.toArray l.length&&(List.range l.length).all fun j=>match l[j]? with
  |none=>false
  |some oj=>(List.range j).all fun i=>match l[i]? with
   |none=>false
   |some oi=>if Jv oi.op||Jv oj.op then(Region.waitsFor md l.toArray j i||oi.apart l.toArray oj) else(ms.getD j 0).testBit i
theorem Dj {l:List Oper} (h:lexB md l=true) {i j:Nat} (hij:i<j) {oi oj:Oper} (hi:l[i]?=some oi) (hj:l[j]?=some oj) :
  if Jv oi.op||Jv oj.op then(Region.waitsFor md l.toArray j i||oi.apart l.toArray oj)=true else((NT md l).getD j 0).testBit i=true:=by
 simp only [lexB,Bool.and_eq_true] at h
 have hjl:j<l.length:=by rcases Nat.lt_or_ge j l.length with g | g;exact g;rw [List.getElem?_eq_none g] at hj;cases hj
 have h1:=List.all_eq_true.1 h.2 j (List.mem_range.2 hjl)
 rw [hj] at h1
 have h2:=List.all_eq_true.1 h1 i (List.mem_range.2 hij)
 rw [hi] at h2
 simp only at h2
 split
 ·rename_i g;rw [if_pos g] at h2;exact h2
 ·rename_i g;rw [if_neg g] at h2;exact h2
theorem T2 {l:List Oper} {listed:Array Bool} (hord:KS md l.toArray l.length=true) (hcl:∀ j oj,l.toArray[j]?=some oj→listed.getD j false=true→∀ e∈oj.after,Region.binds md e=true→listed.getD e.on false=true) :
  ∀ (k:Nat) (o:Oper),l[k]?=some o→(∀ e∈o.after,Region.binds md e=true→listed.getD e.on false=true)→∀ i,((NT md l).getD k 0).testBit i=true→listed.getD i false=true:=by
 intro k
 induction k using Nat.strongRecOn with
 |_ k ih =>
  intro o ho hd i hi
  have hk:k<l.length:=by rcases Nat.lt_or_ge k l.length with g | g;exact g;rw [List.getElem?_eq_none g] at ho;cases ho
  obtain ⟨o',ho',hed⟩:=Xt hord hk
  have:o'=o:=Option.some.inj (ho'.symm.trans (by simpa using ho))
  subst this
  obtain ⟨e,he,hb,h⟩:=Ay ho hed hi
  have h1:=hd e he hb
  rcases h with rfl | h
  ·exact h1
  ·have hlt:=hed e he hb
   obtain ⟨oe,hoe,_⟩:=Xt hord (Nat.lt_trans hlt hk)
   exact ih e.on hlt oe (by simpa using hoe) (hcl e.on oe hoe h1) i h
theorem jX {l:List Oper} (hB:lexB md l=true) (hQ:∀ c a d v w,Q (.panic c) (Act.put a d v) w→Q (.panic c) a w) :
  ∀ (m:Nat) (r:List Nat) (listed:Array Bool) (a:Act) (w:World),r.length=m→r.Pairwise (·<·)→(∀ i,i∈r↔i<l.length∧listed.getD i true=false)→listed.size=l.length →
   (∀ j oj,l.toArray[j]?=some oj→listed.getD j false=true→∀ e∈oj.after,Region.binds md e=true→listed.getD e.on false=true)→S w→PM P l.toArray Q S r a w→wpAnyH P md l.toArray Q S m listed a w:=by
 have hB':=hB
 simp only [lexB,Bool.and_eq_true] at hB'
 obtain ⟨⟨hns,hord⟩,_⟩:=hB'
 have hsel:=Region.noSelect_spec hns
 intro m
 induction m with
 |zero =>
  intro r listed a w hm hs hr hsz hcl hS h
  have:r=[]:=List.length_eq_zero_iff.1 hm
  subst this
  refine⟨?_,h⟩
  rw [List.eq_nil_iff_forall_not_mem]
  intro i hi
  obtain ⟨h1,o,ho,_⟩:=mem_ready.1 hi
  have hlt:i<l.length:=by have:=(Array.getElem?_eq_some_iff.1 ho).1;simpa using this
  have:=(hr i).2 ⟨hlt,h1⟩
  cases this
 |succ m ih =>
  intro r listed a w hm hs hr hsz hcl hS h
  match r,hm,hs,hr,h with
  |i::r,hm,hs,hr,h =>
  have hil:=(hr i).1 (by simp)
  have hmin:∀ j,j<i→listed.getD j false=true:=by
   intro j hj
   cases hv:listed.getD j false with
   |true=>rfl
   |false =>
    have hjl:j<l.length:=by omega
    have:=(hr j).2 ⟨hjl,getD_in (by omega) hv⟩
    rcases List.mem_cons.1 this with e | e
    ·omega
    ·have:=(List.pairwise_cons.1 hs).1 j e;omega
  obtain ⟨oi,hoi,hed⟩:=Xt hord hil.1
  have hri:i∈Region.ready md l.toArray listed:=mem_ready.2 ⟨hil.2,oi,hoi,fun e he hb=>hmin _ (hed e he hb)⟩
  have next:∀ j,j∈Region.ready md l.toArray listed→j∈(i::r)→∀ a' w',S w'→PM P l.toArray Q S ((i::r).erase j) a' w'→wpAnyH P md l.toArray Q S m (listed.setIfInBounds j true) a' w':=by
   intro j hj hjr a' w' hS' h'
   have hjsz:j<listed.size:=by rw [hsz];exact((hr j).1 hjr).1
   refine ih ((i::r).erase j) _ a' w' (by rw [List.length_erase_of_mem hjr];simp at hm ⊢;omega) (hs.sublist List.erase_sublist) (fun k=>?_) (by simpa using hsz) (fun k ok hk hl e he hb=>?_) hS' h'
   ·rw [List.Nodup.mem_erase_iff (hs.imp (fun h=>Nat.ne_of_lt h)),hr k]
    by_cases hjk:j=k
    ·subst hjk;simp [hjsz]
    ·rw [getD_set_ne true hjk];simp [Ne.symm hjk]
   ·by_cases hjk:j=k
    ·subst hjk
     obtain ⟨_,oj,hoj,hall⟩:=mem_ready.1 hj
     have:ok=oj:=Option.some.inj (hk.symm.trans hoj)
     subst this
     exact getD_set_true (hall e he hb)
    ·rw [getD_set_ne false hjk] at hl
     exact getD_set_true (hcl k ok hk hl e he hb)
  have take:∀ j oj,j∈Region.ready md l.toArray listed→l.toArray[j]?=some oj→Jv oj.op=true→j∈(i::r)→wpAnyH P md l.toArray Q S (m+1) listed a w:=by
   intro j oj hj hoj hq hjr
   obtain ⟨pre,post,hpp⟩:=List.append_of_mem hjr
   have hjs:=mem_ready.1 hj
   have happ:∀ k ok,l.toArray[k]?=some ok→k≠j→listed.getD k true=false→(∀ e∈ok.after,Region.binds md e=true→e.on≠j)→oj.apart l.toArray ok=true:=by
    intro k ok hok hkj hun hno
    have hnw:Region.waitsFor md l.toArray k j=false:=by
     cases hv:Region.waitsFor md l.toArray k j with
     |false=>rfl
     |true =>
      obtain ⟨o',ho',e,he,hb,hon⟩:=Region.waitsFor_spec hv
      have:o'=ok:=Option.some.inj (ho'.symm.trans hok)
      subst this
      exact absurd hon (hno e he hb)
    have hnw2:Region.waitsFor md l.toArray j k=false:=by
     cases hv:Region.waitsFor md l.toArray j k with
     |false=>rfl
     |true =>
      obtain ⟨o',ho',e,he,hb,hon⟩:=Region.waitsFor_spec hv
      obtain ⟨_,o2,ho2,hall⟩:=hjs
      have:o'=o2:=Option.some.inj (ho'.symm.trans ho2)
      subst this
      have:=hall e he hb
      rw [hon,getD_both hun] at this;cases this
    rcases Nat.lt_or_gt_of_ne hkj with hlt | hgt
    ·have:=Dj hB hlt (by simpa using hok) (by simpa using hoj)
     rw [if_pos (by simp [hq]),hnw2] at this
     exact N5 (by simpa using this)
    ·have:=Dj hB hgt (by simpa using hoj) (by simpa using hok)
     rw [if_pos (by simp [hq]),hnw] at this
     simpa using this
   have hfront:=Hw (P:=P) (Q:=Q) (S:=S) hoj hq hsel pre a w (post:=post) (fun k hk ok hok=>by
    have hkr:k∈(i::r):=by rw [hpp];simp [hk]
    have hkj:k<j:=by
     rw [hpp] at hs
     exact(List.pairwise_append.1 hs).2.2 k hk j (by simp)
    refine happ k ok hok (by omega) ((hr k).1 hkr).2 (fun e he hb heq=>?_)
    obtain ⟨o',ho',hed'⟩:=Xt hord ((hr k).1 hkr).1
    have:o'=ok:=Option.some.inj (ho'.symm.trans hok)
    subst this
    have:=hed' e he hb;omega) (by rw [← hpp];exact h)
   obtain ⟨v,hy,h'⟩:=hfront
   have herase:(i::r).erase j=pre++post:=by
    rw [hpp,List.erase_append_right,List.erase_cons_head]
    intro hmem
    rw [hpp] at hs
    have:=(List.pairwise_append.1 hs).2.2 j hmem j (by simp)
    omega
   exact wpAnyH_first hoj hsel (fun c a w h=>hQ c a _ v w h) m listed a w happ hj hy hS (next j hj hjr _ w hS (by rw [herase];exact h'))
  by_cases hex:∃ j oj,j∈Region.ready md l.toArray listed∧l.toArray[j]?=some oj∧Jv oj.op=true
  ·obtain ⟨j,oj,hj,hoj,hq⟩:=hex
   have hjl:j<l.length:=by have:=(Array.getElem?_eq_some_iff.1 hoj).1;simpa using this
   exact take j oj hj hoj hq ((hr j).2 ⟨hjl,(mem_ready.1 hj).1⟩)
  ·
   have hone:∀ j∈Region.ready md l.toArray listed,j=i:=by
    intro j hj
    obtain ⟨hjun,oj,hoj,hall⟩:=mem_ready.1 hj
    have hjl:j<l.length:=by have:=(Array.getElem?_eq_some_iff.1 hoj).1;simpa using this
    have hjr:=(hr j).2 ⟨hjl,hjun⟩
    rcases List.mem_cons.1 hjr with e | e
    ·exact e
    ·have hlt:=(List.pairwise_cons.1 hs).1 j e
     have hqj:Jv oj.op=false:=by
      cases hv:Jv oj.op with
      |false=>rfl
      |true=>exact absurd ⟨j,oj,hj,hoj,hv⟩ hex
     have hqi:Jv oi.op=false:=by
      cases hv:Jv oi.op with
      |false=>rfl
      |true=>exact absurd ⟨i,oi,hri,hoi,hv⟩ hex
     have:=Dj hB hlt (by simpa using hoi) (by simpa using hoj)
     rw [if_neg (by simp [hqi,hqj])] at this
     have:=T2 hord hcl j oj (by simpa using hoj) hall i this
     rw [getD_both hil.2] at this;cases this
   refine⟨fun h0=>(by rw [h0] at hri;cases hri),fun j hj=>?_⟩
   have:=hone j hj
   subst this
   obtain ⟨o,ho,h⟩:=h
   have:o=oi:=Option.some.inj (ho.symm.trans hoi)
   subst this
   rcases h with ⟨hq,_⟩ | ⟨_,h⟩
   ·exact absurd ⟨j,o,hri,ho,hq⟩ hex
   ·refine S6 (wpOp_mono (fun a' w' h=>⟨h.1,?_⟩) h)
    exact next j hri (by simp) a' w' h.1 (by rw [List.erase_cons_head];exact h.2)
end
section
variable {Q:Exit→Act→World→Prop} {S:World→Prop}
def T5 (P:Program) (ops:Array Oper) (Q:Exit→Act→World→Prop) (S:World→Prop):List Oper→Act→World→Prop
  | [],a,w=>Q .normal a w
  | o::r,a,w =>
      (Jv o.op=true∧∃ v,YieldsIf P ops S o v a∧T5 P ops Q S r (a.put o.dst v) w) ∨
       (Jv o.op=false∧if Region.wanted o (yielded ops a.tmps) then o.wp P a w (fun a' w'=>S w'∧T5 P ops Q S r a' w') (fun _ _ _=>False) else S w∧T5 P ops Q S r (a.put o.dst undef) w)
theorem Ky {ops:Array Oper}:∀ (l:List Oper) (k:Nat) (a:Act) (w:World),(∀ j,j<l.length→l[j]?=ops[k+j]?)→T5 P ops Q S l a w→PM P ops Q S (List.range' k l.length) a w
 |[],k,a,w,_,h=>h
 |o::l,k,a,w,hl,h=>by
  have h0:ops[k]?=some o:=by simpa using (hl 0 (by simp)).symm
  have hl':∀ j,j<l.length→l[j]?=ops[k+1+j]?:=fun j hj=>by
   have:=hl (j+1) (by simp;omega)
   rw [show k+1+j=k+(j+1) by omega,← this];simp
  rw [List.length_cons,List.range'_succ]
  refine⟨o,h0,?_⟩
  rcases h with ⟨h1,v,h2,h3⟩ | ⟨h1,h2⟩
  ·exact .inl ⟨h1,v,h2,Ky l (k+1) _ w hl' h3⟩
  ·refine .inr ⟨h1,?_⟩
   unfold wpOp
   simp only [h0]
   split
   ·rename_i hw
    rw [if_pos hw] at h2
    exact .inl (Oper.wp_mono (fun a' w' h=>⟨h.1,Ky l (k+1) a' w' hl' h.2⟩) h2)
   ·rename_i hw
    rw [if_neg hw] at h2
    exact⟨h2.1,Ky l (k+1) _ w hl' h2.2⟩
theorem V0 {l:List Oper} {Q':Exit→Act→World→Prop} (hB:lexB .any l=true) (hQ:∀ c a w,¬ Q' (.panic c) a w) {a:Act} {w:World} (hS:S w) (h:T5 P l.toArray Q' S l a w) :
  wpAny P .any l.toArray Q' l.length (Array.replicate l.length false) a w:=by
 refine wpAny_of_held _ _ _ _ (jX hB (fun c a d v w h=>absurd h (hQ c _ w)) l.length (List.range' 0 l.length) _ a w (by simp) List.pairwise_lt_range' (fun i=>?_) (by simp) (fun j oj _ hl=>(by rw [getD_replicate_false] at hl;cases hl)) hS (Ky l 0 a w (fun j _=>by simp) h))
 rw [List.mem_range'_1]
 constructor
 ·intro h
  have:i<l.length:=by omega
  simp [this]
 ·intro h;omega
def Xu (K:Act→World→Prop):Exit→Act→World→Prop
 |.normal,a,w=>K a w
 |_,_,_=>False
theorem Oper.OI {o:Oper} {a:Act} {w:World} {K:Act→World→Prop} {Q Q':Exit→Act→World→Prop} (hq:∀ e a w,Q e a w→Q' e a w) (h:o.wp P a w K Q):o.wp P a w K Q':=by
 unfold Oper.wp at *
 generalize (execOp a.eval o).run P w=r at *
 cases r with
 |ok n w' =>
  cases n<;>simp only [Oper.upon] at h ⊢
  all_goals first
   |exact h
   |exact Calls.mono h fun e w'' he=>by
     cases e with
     |returned u=>exact he
     |panicked c=>exact hq _ _ _ he
     |outgrown=>obtain ⟨a,w,h⟩:=he;exact⟨a,w,hq _ _ _ h⟩
 |halt x w'=>cases x<;>simp only [Oper.upon] at h ⊢;exact hq _ _ _ h
theorem AL {ops:Array Oper} {i:Nat} {K:Act→World→Prop} {Q Q':Exit→Act→World→Prop} {a:Act} {w:World} (hq:∀ e a w,Q e a w→Q' e a w) (h:wpOp P ops Q i K a w):wpOp P ops Q' i K a w:=by
 unfold wpOp at *
 cases ho:ops[i]? with
 |none=>simp only [ho] at h ⊢;exact h
 |some o =>
  simp only [ho] at h ⊢
  split
  ·rename_i hw
   rw [if_pos hw] at h
   exact h.imp (Oper.OI hq) (fun⟨h1,a,w,h2⟩=>⟨h1,a,w,hq _ _ _ h2⟩)
  ·rename_i hw;rw [if_neg hw] at h;exact h
theorem Vl {ops:Array Oper} {Q Q':Exit→Act→World→Prop} (hq:∀ e a w,Q e a w→Q' e a w):∀ (f:Nat) (listed:Array Bool) (a:Act) (w:World),wpAny P md ops Q f listed a w→wpAny P md ops Q' f listed a w
 |0,_,_,_,h=>⟨h.1,hq _ _ _ h.2⟩
 |f+1,_,_,_,h=>⟨fun h0=>hq _ _ _ (h.1 h0),fun i hi=>AL hq (wpOp_mono (fun a' w' h'=>Vl hq f _ a' w' h') (h.2 i hi))⟩
theorem PF {id:Nat} {a:Act} {w:World} {l:List Oper} (hm:P.follows .mixedOrders=true) (hB:lexB .any l=true) (hS:S { w with drawn:=w.drawn+1 })
  (h:T5 P l.toArray (Xu (Q .normal)) S l a { w with drawn:=w.drawn+1 }):(Code.region id l.toArray true).wp P Q a w:=by
 refine wp_region_any hm ?_
 have:=V0 (P:=P) (Q':=Xu (Q .normal)) hB (fun c a w h=>h) hS h
 simpa using Vl (Q':=Q) (fun e a w h=>by cases e<;>first | exact h | exact h.elim) _ _ _ _ this
theorem Gy {id:Nat} {a:Act} {w:World} {l:List Oper} (n:Nat) (hm:P.follows .mixedOrders=true) (hB:Hl l n=true) (hB2:lexB .any (l.take n)=true) (hS:S { w with drawn:=w.drawn+1 })
  (h:T5 P (l.take n).toArray (Xu (fun a w=>wpList P l.toArray Q (l.drop n) a w)) S (l.take n) a { w with drawn:=w.drawn+1 }):(Code.region id l.toArray true).wp P Q a w:=by
 refine Ef n hm hB ?_
 have hn:n<l.length:=by simp only [Hl,Bool.and_eq_true,decide_eq_true_eq] at hB;exact hB.1.1.1.1.1
 have:=V0 (P:=P) hB2 (fun c a w h=>h) hS h
 have e:(l.take n).length=n:=by simp;omega
 rw [e] at this
 exact Vl (fun e a w h=>by cases e<;>first | exact h | exact h.elim) _ _ _ _ this
end
end
end
section
open Go.RowKit
abbrev Gs:=Nat→Option (Array Value×TypeId)
def Gs.le (F F':Gs):Prop:=∀ b x,F b=some x→F' b=some x
theorem Gs.le_refl (F:Gs):Gs.le F F:=fun _ _ h=>h
theorem Gs.le_trans {F F' F'':Gs} (h:Gs.le F F') (k:Gs.le F' F''):Gs.le F F'':=fun b x hx=>k b x (h b x hx)
class Dr where
 on:Prop
instance (priority:=10) gq:Dr:=⟨False⟩
class Df where
 ds:List Deferred
instance (priority:=10) VQ:Df:=⟨[]⟩
structure Pd [Dr] (w w':World):Prop extends Below w.heap.size w w' where
 dr:Dr.on→w.drawn≤w'.drawn
section
variable [Dr]
theorem Pd.refl (w:World):Pd w w:=⟨Ext.refl w,fun _=>Nat.le_refl _⟩
theorem Pd.trans {a b c:World} (h:Pd a b) (k:Pd b c):Pd a c:=⟨Ext.trans h.toBelow k.toBelow,fun d=>Nat.le_trans (h.dr d) (k.dr d)⟩
theorem Pd.alloc {a w:World} (h:Pd a w) (o:Obj):Pd a (w.alloc o):=⟨Ext.alloc h.toBelow o,h.dr⟩
theorem Pd.drew {a w:World} (h:Pd a w):Pd a w.drew:=⟨Ext.drew h.toBelow,fun d=>Nat.le_succ_of_le (h.dr d)⟩
end
theorem Pd.of {w w':World} (h:Ext w w'):Pd w w':=⟨h,fun d=>d.elim⟩
section
variable [Dr] [df:Df]
structure Fits (F:Gs) (w:World):Prop where
 row:∀ b c T,F b=some (c,T)→∃ fr,w.heap[b]?=some (.cells c T fr)
 all:∀ b c fr,w.heap[b]?=some (.cells c 248 fr)→F b=some (c,248)
theorem Fits.drew {F:Gs} {w:World} (h:Fits F w):Fits F w.drew:=⟨h.row,h.all⟩
theorem Fits.lt {F:Gs} {w:World} (h:Fits F w) {b:Nat} {x:Array Value×TypeId} (hb:F b=some x):b<w.heap.size:=by
 obtain ⟨fr,h⟩:=h.row b x.1 x.2 hb
 rcases Nat.lt_or_ge b w.heap.size with g | g
 ·exact g
 ·rw [Array.getElem?_eq_none g] at h;cases h
theorem Fits.none {F:Gs} {w:World} (h:Fits F w) {b:Nat} (hb:w.heap.size≤b):F b=none:=by
 cases hv:F b with
 |none=>rfl
 |some x=>have:=h.lt hv;omega
abbrev Sl:=List (Nat×Value)
def look:Sl→Nat→Option Value
 |[],_=>none
 |(k,v)::r,t=>bif Nat.beq k t then some v else look r t
def vC (m:Sl):Option Tmp→Value→Sl
 |some d,v=>(d,v)::m
 |none,_=>m
def ev (m:Sl):Operand→Option Value
 |.tmp t=>look m t
 |.const v=>some v
 |.global g=>some (.pointer (some ⟨g,0,none⟩))
 |.func f=>some (.func (.func f) #[] #[])
def En (m:Sl):List Operand→Option (List Value)
 |[]=>some []
 |x::r=>match ev m x,En m r with
  |some v,some l=>some (v::l)
  |_,_=>none
def J4 (N:Nat) (d:Option Tmp):Bool:=match d with | some d=>Nat.blt d N | none=>true
structure Js (N:Nat) (m:Sl) (a:Act):Prop where
 size:a.tmps.size=N
 df:a.defers=Df.ds
 get:∀ t v,look m t=some v→a.tmps[t]?=some v
theorem Js.ev {N:Nat} {m:Sl} {a:Act} (h:Js N m a) {x:Operand} {v:Value} (hx:ev m x=some v):a.eval x=v:=by
 cases x with
 |tmp t=>have:=h.get t v hx;simp [Act.eval,this]
 |const v'=>simpa [YtknegjaeoffnbaaGreatDoor.ev,Act.eval] using hx
 |global g=>simpa [YtknegjaeoffnbaaGreatDoor.ev,Act.eval] using hx
 |func f=>simpa [YtknegjaeoffnbaaGreatDoor.ev,Act.eval] using hx
theorem Js.En {N:Nat} {m:Sl} {a:Act} (h:Js N m a):∀ {l:List Operand} {vs:List Value},En m l=some vs→l.map a.eval=vs
 |[],vs,e=>by simpa [YtknegjaeoffnbaaGreatDoor.En] using e
 |x::l,vs,e=>by
  unfold YtknegjaeoffnbaaGreatDoor.En at e
  cases hx:YtknegjaeoffnbaaGreatDoor.ev m x with
  |none=>rw [hx] at e;simp at e
  |some v =>
   cases hl:YtknegjaeoffnbaaGreatDoor.En m l with
   |none=>rw [hx,hl] at e;simp at e
   |some r =>
    rw [hx,hl] at e
    simp only [Option.some.injEq] at e
    subst e
    rw [List.map_cons,h.ev hx,h.En hl]
theorem Js.put {N:Nat} {m:Sl} {a:Act} (h:Js N m a) {d:Option Tmp} (hd:J4 N d=true) (v:Value):Js N (vC m d v) (a.put d v):=by
 cases d with
 |none=>exact h
 |some d =>
  have hd':d<N:=by simpa [J4] using hd
  refine⟨by simp [Act.put,h.size],h.df,fun t u ht=>?_⟩
  simp only [vC,look] at ht
  cases hb:Nat.beq d t with
  |true =>
   rw [hb] at ht
   have:d=t:=by simpa using hb
   subst this
   have:v=u:=by simpa using ht
   subst this
   simp [Act.put,h.size,hd']
  |false =>
   rw [hb] at ht
   have hne:d≠t:=by intro e;subst e;simp at hb
   have:=h.get t u (by simpa using ht)
   simp [Act.put,Array.getElem?_setIfInBounds_ne hne,this]
def Y4 (m:Sl):Sl→Prop
 |[]=>True
 |(t,v)::r=>look m t=some v∧Y4 m r
theorem Js.sub {N:Nat} {m:Sl} {a:Act} (h:Js N m a):∀ {m':Sl},Y4 m m'→Js N m' a
 |[],_=>⟨h.size,h.df,fun t v e=>by simp [look] at e⟩
 |(k,u)::r,⟨h1,h2⟩=>by
  refine⟨h.size,h.df,fun t v e=>?_⟩
  simp only [look] at e
  cases hb:Nat.beq k t with
  |true =>
   rw [hb] at e
   have:k=t:=by simpa using hb
   subst this
   have:u=v:=by simpa using e
   subst this
   exact h.get _ _ h1
  |false=>rw [hb] at e;exact(h.sub h2).get t v (by simpa using e)
structure Env where
 w0:World
 F0:Gs
 bs:List (Nat×Obj)
 G:Gs→Prop
structure OF (E:Env) (w:World) (F:Gs):Prop where
 le:Gs.le E.F0 F
 old:∀ b,b<E.w0.heap.size→F b=E.F0 b
 fits:Fits F w
 ext:Pd E.w0 w
 bx:∀ k∈E.bs,w.heap[k.1]?=some k.2∧E.w0.heap.size≤k.1∧F k.1=none
 nd:(E.bs.map (·.1)).Nodup
 g:∀ F',Gs.le F F'→E.G F'
def St (E:Env) (w:World):Prop:=∃ F,OF E w F
theorem OF.drew {E:Env} {w:World} {F:Gs} (h:OF E w F):OF E w.drew F:=⟨h.le,h.old,h.fits.drew,h.ext.drew,h.bx,h.nd,h.g⟩
theorem St.drew {E:Env} {w:World} (h:St E w):St E w.drew:=h.imp fun _ h=>h.drew
theorem OF.hG {E:Env} {w:World} {F:Gs} (h:OF E w F):E.G F:=h.g F (Gs.le_refl F)
theorem St.start {w:World} {F:Gs} (hf:Fits F w) {G:Gs→Prop} (hg:∀ F',Gs.le F F'→G F'):St ⟨w,F,[],G⟩ w :=
 ⟨F,Gs.le_refl F,fun _ _=>rfl,hf,Pd.refl w,fun _ h=>(by cases h),List.nodup_nil,hg⟩
theorem St.imp {w0:World} {F0:Gs} {bs bs':List (Nat×Obj)} {G G':Gs→Prop} {w:World} (h:St ⟨w0,F0,bs,G⟩ w) (hb:bs'.Sublist bs) (hg:∀ F,G F→G' F):St ⟨w0,F0,bs',G'⟩ w:=by
 obtain ⟨F,h⟩:=h
 exact⟨F,h.le,h.old,h.fits,h.ext,fun k hk=>h.bx k (hb.subset hk),(hb.map _).nodup h.nd,fun F' hF'=>hg F' (h.g F' hF')⟩
theorem St.Bn {w0:World} {F0:Gs} {bs:List (Nat×Obj)} {G G':Gs→Prop} {w:World} (h:St ⟨w0,F0,bs,G⟩ w) (hg:∀ F,G F→G' F):St ⟨w0,F0,bs,G'⟩ w:=h.imp (List.Sublist.refl _) hg
theorem P6 {α:Type} {x:α} {l r:List α} (h:(l++x::r).Nodup):x∉l++r∧(l++r).Nodup:=by
 have h1:=h
 rw [List.nodup_append] at h1
 obtain ⟨a,b,c⟩:=h1
 obtain ⟨d,e⟩:=List.nodup_cons.1 b
 refine⟨fun hx=>?_,?_⟩
 ·rcases List.mem_append.1 hx with hx | hx
  ·exact c x hx x (by simp) rfl
  ·exact d hx
 ·rw [List.nodup_append]
  exact⟨a,e,fun y hy z hz=>c y hy z (by simp [hz])⟩
theorem St.alloc {w0:World} {F0:Gs} {bs:List (Nat×Obj)} {G:Gs→Prop} {w:World} (h:St ⟨w0,F0,bs,G⟩ w) (o:Obj) (ho:∀ c fr,o≠.cells c 248 fr):St ⟨w0,F0,(w.heap.size,o)::bs,G⟩ (w.alloc o):=by
 obtain ⟨F,h⟩:=h
 have hne:∀ k∈bs,k.1≠w.heap.size:=fun k hk e=>by
  have:=(h.bx k hk).1
  rw [e,Array.getElem?_eq_none (Nat.le_refl _)] at this;cases this
 refine⟨F,⟨h.le,h.old,⟨fun b c T hb=>?_,fun b c fr hb=>?_⟩,h.ext.alloc o,fun k hk=>?_,?_,h.g⟩⟩
 ·obtain ⟨fr,e⟩:=h.fits.row b c T hb
  exact⟨fr,by rw [Below.heap_alloc _ _ _ (h.fits.lt hb)];exact e⟩
 ·rcases Nat.lt_or_ge b w.heap.size with g | g
  ·rw [Below.heap_alloc _ _ _ g] at hb;exact h.fits.all b c fr hb
  ·have hb':(w.heap.push o)[b]?=some (.cells c 248 fr):=hb
   rw [Array.getElem?_push] at hb'
   split at hb'
   ·exact absurd (Option.some.inj hb') (ho c fr)
   ·rw [Array.getElem?_eq_none g] at hb';cases hb'
 ·rcases List.mem_cons.1 hk with rfl | hk
  ·exact⟨by show(w.heap.push o)[w.heap.size]?=_;simp,h.ext.size,h.fits.none (Nat.le_refl _)⟩
  ·obtain ⟨h1,h2,h3⟩:=h.bx k hk
   have hlt:k.1<w.heap.size:=by
    rcases Nat.lt_or_ge k.1 w.heap.size with g | g
    ·exact g
    ·rw [Array.getElem?_eq_none g] at h1;cases h1
   exact⟨by rw [Below.heap_alloc _ _ _ hlt];exact h1,h2,h3⟩
 ·show(w.heap.size::bs.map (·.1)).Nodup
  refine List.nodup_cons.2 ⟨fun hm=>?_,h.nd⟩
  obtain ⟨k,hk,e⟩:=List.mem_map.1 hm
  exact hne k hk e
theorem OF.freeze {w0:World} {F0:Gs} {pre post:List (Nat×Obj)} {b:Nat} {c:Array Value} {T:TypeId} {fr:Nat×Nat} {G:Gs→Prop} {w:World} {F:Gs} (h:OF ⟨w0,F0,pre++(b,.cells c T fr)::post,G⟩ w F) :
  OF ⟨w0,F0,pre++post,G⟩ w (fun i=>if i=b then some (c,T) else F i)∧Gs.le F (fun i=>if i=b then some (c,T) else F i):=by
 obtain ⟨h1,h2,h3⟩:=h.bx (b,.cells c T fr) (by simp)
 have hle:Gs.le F (fun i=>if i=b then some (c,T) else F i):=fun i x hx=>by
  by_cases e:i=b
  ·subst e;rw [h3] at hx;cases hx
  ·show(if i=b then _ else _)=_
   rw [if_neg e];exact hx
 have hnd:=h.nd
 simp only [List.map_append,List.map_cons] at hnd
 have hnd2:=(P6 hnd)
 refine⟨⟨Gs.le_trans h.le hle,fun i hi=>?_,⟨fun i c' T' hi=>?_,fun i c' fr' hi=>?_⟩,h.ext,fun k hk=>?_,?_,fun F' hF'=>h.g F' (Gs.le_trans hle hF')⟩,hle⟩
 ·have:i≠b:=by rintro rfl;exact absurd hi (Nat.not_lt.2 h2)
  rw [if_neg this];exact h.old i hi
 ·by_cases e:i=b
  ·subst e
   rw [if_pos rfl] at hi
   cases hi
   exact⟨fr,h1⟩
  ·rw [if_neg e] at hi;exact h.fits.row i c' T' hi
 ·by_cases e:i=b
  ·subst e
   have:=h1.symm.trans hi
   cases this
   rw [if_pos rfl]
  ·rw [if_neg e];exact h.fits.all i c' fr' hi
 ·obtain ⟨g1,g2,g3⟩:=h.bx k (by
   rcases List.mem_append.1 hk with h | h
   ·simp [h]
   ·simp [h])
  refine⟨g1,g2,?_⟩
  have hkb:k.1≠b:=by
   rintro rfl
   refine hnd2.1 ?_
   rw [← List.map_append];exact List.mem_map_of_mem hk
  rw [if_neg hkb];exact g3
 ·show((pre++post).map (·.1)).Nodup
  rw [List.map_append];exact hnd2.2
theorem St.freeze {w0:World} {F0:Gs} (pre:List (Nat×Obj)) {post:List (Nat×Obj)} {b:Nat} {c:Array Value} {T:TypeId} {fr:Nat×Nat} {G:Gs→Prop} {w:World} (h:St ⟨w0,F0,pre++(b,.cells c T fr)::post,G⟩ w) :
  St ⟨w0,F0,pre++post,fun F=>G F∧F b=some (c,T)⟩ w:=by
 obtain ⟨F,h⟩:=h
 obtain ⟨h1,hle⟩:=h.freeze
 exact⟨_,h1.le,h1.old,h1.fits,h1.ext,h1.bx,h1.nd,fun F' hF'=>⟨h1.g F' hF',hF' b _ (by show(if b=b then _ else _)=_;rw [if_pos rfl])⟩⟩
theorem St.write {w0:World} {F0:Gs} (pre:List (Nat×Obj)) {post:List (Nat×Obj)} {b:Nat} {o o':Obj} {G:Gs→Prop} {w w':World} (h:St ⟨w0,F0,pre++(b,o)::post,G⟩ w)
  (hw:w'.heap=w.heap.setIfInBounds b o'∧w'.os=w.os∧w'.tape=w.tape∧w'.output=w.output∧w'.drawn=w.drawn) (ho:∀ c fr,o'≠.cells c 248 fr):St ⟨w0,F0,pre++(b,o')::post,G⟩ w':=by
 obtain ⟨F,h⟩:=h
 obtain ⟨h1,h2,h3⟩:=h.bx (b,o) (by simp)
 have hlt:b<w.heap.size:=by
  rcases Nat.lt_or_ge b w.heap.size with g | g
  ·exact g
  ·rw [Array.getElem?_eq_none g] at h1;cases h1
 have hne:∀ i,i≠b→w'.heap[i]?=w.heap[i]?:=fun i hi=>by rw [hw.1,Array.getElem?_setIfInBounds_ne (Ne.symm hi)]
 have heq:w'.heap[b]?=some o':=by rw [hw.1];simp [hlt]
 have hsz:w'.heap.size=w.heap.size:=by rw [hw.1];simp
 have hnd:=h.nd
 simp only [List.map_append,List.map_cons] at hnd
 have hnd2:=(P6 hnd)
 refine⟨F,⟨h.le,h.old,⟨fun i c T hi=>?_,fun i c fr hi=>?_⟩,⟨Ext.zE h.ext.toBelow ?_ ?_ ?_ ?_ ?_,fun d=>by rw [hw.2.2.2.2];exact h.ext.dr d⟩,fun k hk=>?_,?_,h.g⟩⟩
 ·have:i≠b:=by rintro rfl;rw [h3] at hi;cases hi
  rw [hne i this];exact h.fits.row i c T hi
 ·by_cases e:i=b
  ·subst e;rw [heq] at hi;exact absurd (Option.some.inj hi) (ho c fr)
  ·rw [hne i e] at hi;exact h.fits.all i c fr hi
 ·exact hw.2.1
 ·exact hw.2.2.1
 ·exact hw.2.2.2.1
 ·omega
 ·intro i hi
  exact hne i (by rintro rfl;exact absurd hi (Nat.not_lt.2 h2))
 ·have key:k=(b,o')∨k∈pre++post:=by
   rcases List.mem_append.1 hk with h | h
   ·exact .inr (by simp [h])
   ·rcases List.mem_cons.1 h with h | h
    ·exact .inl h
    ·exact .inr (by simp [h])
  rcases key with rfl | hk'
  ·exact⟨heq,h2,h3⟩
  ·obtain ⟨g1,g2,g3⟩:=h.bx k (by
    rcases List.mem_append.1 hk' with h | h
    ·simp [h]
    ·simp [h])
   have hkb:k.1≠b:=by
    rintro rfl
    refine hnd2.1 ?_
    rw [← List.map_append];exact List.mem_map_of_mem hk'
   exact⟨by rw [hne _ hkb];exact g1,g2,g3⟩
 ·show((pre++(b,o')::post).map (·.1)).Nodup
  simp only [List.map_append,List.map_cons]
  exact hnd
end
end
section
open Go.RowKit
section
variable [Dr] [df:Df]
section
variable {P:Program} {Q:Exit→Act→World→Prop} {N:Nat} {m:Sl} {E:Env}
def Fin (Q:Exit→Act→World→Prop) (e:Exit) (N:Nat) (m:Sl) (E:Env):Prop:=∀ a w,Js N m a→St E w→Q e a w
def J (P:Program) (c:Code) (Q:Exit→Act→World→Prop) (N:Nat) (m:Sl) (E:Env):Prop:=∀ a w,Js N m a→St E w→c.wp P Q a w
def JS (P:Program) (ops:Array Oper) (Q:Exit→Act→World→Prop) (l:List Oper) (N:Nat) (m:Sl) (E:Env):Prop:=∀ a w,Js N m a→St E w→wpList P ops Q l a w
def JD (P:Program) (ops:Array Oper) (Q:Exit→Act→World→Prop) (E0:Env) (l:List Oper) (N:Nat) (m:Sl) (E:Env):Prop:=(∀ w,St E w→St E0 w)→∀ a w,Js N m a→St E w→T5 P ops Q (St E0) l a w
theorem QG {x y:Code} (h:J P x (Exit.then (y.wp P Q) Q) N m E):J P (.seq x y) Q N m E:=fun a w ha hw=>wp_seq (h a w ha hw)
theorem Qa {id:Nat} {c:Code} (h:J P c (Exit.inBlock id Q) N m E):J P (.block id c) Q N m E:=fun a w ha hw=>wp_block (h a w ha hw)
theorem QN (h:Fin Q .normal N m E):J P .skip Q N m E:=fun a w ha hw=>wp_skip (h a w ha hw)
theorem Q6 {id:Nat} (h:Fin Q (.exit id) N m E):J P (.exit id) Q N m E:=fun a w ha hw=>wp_exit (h a w ha hw)
theorem QS (h:Fin Q .ret N m E):J P .ret Q N m E:=fun a w ha hw=>wp_ret (h a w ha hw)
theorem QO {c:Operand} {x y:Code} {t:Bool} (hc:ev m c=some (.bool t)) (ht:t=true→J P x Q N m E) (hf:t=false→J P y Q N m E):J P (.cond c x y) Q N m E :=
 fun a w ha hw=>wp_cond_split (ha.ev hc) (fun h=>ht h a w ha hw) (fun h=>hf h a w ha hw)
theorem K8 {c:Operand} {x y:Code} (hc:ev m c=some (.bool true)) (h:J P x Q N m E):J P (.cond c x y) Q N m E:=QO hc (fun _=>h) (fun h=>by cases h)
theorem Zw {c:Operand} {x y:Code} (hc:ev m c=some (.bool false)) (h:J P y Q N m E):J P (.cond c x y) Q N m E:=QO hc (fun h=>by cases h) (fun _=>h)
theorem QD {y:Code} (h:J P y Q N m E):Fin (Exit.then (y.wp P Q) Q) .normal N m E:=h
theorem Qc {K:Act→World→Prop} {id:Nat} (h:Fin Q (.exit id) N m E):Fin (Exit.then K Q) (.exit id) N m E:=h
theorem JN {K:Act→World→Prop} (h:Fin Q .ret N m E):Fin (Exit.then K Q) .ret N m E:=h
theorem Qm {id:Nat} (h:Fin Q .normal N m E):Fin (Exit.inBlock id Q) .normal N m E:=h
theorem JE {id:Nat} (h:Fin Q .ret N m E):Fin (Exit.inBlock id Q) .ret N m E:=h
theorem Qd {id:Nat} (h:Fin Q .normal N m E):Fin (Exit.inBlock id Q) (.exit id) N m E:=fun a w ha hw=>by simp only [Exit.inBlock,if_true];exact h a w ha hw
theorem QX {id id':Nat} (hid:Nat.beq id' id=false) (h:Fin Q (.exit id') N m E):Fin (Exit.inBlock id Q) (.exit id') N m E:=fun a w ha hw=>by
 have:id'≠id:=by rintro rfl;simp at hid
 simp only [Exit.inBlock,if_neg this];exact h a w ha hw
theorem gO {K:Act→World→Prop} (h:∀ a w,Js N m a→St E w→K a w):Fin (Xu K) .normal N m E:=h
def Is {ι:Type} (N:Nat) (w0:World) (F0:Gs) (M:ι→Sl) (B:ι→List (Nat×Obj)) (H:ι→Gs→Prop) (μ:ι→Nat) (i:ι) (a:Act) (w:World):Prop :=
 ∃ j,μ j<μ i∧Js N (M j) a∧St ⟨w0,F0,B j,H j⟩ w
theorem XS {ι:Type} {w0:World} {F0:Gs} {bs:List (Nat×Obj)} {G:Gs→Prop} {c:Code} (M:ι→Sl) (B:ι→List (Nat×Obj)) (H:ι→Gs→Prop) (μ:ι→Nat) (i0:ι)
  (hm:Y4 m (M i0)) (hb:(B i0).Sublist bs) (hg:∀ F,G F→H i0 F)
  (round:∀ i,J P c (Exit.then (Is N w0 F0 M B H μ i) Q) N (M i) ⟨w0,F0,B i,H i⟩):J P (.loop c) Q N m ⟨w0,F0,bs,G⟩:=by
 intro a w ha hw
 refine wp_loop_ghost (fun n a w=>∃ i,μ i=n∧Js N (M i) a∧St ⟨w0,F0,B i,H i⟩ w) (μ i0) ⟨i0,rfl,ha.sub hm,hw.imp hb hg⟩ ?_
 rintro n a w ⟨i,rfl,ha,hw⟩
 refine wp_mono (round i a w ha hw) ?_
 intro e a' w' h
 cases e with
 |normal=>obtain ⟨j,h1,h2,h3⟩:=h;exact⟨μ j,h1,j,rfl,h2,h3⟩
 |_=>exact h
theorem Qo {ι:Type} {w0:World} {F0:Gs} {bs:List (Nat×Obj)} {G:Gs→Prop} {M:ι→Sl} {B:ι→List (Nat×Obj)} {H:ι→Gs→Prop} {μ:ι→Nat} {i:ι} (j:ι) (hμ:μ j<μ i)
  (hm:Y4 m (M j)) (hb:(B j).Sublist bs) (hg:∀ F,G F→H j F):Fin (Exit.then (Is N w0 F0 M B H μ i) Q) .normal N m ⟨w0,F0,bs,G⟩ :=
 fun a w ha hw=>⟨j,hμ,ha.sub hm,hw.imp hb hg⟩
theorem gI {w0:World} {F0:Gs} {bs bs':List (Nat×Obj)} {G G':Gs→Prop} {m':Sl} {c:Code} (hm:Y4 m m') (hb:bs'.Sublist bs) (hg:∀ F,G F→G' F) (h:J P c Q N m' ⟨w0,F0,bs',G'⟩):J P c Q N m ⟨w0,F0,bs,G⟩ :=
 fun a w ha hw=>h a w (ha.sub hm) (hw.imp hb hg)
theorem QB {id:Nat} {l:List Oper} (h:JS P l.toArray Q l N m E):J P (.region id l.toArray false) Q N m E:=fun a w ha hw=>wp_region_lit (h a w ha hw)
variable {ops:Array Oper} {l:List Oper} {E0:Env}
theorem QF (h:Fin Q .normal N m E):JS P ops Q [] N m E:=h
theorem gJ {K:Act→World→Prop} (h:∀ a w,Js N m a→St E w→K a w):JD P ops (Xu K) E0 [] N m E:=fun _=>h
def Qt (P:Program) (N:Nat) (m:Sl) (S:World→Prop) (o:Op) (ty:TypeId) (v:Value):Prop:=∀ a w d pos aft g,Js N m a→S w→(execOp a.eval ⟨d,o,ty,pos,aft,g⟩).run P w = .ok (.value v) w
variable {d:Nat} {o:Op} {ty:TypeId} {pos:String} {aft:Array Edge} {v:Value}
theorem QA (h:Qt P N m (St E) o ty v) (k:JS P ops Q l N ((d,v)::m) E) (hd:J4 N (some d)=true:=by rfl):JS P ops Q (⟨some d,o,ty,pos,aft,none⟩::l) N m E:=by
 intro a w ha hw
 refine wpList_plain rfl fun K hK=>?_
 unfold Oper.wp
 rw [h a w _ _ _ _ ha hw]
 exact hK _ _ (k _ w (ha.put hd v) hw)
theorem QM (h:Qt P N m (St E0) o ty v) (k:JD P ops Q E0 l N ((d,v)::m) E) (hq:Jv o=true:=by rfl) (hd:J4 N (some d)=true:=by rfl):JD P ops Q E0 (⟨some d,o,ty,pos,aft,none⟩::l) N m E:=by
 intro hE a w ha hw
 exact .inl ⟨hq,v,.inl ⟨rfl,fun w' hw'=>h a w' _ _ _ _ ha hw'⟩,k hE _ w (ha.put hd v) hw⟩
theorem gj (h:Qt P N m (St E0) o ty v) (k:JD P ops Q E0 l N m E) (hq:Jv o=true:=by rfl):JD P ops Q E0 (⟨none,o,ty,pos,aft,none⟩::l) N m E:=by
 intro hE a w ha hw
 exact .inl ⟨hq,v,.inl ⟨rfl,fun w' hw'=>h a w' _ _ _ _ ha hw'⟩,k hE _ w ha hw⟩
theorem BB {a:Act} (ha:Js N m a) {g t:Nat} {b:Bool} (hg:(ops[g]?).bind (·.dst)=some t) (hb:look m t=some (.bool b)):yielded ops a.tmps g=some b:=by
 unfold yielded
 rw [hg]
 have:=ha.get t _ hb
 simp [this]
theorem kf {d:Option Tmp} {g t:Nat} {b want:Bool} (hg:(ops[g]?).bind (·.dst)=some t) (hb:look m t=some (.bool b)) (ht:b=want→JS P ops Q (⟨d,o,ty,pos,aft,none⟩::l) N m E) (hf:b=!want→JS P ops Q l N (vC m d undef) E)
  (hd:J4 N d=true:=by rfl):JS P ops Q (⟨d,o,ty,pos,aft,some (g,want)⟩::l) N m E:=by
 intro a w ha hw
 unfold wpList
 have hy:=BB ha hg hb
 by_cases e:b=want
 ·have:=ht e a w ha hw
  unfold wpList at this
  rw [if_pos (by simp [Region.wanted])] at this
  rw [if_pos (by simp [Region.wanted,hy,e])]
  exact this
 ·rw [if_neg (by simp [Region.wanted,hy,e])]
  exact hf (by cases b<;>cases want<;>simp_all) _ w (ha.put hd undef) hw
theorem kg {d:Option Tmp} {g t:Nat} {b want:Bool} (hg:(ops[g]?).bind (·.dst)=some t) (hb:look m t=some (.bool b)) (ht:b=want→JD P ops Q E0 (⟨d,o,ty,pos,aft,none⟩::l) N m E) (hf:b=!want→JD P ops Q E0 l N (vC m d undef) E)
  (hd:J4 N d=true:=by rfl):JD P ops Q E0 (⟨d,o,ty,pos,aft,some (g,want)⟩::l) N m E:=by
 intro hE a w ha hw
 have hy:=BB ha hg hb
 by_cases e:b=want
 ·rcases ht e hE a w ha hw with ⟨h1,v,h2,h3⟩ | ⟨h1,h2⟩
  ·refine .inl ⟨h1,v,?_,h3⟩
   rcases h2 with ⟨_,h2⟩ | ⟨h2,_⟩
   ·exact .inl ⟨by simp [Region.wanted,hy,e],h2⟩
   ·simp [Region.wanted] at h2
  ·refine .inr ⟨h1,?_⟩
   rw [if_pos (by simp [Region.wanted])] at h2
   rw [if_pos (by simp [Region.wanted,hy,e])]
   exact h2
 ·have hr:=hf (by cases b<;>cases want<;>simp_all) hE _ w (ha.put hd undef) hw
  cases hq:Jv o with
  |true=>exact .inl ⟨hq,undef,.inr ⟨by simp [Region.wanted,hy,e],rfl⟩,hr⟩
  |false =>
   refine .inr ⟨hq,?_⟩
   rw [if_neg (by simp [Region.wanted,hy,e])]
   exact⟨hE w hw,hr⟩
end
end
end
section
open Go.RowKit
section
variable [Dr] [df:Df]
def vw (d:TypeDesc):Bool:=match d with | .struct _ | .array _ _=>true | _=>false
def YJ (P:Program) (T:TypeId):Option (Bool×Nat):=match P.underlying T,P.info? T with
 |some d,some i=>some (vw d,i.size)
 |_,_=>none
theorem Re {P:Program} {T:TypeId} {g:Bool} {n:Nat} (h:YJ P T=some (g,n)) (w:World):(isAgg T).run P w = .ok g w:=by
 unfold YJ at h
 split at h
 ·rename_i d i hd hi
  cases h
  unfold isAgg
  rw [Sem.run_bind,run_underlying hd w]
  cases d<;>rfl
 ·cases h
theorem YK {P:Program} {T:TypeId} {g:Bool} {n:Nat} (h:YJ P T=some (g,n)) (w:World):(sizeOf T).run P w = .ok n w:=by
 unfold YJ at h
 split at h
 ·rename_i d i hd hi
  cases h
  simp [sizeOf,typeInfo,hi]
 ·cases h
def Wy (P:Program) (T:TypeId) (f:Nat):Option (Nat×TypeId):=match P.underlying T with
 |some (.struct fs)=>match fs[f]? with
  |some x=>some (x.offset,x.type)
  |none=>none
 |_=>none
inductive PD:List Value→Nat→List Value→Prop
 |nil {l:List Value}:PD l 0 []
 |here {x:Value} {l vs:List Value}:PD l 0 vs→PD (x::l) 0 (x::vs)
 |skip {x:Value} {l vs:List Value} {n:Nat}:PD l n vs→PD (x::l) (n+1) vs
theorem PD.at {l vs:List Value} {n:Nat} (h:PD l n vs):∀ (j:Nat) (v:Value),vs[j]?=some v→l[n+j]?=some v:=by
 induction h with
 |nil=>intro j v hv;simp at hv
 |here h ih =>
  intro j v hv
  cases j with
  |zero=>simpa using hv
  |succ j =>
   have:=ih j v (by simpa using hv)
   rw [show 0+(j+1)=(0+j)+1 by omega];simpa using this
 |skip h ih =>
  intro j v hv
  have:=ih j v hv
  rw [Nat.add_right_comm];simpa using this
inductive VD:List Value→Nat→List Value→List Value→Prop
 |nil {l:List Value}:VD l 0 [] l
 |here {x v:Value} {l vs l':List Value}:VD l 0 vs l'→VD (x::l) 0 (v::vs) (v::l')
 |skip {x:Value} {l vs l':List Value} {n:Nat}:VD l n vs l'→VD (x::l) (n+1) vs (x::l')
theorem VD.length {l vs l':List Value} {n:Nat} (h:VD l n vs l'):l'.length=l.length:=by
 induction h<;>simp_all
theorem VD.le {l vs l':List Value} {n:Nat} (h:VD l n vs l'):n+vs.length≤l.length:=by
 induction h<;>simp_all<;>omega
theorem VD.eq {l vs l':List Value} {n:Nat} (h:VD l n vs l'):l'=l.take n++vs++l.drop (n+vs.length):=by
 induction h with
 |nil=>simp
 |here h ih=>simp at ih ⊢;exact ih
 |skip h ih =>
  rw [Nat.add_right_comm]
  simpa using ih
inductive Own:List (Nat×Obj)→Nat→Obj→(Obj→List (Nat×Obj))→Prop
 |here {b:Nat} {o:Obj} {r:List (Nat×Obj)}:Own ((b,o)::r) b o (fun o'=>(b,o')::r)
 |there {x:Nat×Obj} {l:List (Nat×Obj)} {b:Nat} {o:Obj} {f:Obj→List (Nat×Obj)}:Own l b o f→Own (x::l) b o (fun o'=>x::f o')
theorem Own.split {l:List (Nat×Obj)} {b:Nat} {o:Obj} {f:Obj→List (Nat×Obj)} (h:Own l b o f):∃ pre post,l=pre++(b,o)::post∧∀ o',f o'=pre++(b,o')::post:=by
 induction h with
 |here=>exact⟨[],_,rfl,fun _=>rfl⟩
 |there h ih =>
  obtain ⟨pre,post,h1,h2⟩:=ih
  exact⟨_::pre,post,by rw [h1];rfl,fun o'=>by show _::_=_;rw [h2];rfl⟩
theorem Own.mem {l:List (Nat×Obj)} {b:Nat} {o:Obj} {f:Obj→List (Nat×Obj)} (h:Own l b o f):(b,o)∈l:=by
 obtain ⟨pre,post,h1,_⟩:=h.split;rw [h1];simp
inductive xK:List (Nat×Obj)→Nat→Obj→List (Nat×Obj)→Prop
 |here {b:Nat} {o:Obj} {r:List (Nat×Obj)}:xK ((b,o)::r) b o r
 |there {x:Nat×Obj} {l l':List (Nat×Obj)} {b:Nat} {o:Obj}:xK l b o l'→xK (x::l) b o (x::l')
theorem xK.split {l l':List (Nat×Obj)} {b:Nat} {o:Obj} (h:xK l b o l'):∃ pre post,l=pre++(b,o)::post∧l'=pre++post:=by
 induction h with
 |here=>exact⟨[],_,rfl,rfl⟩
 |there h ih =>
  obtain ⟨pre,post,h1,h2⟩:=ih
  exact⟨_::pre,post,by rw [h1];rfl,by rw [h2];rfl⟩
section
variable {P:Program} {Q:Exit→Act→World→Prop} {N:Nat} {m:Sl} {E E0:Env} {ops:Array Oper} {l:List Oper} {w0:World} {F0:Gs} {bs:List (Nat×Obj)} {G:Gs→Prop}
theorem St.own {w:World} (h:St ⟨w0,F0,bs,G⟩ w) {b:Nat} {o:Obj} {f:Obj→List (Nat×Obj)} (ho:Own bs b o f):w.heap[b]?=some o:=by
 obtain ⟨F,h⟩:=h;exact(h.bx (b,o) ho.mem).1
section
variable {ty:TypeId} {v:Value} {S:World→Prop}
theorem QC {x:Operand} (h:ev m x=some v):Qt P N m S (.move x) ty v:=fun a w _ _ _ _ ha _=>by
 show(Result.ok (Next.value (a.eval x)) w)=_;rw [ha.ev h]
theorem QE {x:Operand} (h:ev m x=some v):Qt P N m S (.assign x) ty v:=fun a w _ _ _ _ ha _=>by
 show(Result.ok (Next.value (a.eval x)) w)=_;rw [ha.ev h]
theorem O4 {c x y:Operand} {b:Bool} {u:Value} (hc:ev m c=some (.bool b)) (hx:ev m x=some v) (hy:ev m y=some u):Qt P N m S (.pick c x y) ty (if b then v else u):=fun a w _ _ _ _ ha _=>by
 simp only [execOp,ha.ev hc,ha.ev hx,ha.ev hy,asBool,pure_bind,Sem.run_pure]
theorem QK {x:Operand} {vs:Array Value} {i:Nat} (h:ev m x=some (.tuple vs)) (hi:vs[i]?=some v):Qt P N m S (.extract x i) ty v:=fun a w _ _ _ _ ha _=>by
 simp [execOp,ha.ev h,Instr.extract,hi]
theorem VM {x:Operand} {p:Addr} (h:ev m x=some (.pointer (some p))):Qt P N m S (.nilCheck x) ty (.pointer (some p)):=fun a w _ _ _ _ ha _=>by
 simp [execOp,ha.ev h]
theorem QI {T:TypeId} {x:Operand} {f:Nat} {b off fo n:Nat} {ft:TypeId} {g:Bool} (h:ev m x=some (.pointer (some ⟨b,off,none⟩))) (hf:Wy P T f=some (fo,ft)) (hs:YJ P ft=some (g,n+1)) :
  Qt P N m S (.fieldAddr T x f) ty (.pointer (some ⟨b,off+fo,none⟩)):=fun a w _ _ _ _ ha _=>by
 unfold Wy at hf
 split at hf
 ·rename_i fs hu
  split at hf
  ·rename_i fx hx
   simp only [Option.some.injEq,Prod.mk.injEq] at hf
   obtain ⟨rfl,rfl⟩:=hf
   have hadd:(⟨b,off,none⟩:Addr).add fx.offset=⟨b,off+fx.offset,none⟩:=by unfold Addr.add;split<;>simp_all
   simp [execOp,ha.ev h,Instr.fieldAt,run_underlying hu,hx,Instr.sureAddr,fieldPlace,YK hs,hadd]
  ·cases hf
 ·cases hf
theorem Zb {T:TypeId} {n:Nat} (ht:YJ P T=some (false,n)) {w:World} {a:Addr} {v:Value} (h:w.cell? a=some v):(loadVar T a).run P w = .ok v w:=by
 simp [loadVar,Re ht,h]
theorem Kv {T:TypeId} {vs:List Value} {n:Nat} (ht:YJ P T=some (true,n)) (hn:vs.length=n) {w:World} {b off:Nat} (h:∀ j v,vs[j]?=some v→w.cell? ⟨b,off+j,none⟩=some v):(loadVar T ⟨b,off,none⟩).run P w = .ok (.agg vs.toArray) w:=by
 have hl:=run_loadCells_list (P:=P) w ⟨b,off,none⟩ vs (fun j v hv=>by
  have hadd:(⟨b,off,none⟩:Addr).add j=⟨b,off+j,none⟩:=by unfold Addr.add;split<;>simp_all
  rw [hadd];exact h j v hv)
 subst hn
 simp [loadVar,Re ht,YK ht,hl]
theorem Xw {w:World} {b o:Nat} {c:List Value} {T:TypeId} {fr:Nat×Nat} (h:w.heap[b]?=some (.cells c.toArray T fr)):w.cell? ⟨b,o,none⟩=c[o]?:=by
 simp [World.cell?,h]
theorem Qn {T T':TypeId} {x:Operand} {b off n:Nat} {c:List Value} {fr:Nat×Nat} {f:Obj→List (Nat×Obj)} (h:ev m x=some (.pointer (some ⟨b,off,none⟩))) (ht:YJ P T=some (false,n)) (ho:Own bs b (.cells c.toArray T' fr) f) (hg:PD c off [v]) :
  Qt P N m (St ⟨w0,F0,bs,G⟩) (.load T x) ty v:=fun a w _ _ _ _ ha hw=>by
 have hc:w.cell? ⟨b,off,none⟩=some v:=by rw [Xw (hw.own ho)];exact hg.at 0 v rfl
 simp [execOp,ha.ev h,Instr.loadAt,Instr.sureAddr,Zb ht hc]
theorem QL {T T':TypeId} {x:Operand} {b off n:Nat} {c vs:List Value} {fr:Nat×Nat} {f:Obj→List (Nat×Obj)} (h:ev m x=some (.pointer (some ⟨b,off,none⟩))) (ht:YJ P T=some (true,n)) (ho:Own bs b (.cells c.toArray T' fr) f) (hg:PD c off vs) (hn:vs.length=n) :
  Qt P N m (St ⟨w0,F0,bs,G⟩) (.load T x) ty (.agg vs.toArray):=fun a w _ _ _ _ ha hw=>by
 have:=Kv ht hn (w:=w) (b:=b) (off:=off) (fun j v hv=>by rw [Xw (hw.own ho)];exact hg.at j v hv)
 simp [execOp,ha.ev h,Instr.loadAt,Instr.sureAddr,this]
theorem cell_of_row {w:World} (h:St ⟨w0,F0,bs,G⟩ w) {b o:Nat} {c:Array Value} {T:TypeId} {v:Value} (hr:∀ F,G F→F b=some (c,T)) (hv:c[o]?=some v):w.cell? ⟨b,o,none⟩=some v:=by
 obtain ⟨F,h⟩:=h
 obtain ⟨fr,e⟩:=h.fits.row b c T (hr F h.hG)
 simp [World.cell?,e,hv]
theorem NB {T T':TypeId} {x:Operand} {b off n:Nat} {c:Array Value} (h:ev m x=some (.pointer (some ⟨b,off,none⟩))) (ht:YJ P T=some (false,n)) (hr:∀ F,G F→F b=some (c,T')) (hv:c[off]?=some v) :
  Qt P N m (St ⟨w0,F0,bs,G⟩) (.load T x) ty v:=fun a w _ _ _ _ ha hw=>by
 simp [execOp,ha.ev h,Instr.loadAt,Instr.sureAddr,Zb ht (cell_of_row hw hr hv)]
theorem kF {T T':TypeId} {x:Operand} {b off n:Nat} {c:Array Value} {vs:List Value} (h:ev m x=some (.pointer (some ⟨b,off,none⟩))) (ht:YJ P T=some (true,n)) (hr:∀ F,G F→F b=some (c,T')) (hn:vs.length=n) (hv:∀ j v,vs[j]?=some v→c[off+j]?=some v) :
  Qt P N m (St ⟨w0,F0,bs,G⟩) (.load T x) ty (.agg vs.toArray):=fun a w _ _ _ _ ha hw=>by
 have:=Kv ht hn (w:=w) (b:=b) (off:=off) (fun j v h=>cell_of_row hw hr (hv j v h))
 simp [execOp,ha.ev h,Instr.loadAt,Instr.sureAddr,this]
theorem ga {o:Op} (ρ:Operand→Value) (hs:∀ cs b,o≠.select cs b) (hρ:∀ x∈o.operands,ev m x=some (ρ x)) (h:∀ w d pos aft g,(execOp ρ ⟨d,o,ty,pos,aft,g⟩).run P w = .ok (.value v) w):Qt P N m S o ty v:=fun a w d pos aft g ha _=>by
 rw [execOp_congr (ρ:=a.eval) (ρ':=ρ) ⟨d,o,ty,pos,aft,g⟩ hs (fun x hx=>ha.ev (hρ x hx))]
 exact h w d pos aft g
end
def Enters (P:Program) (f:FuncId):Prop:=∀ (args:Array Value) (w:World),(callFunc f args).run P w = .ok (.enter f args) w
theorem enters_of {f:FuncId} {fn:Func} (h:P.funcs[f]?=some fn) (hn:(fn.name == "runtime.NumGoroutine")=false) (hb:fn.body.isNone=false):Enters P f:=fun args w=>by
 have hb':fn.body≠none:=by intro e;rw [e] at hb;cases hb
 simp [callFunc,h,hb',beq_eq_false_iff_ne.1 hn]
def Ee (w:World) (F:Gs) {γ:Type} (val:γ→Value) (fact:γ→Gs→Prop) (e:Ending) (w':World):Prop :=
 ∃ c F',e = .returned (val c)∧Pd w w'∧Gs.le F F'∧(∀ b,b<w.heap.size→F' b=F b)∧Fits F' w'∧∀ F'',Gs.le F' F''→fact c F''
def QT (P:Program) (f:FuncId) (args:List Value) (w:World) (F:Gs) {γ:Type} (val:γ→Value) (fact:γ→Gs→Prop):Prop :=
 Enters P f∧Calls P f args.toArray w (Ee w F val fact)
theorem QT.imp {f:FuncId} {args:List Value} {w:World} {F:Gs} {γ γ':Type} {val:γ→Value} {fact:γ→Gs→Prop} {val':γ'→Value} {fact':γ'→Gs→Prop} (h:QT P f args w F val fact)
  (k:∀ c F',fact c F'→∃ c',val c=val' c'∧∀ F'',Gs.le F' F''→fact' c' F''):QT P f args w F val' fact':=by
 refine⟨h.1,h.2.mono ?_⟩
 rintro e w' ⟨c,F',rfl,h1,h2,h3,h4,h5⟩
 obtain ⟨c',e,k'⟩:=k c F' (h5 F' (Gs.le_refl _))
 exact⟨c',F',by rw [e],h1,h2,h3,h4,k'⟩
theorem OF.call {w w':World} {F F':Gs} (h:OF ⟨w0,F0,bs,G⟩ w F) {f:Gs→Prop} (h1:Pd w w') (h2:Gs.le F F') (h3:∀ b,b<w.heap.size→F' b=F b) (h4:Fits F' w') (h5:∀ F'',Gs.le F' F''→f F''):OF ⟨w0,F0,bs,fun F=>G F∧f F⟩ w' F':=by
 refine⟨Gs.le_trans h.le h2,fun b hb=>?_,h4,h.ext.trans h1,fun k hk=>?_,h.nd,fun F'' hF=>⟨h.g F'' (Gs.le_trans h2 hF),h5 F'' hF⟩⟩
 ·rw [h3 b (Nat.lt_of_lt_of_le hb h.ext.size)];exact h.old b hb
 ·obtain ⟨g1,g2,g3⟩:=h.bx k hk
  have hlt:k.1<w.heap.size:=by
   rcases Nat.lt_or_ge k.1 w.heap.size with g | g
   ·exact g
   ·rw [Array.getElem?_eq_none g] at g1;cases g1
  exact⟨by rw [h1.block _ hlt];exact g1,g2,by rw [h3 _ hlt];exact g3⟩
theorem WQ {a:Act} {w:World} {d:Option Tmp} {x:Operand} {args:Array Operand} {tys:Array TypeId} {ty:TypeId} {pos:String} {aft:Array Edge} {gd:Option (Nat×Bool)} {f:FuncId} {c1 c2:Array Value} (he:Enters P f) (hx:a.eval x = .func (.func f) c1 c2) :
  (execOp a.eval ⟨d,.call ⟨.value x,args,tys⟩,ty,pos,aft,gd⟩).run P w = .ok (.enter f (c1++args.map a.eval++c2)) w:=by
 simp only [execOp,resolve,hx,Deferred.ofValue,Sem.run_bind,Sem.run_pure,Result.andThen_ok,invoke]
 exact he _ w
section
variable {d:Nat} {ty:TypeId} {pos:String} {aft:Array Edge} {f:FuncId} {args:Array Operand} {tys:Array TypeId} {vs:List Value} {γ:Type} {val:γ→Value} {fact:γ→Gs→Prop}
theorem WL {x:Operand} {c1 c2:List Value} (hx:ev m x=some (.func (.func f) c1.toArray c2.toArray)) (hv:En m args.toList=some vs) (hc:∀ w F,Fits F w→G F→QT P f (c1++vs++c2) w F val fact)
  (k:∀ c,JS P ops Q l N ((d,val c)::m) ⟨w0,F0,bs,fun F=>G F∧fact c F⟩) (hd:J4 N (some d)=true:=by rfl):JS P ops Q (⟨some d,.call ⟨.value x,args,tys⟩,ty,pos,aft,none⟩::l) N m ⟨w0,F0,bs,G⟩:=by
 intro a w ha hw
 obtain ⟨F,hF⟩:=hw
 have hcg:=hc w F hF.fits hF.hG
 refine wpList_plain rfl fun K hK=>?_
 unfold Oper.wp
 rw [WQ hcg.1 (ha.ev hx)]
 have e:c1.toArray++args.map a.eval++c2.toArray=(c1++vs++c2).toArray:=by
  have:=ha.En hv
  have e2:args.map a.eval=vs.toArray:=by rw [← this];apply Array.ext' ;simp
  rw [e2];apply Array.ext';simp
 simp only [Oper.upon]
 rw [e]
 refine hcg.2.mono ?_
 rintro e w' ⟨c,F',rfl,h1,h2,h3,h4,h5⟩
 exact hK _ _ (k c _ w' (ha.put hd (val c)) ⟨F',hF.call h1 h2 h3 h4 h5⟩)
theorem QH (hv:En m args.toList=some vs) (hc:∀ w F,Fits F w→G F→QT P f vs w F val fact)
  (k:∀ c,JS P ops Q l N ((d,val c)::m) ⟨w0,F0,bs,fun F=>G F∧fact c F⟩) (hd:J4 N (some d)=true:=by rfl):JS P ops Q (⟨some d,.call ⟨.value (.func f),args,tys⟩,ty,pos,aft,none⟩::l) N m ⟨w0,F0,bs,G⟩ :=
 WL (x:=.func f) (c1:=[]) (c2:=[]) rfl hv (by simpa using hc) k hd
theorem AE {x:Operand} {c1 c2:List Value} (hx:ev m x=some (.func (.func f) c1.toArray c2.toArray)) (hv:En m args.toList=some vs) (hc:∀ w F,Fits F w→G F→QT P f (c1++vs++c2) w F val fact)
  (k:∀ c,JD P ops Q E0 l N ((d,val c)::m) ⟨w0,F0,bs,fun F=>G F∧fact c F⟩) (hd:J4 N (some d)=true:=by rfl):JD P ops Q E0 (⟨some d,.call ⟨.value x,args,tys⟩,ty,pos,aft,none⟩::l) N m ⟨w0,F0,bs,G⟩:=by
 intro hE a w ha hw
 obtain ⟨F,hF⟩:=hw
 have hcg:=hc w F hF.fits hF.hG
 refine .inr ⟨rfl,?_⟩
 rw [if_pos (by simp [Region.wanted])]
 unfold Oper.wp
 rw [WQ hcg.1 (ha.ev hx)]
 have e:c1.toArray++args.map a.eval++c2.toArray=(c1++vs++c2).toArray:=by
  have:=ha.En hv
  have e2:args.map a.eval=vs.toArray:=by rw [← this];apply Array.ext' ;simp
  rw [e2];apply Array.ext';simp
 simp only [Oper.upon]
 rw [e]
 refine hcg.2.mono ?_
 rintro e w' ⟨c,F',rfl,h1,h2,h3,h4,h5⟩
 have hS:St ⟨w0,F0,bs,fun F=>G F∧fact c F⟩ w':=⟨F',hF.call h1 h2 h3 h4 h5⟩
 exact⟨hE w' (hS.Bn fun _ h=>h.1),k c (fun w h=>hE w (h.Bn fun _ h=>h.1)) _ w' (ha.put hd (val c)) hS⟩
theorem Qb (hv:En m args.toList=some vs) (hc:∀ w F,Fits F w→G F→QT P f vs w F val fact)
  (k:∀ c,JD P ops Q E0 l N ((d,val c)::m) ⟨w0,F0,bs,fun F=>G F∧fact c F⟩) (hd:J4 N (some d)=true:=by rfl):JD P ops Q E0 (⟨some d,.call ⟨.value (.func f),args,tys⟩,ty,pos,aft,none⟩::l) N m ⟨w0,F0,bs,G⟩ :=
 AE (x:=.func f) (c1:=[]) (c2:=[]) rfl hv (by simpa using hc) k hd
end
end
end
end
section
open Go.RowKit
section
variable [Dr] [df:Df]
section
variable {P:Program} {Q:Exit→Act→World→Prop} {N:Nat} {m:Sl} {E E0:Env} {ops:Array Oper} {l:List Oper} {w0:World} {F0:Gs} {bs:List (Nat×Obj)} {G:Gs→Prop}
theorem St.pure {w:World} {p:Prop} (h:St ⟨w0,F0,bs,G⟩ w) (hp:∀ w F,Fits F w→G F→p):p:=by
 obtain ⟨F,h⟩:=h;exact hp w F h.fits h.hG
theorem Xl {c:Code} (p:Prop) (hp:∀ w F,Fits F w→G F→p) (k:p→J P c Q N m ⟨w0,F0,bs,G⟩):J P c Q N m ⟨w0,F0,bs,G⟩:=fun a w ha hw=>k (hw.pure hp) a w ha hw
theorem JK (p:Prop) (hp:∀ w F,Fits F w→G F→p) (k:p→JS P ops Q l N m ⟨w0,F0,bs,G⟩):JS P ops Q l N m ⟨w0,F0,bs,G⟩:=fun a w ha hw=>k (hw.pure hp) a w ha hw
theorem Gx (p:Prop) (hp:∀ w F,Fits F w→G F→p) (k:p→JD P ops Q E0 l N m ⟨w0,F0,bs,G⟩):JD P ops Q E0 l N m ⟨w0,F0,bs,G⟩:=fun hE a w ha hw=>k (hw.pure hp) hE a w ha hw
theorem dN {G':Gs→Prop} (hg:∀ F,G F→G' F) (k:JS P ops Q l N m ⟨w0,F0,bs,G'⟩):JS P ops Q l N m ⟨w0,F0,bs,G⟩:=fun a w ha hw=>k a w ha (hw.Bn hg)
def XM (P:Program) (T:TypeId):Option (List Value):=match P.info? T with
 |some i=>i.zero.map fun v=>v.cells.toList
 |none=>none
theorem TT {T:TypeId} {z:List Value} (h:XM P T=some z) (w:World):∃ v,(zeroValue T).run P w = .ok v w∧v.cells=z.toArray:=by
 unfold XM at h
 split at h
 ·rename_i i hi
  cases hz:i.zero with
  |none=>rw [hz] at h;cases h
  |some v =>
   rw [hz] at h
   simp only [Option.map_some,Option.some.injEq] at h
   exact⟨v,by simp [zeroValue,typeInfo,hi,hz],by rw [← h]⟩
 ·cases h
def Wb (T:TypeId):Bool:=!(Nat.beq T 248)
theorem Xj {T:TypeId} (h:Wb T=true) {c:Array Value} {fr:Nat×Nat}:∀ c' fr',Obj.cells c T fr≠.cells c' 248 fr':=by
 intro c' fr' e
 injection e with _ h2 _
 subst h2;simp [Wb] at h
section
variable {d:Nat} {ty:TypeId} {pos:String} {aft:Array Edge}
theorem upon_value {o:Oper} {a:Act} {w w':World} {K:Act→World→Prop} {v:Value} (h:(execOp a.eval o).run P w = .ok (.value v) w') (k:K (a.put o.dst v) w'):o.wp P a w K Q:=by
 unfold Oper.wp;rw [h];exact k
theorem upon_skip {o:Oper} {a:Act} {w w':World} {K:Act→World→Prop} (h:(execOp a.eval o).run P w = .ok .skip w') (k:K (a.put o.dst undef) w'):o.wp P a w K Q:=by
 unfold Oper.wp;rw [h];exact k
theorem ED {a:Act} {w:World} {T:TypeId} {z:List Value} {g:Option (Nat×Bool)} (hz:XM P T=some z) :
  (execOp a.eval ⟨some d,.alloc T,ty,pos,aft,g⟩).run P w = .ok (.value (.pointer (some ⟨w.heap.size,0,none⟩))) (w.alloc (.cells z.toArray T)):=by
 obtain ⟨v,h1,h2⟩:=TT hz w
 simp only [execOp,Instr.alloc,Sem.run_bind,h1,Result.andThen_ok,Sem.run_pure,newVar,newRow,run_newObj,h2]
 rfl
theorem QZ {T:TypeId} {z:List Value} (hz:XM P T=some z) (k:∀ b,JS P ops Q l N ((d,.pointer (some ⟨b,0,none⟩))::m) ⟨w0,F0,(b,.cells z.toArray T (0,0))::bs,G⟩) (hu:Wb T=true:=by rfl) (hd:J4 N (some d)=true:=by rfl) :
  JS P ops Q (⟨some d,.alloc T,ty,pos,aft,none⟩::l) N m ⟨w0,F0,bs,G⟩:=fun a w ha hw =>
 wpList_plain rfl fun _ hK=>upon_value (ED hz) (hK _ _ (k _ _ _ (ha.put hd _) (hw.alloc _ (Xj hu))))
theorem GW {T:TypeId} {z:List Value} (hz:XM P T=some z) (k:∀ b,JD P ops Q E0 l N ((d,.pointer (some ⟨b,0,none⟩))::m) ⟨w0,F0,(b,.cells z.toArray T (0,0))::bs,G⟩) (hu:Wb T=true:=by rfl) (hd:J4 N (some d)=true:=by rfl) :
  JD P ops Q E0 (⟨some d,.alloc T,ty,pos,aft,none⟩::l) N m ⟨w0,F0,bs,G⟩:=fun hE a w ha hw=>by
 have hS:=hw.alloc (.cells z.toArray T (0,0)) (Xj hu)
 have sub:∀ w' b,St ⟨w0,F0,(b,.cells z.toArray T (0,0))::bs,G⟩ w'→St E0 w':=fun w' b h=>hE w' (h.imp (List.sublist_cons_self _ _) fun _ h=>h)
 refine .inr ⟨rfl,?_⟩
 rw [if_pos (by simp [Region.wanted])]
 exact upon_value (ED hz) ⟨sub _ _ hS,k _ (fun w' h=>sub w' _ h) _ _ (ha.put hd _) hS⟩
theorem Pr {a:Act} {w:World} {T:TypeId} {x:Operand} {v:Value} {g:Option (Nat×Bool)} (hx:a.eval x=v) :
  (execOp a.eval ⟨some d,.box T x,ty,pos,aft,g⟩).run P w = .ok (.value (.pointer (some ⟨w.heap.size,0,none⟩))) (w.alloc (.cells v.cells T)):=by
 subst hx
 simp only [execOp,Instr.box,Sem.run_bind,Result.andThen_ok,Sem.run_pure,newVar,newRow,run_newObj]
 rfl
theorem Q5 {T:TypeId} {x:Operand} {vs:List Value} {v:Value} (hx:ev m x=some v) (hv:v.cells=vs.toArray) (k:∀ b,JS P ops Q l N ((d,.pointer (some ⟨b,0,none⟩))::m) ⟨w0,F0,(b,.cells vs.toArray T (0,0))::bs,G⟩) (hu:Wb T=true:=by rfl) (hd:J4 N (some d)=true:=by rfl) :
  JS P ops Q (⟨some d,.box T x,ty,pos,aft,none⟩::l) N m ⟨w0,F0,bs,G⟩:=fun a w ha hw =>
 wpList_plain rfl fun _ hK=>upon_value (Pr (ha.ev hx)) (hK _ _ (k _ _ _ (ha.put hd _) (hv ▸ hw.alloc _ (Xj hu))))
theorem gK {T:TypeId} {x:Operand} {vs:List Value} {v:Value} (hx:ev m x=some v) (hv:v.cells=vs.toArray) (k:∀ b,JD P ops Q E0 l N ((d,.pointer (some ⟨b,0,none⟩))::m) ⟨w0,F0,(b,.cells vs.toArray T (0,0))::bs,G⟩) (hu:Wb T=true:=by rfl) (hd:J4 N (some d)=true:=by rfl) :
  JD P ops Q E0 (⟨some d,.box T x,ty,pos,aft,none⟩::l) N m ⟨w0,F0,bs,G⟩:=fun hE a w ha hw=>by
 have hS:=hw.alloc (.cells vs.toArray T (0,0)) (Xj hu)
 have sub:∀ w' b,St ⟨w0,F0,(b,.cells vs.toArray T (0,0))::bs,G⟩ w'→St E0 w':=fun w' b h=>hE w' (h.imp (List.sublist_cons_self _ _) fun _ h=>h)
 refine .inr ⟨rfl,?_⟩
 rw [if_pos (by simp [Region.wanted])]
 exact upon_value (Pr (ha.ev hx)) (by rw [hv];exact⟨sub _ _ hS,k _ (fun w' h=>sub w' _ h) _ _ (ha.put hd _) hS⟩)
theorem M3 {w:World} {t e:TypeId} {n sz:Nat} {z:List Value} {g:Bool} {parts:Array (Nat×Value)} {cs:Array Value} (ht:P.underlying t=some (.slice e)) (hs:YJ P e=some (g,sz)) (hz:XM P e=some z) (h24:n*sz≤2^24) (hn:n*sz≠0)
  (hf:Instr.fill (fun i=>some (i*sz,sz)) ((Array.range (n*sz)).map (fun i=>z.toArray[i%z.toArray.size]!)) parts.toList=some cs) :
  (Instr.buildSlice t n parts).run P w = .ok (.slice (some ⟨w.heap.size,0,none⟩) n n) (w.alloc (.cells cs e)):=by
 obtain ⟨v,h1,h2⟩:=TT hz w
 have h3:¬ n*sz>2^24:=by omega
 simp only [Instr.buildSlice,Sem.run_bind,run_underlying ht,Result.andThen_ok,YK hs,if_neg h3,Sem.run_pure,if_neg hn,h1,h2,hf,newRow,run_newObj]
 rfl
def V4 (m:Sl):List (Nat×Operand)→Option (List (Nat×Value))
 |[]=>some []
 |(i,x)::r=>match ev m x,V4 m r with
  |some v,some l=>some ((i,v)::l)
  |_,_=>none
theorem Js.parts {a:Act} (h:Js N m a):∀ {l:List (Nat×Operand)} {vs:List (Nat×Value)},V4 m l=some vs→l.map (fun(i,x)=>(i,a.eval x))=vs
 |[],vs,e=>by simpa [V4] using e
 |(i,x)::l,vs,e=>by
  unfold V4 at e
  cases hx:YtknegjaeoffnbaaGreatDoor.ev m x with
  |none=>rw [hx] at e;simp at e
  |some v =>
   cases hl:V4 m l with
   |none=>rw [hx,hl] at e;simp at e
   |some r =>
    rw [hx,hl] at e
    simp only [Option.some.injEq] at e
    subst e
    rw [List.map_cons,h.parts hl]
    show(i,a.eval x)::r=_
    rw [h.ev hx]
def Yu (sz:Nat):Nat→List (Nat×Value)→Option (List Value)
 |_,[]=>some []
 |k,(i,v)::r=>if i=k∧v.cells.size=sz then(Yu sz (k+1) r).map (v.cells.toList++·) else none
theorem Hb {sz:Nat}:∀ (parts:List (Nat×Value)) (k:Nat) (cs:List Value) (cur:Array Value),Yu sz k parts=some cs→k*sz+cs.length=cur.size →
  Instr.fill (fun i=>some (i*sz,sz)) cur parts=some (cur.toList.take (k*sz)++cs).toArray
 |[],k,cs,cur,h,hl=>by
  simp only [Yu,Option.some.injEq] at h
  subst h
  simp only [List.length_nil,Nat.add_zero] at hl
  simp [Instr.fill,List.take_of_length_le,hl]
 |(i,v)::r,k,cs,cur,h,hl=>by
  simp only [Yu] at h
  split at h
  ·rename_i hk
   obtain ⟨rfl,hv⟩:=hk
   cases hr:Yu sz (i+1) r with
   |none=>rw [hr] at h;cases h
   |some cs' =>
    rw [hr] at h
    simp only [Option.map_some,Option.some.injEq] at h
    subst h
    have hlen:v.cells.toList.length=sz:=by simpa using hv
    rw [List.length_append,hlen] at hl
    have hmul:(i+1)*sz=i*sz+sz:=by rw [Nat.add_mul,Nat.one_mul]
    unfold Instr.fill
    simp only [hv,ne_eq,not_true_eq_false,Bool.false_or,decide_false,decide_eq_true_eq]
    rw [if_neg (by omega)]
    have hfold:∀ (l:List Value) (j:Nat) (c:Array Value),i*sz+j+l.length≤c.size →
      ((l.zipIdx j).foldl (fun cs (x:Value×Nat)=>cs.setIfInBounds (i*sz+x.2) x.1) c)=(c.toList.take (i*sz+j)++l++c.toList.drop (i*sz+j+l.length)).toArray:=by
     intro l
     induction l with
     |nil=>intro j c hc;simp
     |cons x l ih =>
      intro j c hc
      simp only [List.zipIdx_cons,List.foldl_cons,List.length_cons] at hc ⊢
      rw [ih (j+1) _ (by simp;omega)]
      congr 1
      apply List.ext_getElem?
      intro q
      simp only [Array.toList_setIfInBounds,List.getElem?_append,List.length_append,List.length_take,List.length_set,Array.length_toList,List.length_cons]
      by_cases h1:q<i*sz+j
      ·have e1:min (i*sz+(j+1)) c.size=i*sz+j+1:=by omega
       have e2:min (i*sz+j) c.size=i*sz+j:=by omega
       have e3:q<i*sz+j+1+l.length:=by omega
       have e4:q<i*sz+j+(l.length+1):=by omega
       have e5:q<i*sz+j+1:=by omega
       simp only [e1,e2,h1,e3,e4,e5,if_true]
       simp [show q<i*sz+(j+1) by omega,h1,show i*sz+j≠q by omega]
      ·by_cases h2:q=i*sz+j
       ·subst h2
        have e1:min (i*sz+(j+1)) c.size=i*sz+j+1:=by omega
        have e2:min (i*sz+j) c.size=i*sz+j:=by omega
        have hlt:i*sz+j<c.toList.length:=by simp;omega
        simp only [e1,e2,Nat.lt_irrefl,if_false,Nat.sub_self]
        simp [show i*sz+j<i*sz+j+1+l.length by omega,show i*sz+j<i*sz+j+1 by omega,show i*sz+j<c.size by omega]
       ·have e1:min (i*sz+(j+1)) c.size=i*sz+j+1:=by omega
        have e2:min (i*sz+j) c.size=i*sz+j:=by omega
        have g1:¬ q<i*sz+j+1:=by omega
        simp only [e1,e2,h1,g1,if_false]
        by_cases h3:q<i*sz+j+1+l.length
        ·simp only [h3,if_true,show q<i*sz+j+(l.length+1) by omega]
         rw [show q - (i*sz+j)=(q - (i*sz+j+1))+1 by omega,List.getElem?_cons_succ]
        ·simp only [h3,if_false,show ¬ q<i*sz+j+(l.length+1) by omega]
         rw [List.getElem?_drop,List.getElem?_drop,List.getElem?_set_ne (by omega)]
         congr 1;omega
    have e:=hfold v.cells.toList 0 cur (by rw [hlen];omega)
    have e0:v.cells.zipIdx.foldl (fun cs (x:Value×Nat)=>cs.setIfInBounds (i*sz+x.2) x.1) cur=(v.cells.toList.zipIdx 0).foldl (fun cs (x:Value×Nat)=>cs.setIfInBounds (i*sz+x.2) x.1) cur:=by
     rw [← Array.foldl_toList];simp
    rw [e0,e]
    have:=Hb r (i+1) cs' (cur.toList.take (i*sz+0)++v.cells.toList++cur.toList.drop (i*sz+0+v.cells.toList.length)).toArray hr (by simp [hv];omega)
    rw [this]
    congr 2
    rw [← List.append_assoc]
    congr 1
    have hl2:(cur.toList.take (i*sz)++v.cells.toList).length=(i+1)*sz:=by simp [hv];omega
    simp only [Nat.add_zero]
    rw [List.take_append_of_le_length (by rw [hl2];exact Nat.le_refl _),← hl2,List.take_length]
  ·cases h
theorem Y8 {a:Act} {w:World} {t e:TypeId} {n sz:Nat} {z:List Value} {g:Bool} {parts:Array (Nat×Operand)} {ps:List (Nat×Value)} {cs:List Value} {gd:Option (Nat×Bool)} (ha:Js N m a) (hp:V4 m parts.toList=some ps) (ht:P.underlying t=some (.slice e)) (hs:YJ P e=some (g,sz)) (hz:XM P e=some z)
  (hc:Yu sz 0 ps=some cs) (hl:cs.length=n*sz) (h24:Nat.ble (n*sz) 16777216=true) (hn:Nat.beq (n*sz) 0=false) :
  (execOp a.eval ⟨some d,.buildSlice t n parts,ty,pos,aft,gd⟩).run P w = .ok (.value (.slice (some ⟨w.heap.size,0,none⟩) n n)) (w.alloc (.cells cs.toArray e)):=by
 have e1:(parts.map fun(i,x)=>(i,a.eval x)).toList=ps:=by simpa using ha.parts hp
 have hf:=Hb ps 0 cs ((Array.range (n*sz)).map (fun i=>z.toArray[i%z.toArray.size]!)) hc (by simp [hl])
 have:=M3 (P:=P) (w:=w) (n:=n) (parts:=parts.map fun(i,x)=>(i,a.eval x)) ht hs hz (by have:=Nat.le_of_ble_eq_true h24;omega) (fun e=>by rw [e] at hn;cases hn) (by rw [e1];exact hf)
 simp only [Nat.zero_mul,List.take_zero,List.nil_append] at this
 simp only [execOp,Sem.run_bind,this,Result.andThen_ok,Sem.run_pure]
theorem Hh {t e:TypeId} {n sz:Nat} {z:List Value} {g:Bool} {parts:Array (Nat×Operand)} {ps:List (Nat×Value)} {cs:List Value} (hp:V4 m parts.toList=some ps) (ht:P.underlying t=some (.slice e)) (hs:YJ P e=some (g,sz)) (hz:XM P e=some z)
  (hc:Yu sz 0 ps=some cs) (hl:cs.length=n*sz) (k:∀ b,JS P ops Q l N ((d,.slice (some ⟨b,0,none⟩) n n)::m) ⟨w0,F0,(b,.cells cs.toArray e (0,0))::bs,G⟩) (h24:Nat.ble (n*sz) 16777216=true:=by rfl) (hn:Nat.beq (n*sz) 0=false:=by rfl)
  (hu:Wb e=true:=by rfl) (hd:J4 N (some d)=true:=by rfl):JS P ops Q (⟨some d,.buildSlice t n parts,ty,pos,aft,none⟩::l) N m ⟨w0,F0,bs,G⟩:=fun a w ha hw =>
 wpList_plain rfl fun _ hK=>upon_value (Y8 ha hp ht hs hz hc hl h24 hn) (hK _ _ (k _ _ _ (ha.put hd _) (hw.alloc _ (Xj hu))))
end
section
variable {d:Option Tmp} {ty:TypeId} {pos:String} {aft:Array Edge}
theorem zL (w:World) (b:Nat) (c c':Array Value) (T:TypeId) (fr:Nat×Nat) (h:w.heap[b]?=some (.cells c T fr)):(w.setRow b c').heap=w.heap.setIfInBounds b (.cells c' T fr):=by
 apply Array.ext_getElem?
 intro i
 by_cases e:i=b
 ·subst e
  rw [setRow_heap w i c c' T fr h]
  have hlt:i<w.heap.size:=by rcases Nat.lt_or_ge i w.heap.size with g | g;exact g;rw [Array.getElem?_eq_none g] at h;cases h
  simp [hlt]
 ·rw [Array.getElem?_setIfInBounds_ne (Ne.symm e)]
  simp [World.setRow,Array.getElem?_modify,Ne.symm e]
theorem run_storeCells_at (g:Nat) (t:TypeId):∀ (vs:List Value) (i:Nat) (off:Nat) (cur l':List Value) (w:World),w.heap[g]?=some (.cells cur.toArray t (0,0))→(∀ v∈vs,v.oneCell'=true)→VD cur (off+i) vs l' →
  ∃ w',(storeCells ⟨g,off,none⟩ vs i).run P w = .ok () w'∧w'.heap=w.heap.setIfInBounds g (.cells l'.toArray t (0,0))∧w'.os=w.os∧w'.tape=w.tape∧w'.output=w.output∧w'.drawn=w.drawn
 |[],i,off,cur,l',w,hg,_,hp=>by
  have hlt:g<w.heap.size:=by rcases Nat.lt_or_ge g w.heap.size with h | h;exact h;rw [Array.getElem?_eq_none h] at hg;cases hg
  have e:l'=cur:=by have:=hp.eq;simpa using this
  subst e
  refine⟨w,rfl,?_,rfl,rfl,rfl,rfl⟩
  apply Array.ext_getElem?
  intro k
  by_cases e:k=g
  ·subst e;rw [hg];simp [hlt]
  ·rw [Array.getElem?_setIfInBounds_ne (Ne.symm e)]
 |v::vs,i,off,cur,l',w,hg,h1,hp=>by
  have hle:=hp.le
  simp only [List.length_cons] at hle
  have hadd:(⟨g,off,none⟩:Addr).add i=⟨g,off+i,none⟩:=by unfold Addr.add;split<;>simp_all
  have hlt:g<w.heap.size:=by rcases Nat.lt_or_ge g w.heap.size with h | h;exact h;rw [Array.getElem?_eq_none h] at hg;cases hg
  have hcell:w.cell? ⟨g,off+i,none⟩=some (cur[off+i]'(by omega)):=by simp [World.cell?,hg,show off+i<cur.length by omega]
  have hfro:w.frozen? ⟨g,off+i,none⟩=false:=by simp [World.frozen?,hg]
  have hst:(store ((⟨g,off,none⟩:Addr).add i) v).run P w = .ok () (w.setCell ⟨g,off+i,none⟩ v):=by
   rw [hadd,run_store P w _ v _ (h1 v (by simp)),hcell];simp [hfro]
  have hheap:(w.setCell ⟨g,off+i,none⟩ v).heap=w.heap.setIfInBounds g (.cells (cur.set (off+i) v).toArray t (0,0)):=by
   apply Array.ext_getElem?
   intro k
   by_cases e:k=g
   ·subst e
    show(w.heap.modify k _)[k]?=_
    rw [Array.getElem?_modify,if_pos rfl,hg];simp [hlt]
   ·rw [Array.getElem?_setIfInBounds_ne (Ne.symm e)];simp [World.setCell,Array.getElem?_modify,Ne.symm e]
  have hp2:VD (cur.set (off+i) v) (off+(i+1)) vs l':=by
   have key:∀ (n:Nat) (cur l':List Value),VD cur n (v::vs) l'→VD (cur.set n v) (n+1) vs l':=by
    intro n
    induction n with
    |zero=>intro cur l' h;cases h with | here h=>exact .skip h
    |succ n ih=>intro cur l' h;cases h with | skip h=>exact .skip (ih _ _ h)
   exact key _ _ _ hp
  obtain ⟨w',h2,h3,h4,h5,h6⟩:=run_storeCells_at g t vs (i+1) off (cur.set (off+i) v) l' (w.setCell ⟨g,off+i,none⟩ v) (by rw [hheap];simp [hlt]) (fun x hx=>h1 x (by simp [hx])) hp2
  refine⟨w',?_,?_,h4,h5,h6⟩
  ·simp only [storeCells,Sem.run_bind,hst,Result.andThen_ok,h2]
  ·rw [h3,hheap];simp
theorem EC {a:Act} {w:World} {T T':TypeId} {x y:Operand} {v:Value} {b off n:Nat} {c vs l':List Value} {gd:Option (Nat×Bool)} {g:Bool} (hx:a.eval x = .pointer (some ⟨b,off,none⟩)) (hy:a.eval y=v) (hv:v.cells=vs.toArray) (ht:YJ P T=some (g,n)) (hn:vs.length=n)
  (hb:w.heap[b]?=some (.cells c.toArray T' (0,0))) (hp:VD c off vs l') (h1:∀ v∈vs,v.oneCell'=true) :
  ∃ w',(execOp a.eval ⟨d,.store T x y,ty,pos,aft,gd⟩).run P w = .ok .skip w'∧w'.heap=w.heap.setIfInBounds b (.cells l'.toArray T' (0,0))∧w'.os=w.os∧w'.tape=w.tape∧w'.output=w.output∧w'.drawn=w.drawn:=by
 obtain ⟨w',h2,h3⟩:=run_storeCells_at (P:=P) b T' vs 0 off c l' w hb h1 hp
 refine⟨w',?_,h3⟩
 subst hn
 simp [execOp,hx,hy,Instr.storeAt,Instr.sureAddr,storeVar,hv,YK ht,h2]
def Ht:List Value→Prop
 |[]=>True
 |v::r=>v.oneCell'=true∧Ht r
theorem Z0:∀ {l:List Value},Ht l→∀ v∈l,v.oneCell'=true
 |v::l,⟨h1,h2⟩,u,hu=>by
  rcases List.mem_cons.1 hu with rfl | hu
  ·exact h1
  ·exact Z0 h2 u hu
theorem QP {T T':TypeId} {x y:Operand} {v:Value} {b off n:Nat} {c vs l':List Value} {g:Bool} {f:Obj→List (Nat×Obj)} (hx:ev m x=some (.pointer (some ⟨b,off,none⟩))) (hy:ev m y=some v) (hv:v.cells=vs.toArray) (ht:YJ P T=some (g,n)) (hn:vs.length=n)
  (ho:Own bs b (.cells c.toArray T' (0,0)) f) (hp:VD c off vs l') (h1:Ht vs) (k:JS P ops Q l N m ⟨w0,F0,f (.cells l'.toArray T' (0,0)),G⟩) (hu:Wb T'=true:=by rfl):JS P ops Q (⟨none,.store T x y,ty,pos,aft,none⟩::l) N m ⟨w0,F0,bs,G⟩:=fun a w ha hw =>
 wpList_plain rfl fun _ hK=>by
  obtain ⟨w',h2,h3⟩:=EC (P:=P) (d:=none) (ty:=ty) (pos:=pos) (aft:=aft) (gd:=none) (ha.ev hx) (ha.ev hy) hv ht hn (hw.own ho) hp (Z0 h1)
  obtain ⟨pre,post,e1,e2⟩:=ho.split
  subst e1
  rw [e2] at k
  exact upon_skip h2 (hK _ _ (k _ _ ha (hw.write pre h3 (Xj hu))))
end
inductive U7:List (Nat×Obj)→Nat→Obj→(Obj→List (Nat×Obj))→List (Nat×Obj)→Prop
 |here {b:Nat} {o:Obj} {r:List (Nat×Obj)}:U7 ((b,o)::r) b o (fun o'=>(b,o')::r) r
 |there {x:Nat×Obj} {l r:List (Nat×Obj)} {b:Nat} {o:Obj} {f:Obj→List (Nat×Obj)}:U7 l b o f r→U7 (x::l) b o (fun o'=>x::f o') (x::r)
theorem U7.own {l r:List (Nat×Obj)} {b:Nat} {o:Obj} {f:Obj→List (Nat×Obj)} (h:U7 l b o f r):Own l b o f:=by
 induction h with
 |here=>exact .here
 |there h ih=>exact .there ih
theorem U7.sub {l r:List (Nat×Obj)} {b:Nat} {o:Obj} {f:Obj→List (Nat×Obj)} (h:U7 l b o f r):∀ o',r.Sublist (f o'):=by
 induction h with
 |here=>exact fun _=>List.sublist_cons_self _ _
 |there h ih=>exact fun o'=>(ih o').cons_cons _
theorem JY {bs0:List (Nat×Obj)} {G0:Gs→Prop} {pos:String} {aft:Array Edge} {ty:TypeId} {T T':TypeId} {x y:Operand} {v:Value} {b off n:Nat} {c vs l':List Value} {g:Bool} {f:Obj→List (Nat×Obj)} {bs':List (Nat×Obj)} (hx:ev m x=some (.pointer (some ⟨b,off,none⟩))) (hy:ev m y=some v) (hv:v.cells=vs.toArray) (ht:YJ P T=some (g,n)) (hn:vs.length=n)
  (ho:U7 bs b (.cells c.toArray T' (0,0)) f bs') (hs:bs0.Sublist bs') (hg0:∀ F,G F→G0 F) (hp:VD c off vs l') (h1:Ht vs) (k:JD P ops Q ⟨w0,F0,bs0,G0⟩ l N m ⟨w0,F0,f (.cells l'.toArray T' (0,0)),G⟩) (hu:Wb T'=true:=by rfl):JD P ops Q ⟨w0,F0,bs0,G0⟩ (⟨none,.store T x y,ty,pos,aft,none⟩::l) N m ⟨w0,F0,bs,G⟩:=fun _ a w ha hw=>by
  obtain ⟨w',h2,h3⟩:=EC (P:=P) (d:=none) (ty:=ty) (pos:=pos) (aft:=aft) (gd:=none) (ha.ev hx) (ha.ev hy) hv ht hn (hw.own ho.own) hp (Z0 h1)
  have sub:∀ o' w,St ⟨w0,F0,f o',G⟩ w→St ⟨w0,F0,bs0,G0⟩ w:=fun o' w h=>h.imp (hs.trans (ho.sub o')) hg0
  obtain ⟨pre,post,e1,e2⟩:=ho.own.split
  subst e1
  have hS:St ⟨w0,F0,f (.cells l'.toArray T' (0,0)),G⟩ w':=by rw [e2];exact hw.write pre h3 (Xj hu)
  refine .inr ⟨rfl,?_⟩
  rw [if_pos (by simp [Region.wanted])]
  exact upon_skip h2 ⟨sub _ _ hS,k (sub _) _ _ ha hS⟩
theorem JQ {id:Nat} {l:List Oper} {bs0:List (Nat×Obj)} (hb0:bs0.Sublist bs) (hm:P.follows .mixedOrders=true) (hB:lexB .any l=true) (h:JD P l.toArray (Xu (Q .normal)) ⟨w0,F0,bs0,G⟩ l N m ⟨w0,F0,bs,G⟩):J P (.region id l.toArray true) Q N m ⟨w0,F0,bs,G⟩ :=
 fun a w ha hw=>PF hm hB (hw.drew.imp hb0 fun _ h=>h) (h (fun _ h=>h.imp hb0 fun _ h=>h) a _ ha hw.drew)
theorem Xr {id:Nat} {l:List Oper} {bs0:List (Nat×Obj)} (n:Nat) (hb0:bs0.Sublist bs) (hm:P.follows .mixedOrders=true) (hB:Hl l n=true) (hB2:lexB .any (l.take n)=true)
  (h:JD P (l.take n).toArray (Xu (fun a w=>wpList P l.toArray Q (l.drop n) a w)) ⟨w0,F0,bs0,G⟩ (l.take n) N m ⟨w0,F0,bs,G⟩):J P (.region id l.toArray true) Q N m ⟨w0,F0,bs,G⟩ :=
 fun a w ha hw=>Gy n hm hB hB2 (hw.drew.imp hb0 fun _ h=>h) (h (fun _ h=>h.imp hb0 fun _ h=>h) a _ ha hw.drew)
theorem PA {c:Code} {b:Nat} {cs:Array Value} {T:TypeId} {fr:Nat×Nat} {bs':List (Nat×Obj)} (hr:xK bs b (.cells cs T fr) bs') (k:J P c Q N m ⟨w0,F0,bs',fun F=>G F∧F b=some (cs,T)⟩):J P c Q N m ⟨w0,F0,bs,G⟩:=fun a w ha hw=>by
 obtain ⟨pre,post,rfl,rfl⟩:=hr.split;exact k a w ha (hw.freeze pre)
theorem D0 {b:Nat} {cs:Array Value} {T:TypeId} {fr:Nat×Nat} {bs':List (Nat×Obj)} (hr:xK bs b (.cells cs T fr) bs') (k:JS P ops Q l N m ⟨w0,F0,bs',fun F=>G F∧F b=some (cs,T)⟩):JS P ops Q l N m ⟨w0,F0,bs,G⟩:=fun a w ha hw=>by
 obtain ⟨pre,post,rfl,rfl⟩:=hr.split;exact k a w ha (hw.freeze pre)
theorem kq {e:Exit} {b:Nat} {cs:Array Value} {T:TypeId} {fr:Nat×Nat} {bs':List (Nat×Obj)} (hr:xK bs b (.cells cs T fr) bs') (k:Fin Q e N m ⟨w0,F0,bs',fun F=>G F∧F b=some (cs,T)⟩):Fin Q e N m ⟨w0,F0,bs,G⟩:=fun a w ha hw=>by
 obtain ⟨pre,post,rfl,rfl⟩:=hr.split;exact k a w ha (hw.freeze pre)
theorem OC {b:Nat} {cs:Array Value} {T:TypeId} {fr:Nat×Nat} {bs' bs0:List (Nat×Obj)} {G0:Gs→Prop} (hr:xK bs b (.cells cs T fr) bs') (hs:bs0.Sublist bs') (hg:∀ F,G F→G0 F) (k:JD P ops Q ⟨w0,F0,bs0,G0⟩ l N m ⟨w0,F0,bs',fun F=>G F∧F b=some (cs,T)⟩):JD P ops Q ⟨w0,F0,bs0,G0⟩ l N m ⟨w0,F0,bs,G⟩:=fun _ a w ha hw=>by
 obtain ⟨pre,post,rfl,rfl⟩:=hr.split;exact k (fun _ h=>h.imp hs fun F h=>hg F h.1) a w ha (hw.freeze pre)
def N4:Nat→List Value→Sl
 |_,[]=>[]
 |k,v::r=>(k,v)::N4 (k+1) r
theorem Wd:∀ (args:List Value) (k t:Nat) (v:Value),look (N4 k args) t=some v→k≤t∧args[t - k]?=some v
 |[],k,t,v,h=>by simp [N4,look] at h
 |u::r,k,t,v,h=>by
  simp only [N4,look] at h
  cases hb:Nat.beq k t with
  |true =>
   rw [hb] at h
   have:k=t:=by simpa using hb
   subst this
   simpa using h
  |false =>
   rw [hb] at h
   obtain ⟨h1,h2⟩:=Wd r (k+1) t v (by simpa using h)
   refine⟨by omega,?_⟩
   rw [show t - k=(t - (k+1))+1 by omega];simpa using h2
omit [Df] in
theorem QT.intro {f:FuncId} {fn:Func} {c:Code} {args:List Value} {w:World} {F:Gs} {γ:Type} {val:γ→Value} {fact:γ→Gs→Prop} {G:Gs→Prop} (hf:P.funcs[f]?=some fn) (hb:fn.body=some c) (hn:(fn.name == "runtime.NumGoroutine")=false) (hN:fn.ntmps=N) (hl:Nat.ble args.length N=true)
  (hw:Fits F w) (hg:∀ F',Gs.le F F'→G F') (h:J (df:=VQ) P c (bodyPost P fn (Ee w F val fact)) N (N4 0 args) ⟨w,F,[],G⟩):QT P f args w F val fact:=by
 refine⟨enters_of hf hn (by rw [hb];rfl),calls_of_wp hf hb (h _ w ⟨?_,rfl,fun t v ht=>?_⟩ (St.start hw hg))⟩
 ·have:=Nat.le_of_ble_eq_true hl
  simp [hN];omega
 ·obtain ⟨_,h2⟩:=Wd args 0 t v ht
  have hlt:t<args.length:=by rcases Nat.lt_or_ge t args.length with g | g;exact g;rw [Nat.sub_zero,List.getElem?_eq_none g] at h2;cases h2
  simp only [Nat.sub_zero] at h2
  rw [Array.getElem?_append,if_pos (by simpa using hlt)]
  simpa using h2
omit [Df] in
theorem x6 {fn:Func} {γ:Type} {val:γ→Value} {fact:γ→Gs→Prop} {bs:List (Nat×Obj)} {G:Gs→Prop} (c:γ) (hr:∀ a w,Js (df:=VQ) N m a→St ⟨w0,F0,bs,G⟩ w→(results fn a.tmps).run P w = .ok (val c) w) (hg:∀ F,G F→fact c F):Fin (df:=VQ) (bodyPost P fn (Ee w0 F0 val fact)) .ret N m ⟨w0,F0,bs,G⟩:=fun a w ha hw=>by
 obtain ⟨F,h⟩:=id hw
 exact⟨ha.df,val c,hr a w ha hw,c,F,rfl,h.ext,h.le,h.old,h.fits,fun F' hF'=>hg F' (h.g F' hF')⟩
omit [Df] in
theorem gk {fn:Func} {γ:Type} {val:γ→Value} {fact:γ→Gs→Prop} {bs:List (Nat×Obj)} {G:Gs→Prop} (h:Fin (df:=VQ) (bodyPost P fn (Ee w0 F0 val fact)) .ret N m ⟨w0,F0,bs,G⟩):Fin (df:=VQ) (bodyPost P fn (Ee w0 F0 val fact)) .normal N m ⟨w0,F0,bs,G⟩:=h
inductive Dz (P:Program) (m:Sl) (bs:List (Nat×Obj)):List ResultVar→List Value→Prop
 |nil:Dz P m bs [] []
 |tmp {t:Tmp} {v:Value} {r:List ResultVar} {vs:List Value} (h:look m t=some v) (k:Dz P m bs r vs):Dz P m bs (.tmp t::r) (v::vs)
 |kQ {t:Tmp} {T T':TypeId} {b n:Nat} {c:List Value} {v:Value} {fr:Nat×Nat} {f:Obj→List (Nat×Obj)} {r:List ResultVar} {vs:List Value} (h:look m t=some (.pointer (some ⟨b,0,none⟩))) (ht:YJ P T=some (false,n)) (ho:Own bs b (.cells c.toArray T' fr) f) (hg:PD c 0 [v]) (k:Dz P m bs r vs):Dz P m bs (.cell t T::r) (v::vs)
 |Ja {t:Tmp} {T T':TypeId} {b:Nat} {c:List Value} {fr:Nat×Nat} {f:Obj→List (Nat×Obj)} {r:List ResultVar} {vs:List Value} (h:look m t=some (.pointer (some ⟨b,0,none⟩))) (ht:YJ P T=some (true,c.length)) (ho:Own bs b (.cells c.toArray T' fr) f) (k:Dz P m bs r vs):Dz P m bs (.cell t T::r) (.agg c.toArray::vs)
def GC (tmps:Array Value):ResultVar→Sem Value
 |.tmp t=>pure (tmps.getD t undef)
 |.cell p t=>do loadVar t (← asAddr (tmps.getD p undef))
theorem Dz.run {rs:List ResultVar} {vs:List Value} (h:Dz P m bs rs vs) {a:Act} {w:World} (ha:Js N m a) (hw:St ⟨w0,F0,bs,G⟩ w) :
  (rs.mapM (GC a.tmps)).run P w = .ok vs w:=by
 induction h with
 |nil=>rfl
 |tmp h k ih =>
  rename_i t v r vs
  have e:=ha.get _ _ h
  have e2:(GC a.tmps (.tmp t)).run P w = .ok v w:=by simp [GC,e]
  rw [List.mapM_cons,Sem.run_bind,e2]
  simp [ih]
 |kQ h ht ho hg k ih =>
  rename_i t T T' b n c v fr f r vs
  have e:=ha.get _ _ h
  have hc:=Xw (hw.own ho) (o:=0)
  have:=hg.at 0 _ rfl
  simp only [Nat.zero_add] at this
  rw [this] at hc
  have e2:(GC a.tmps (.cell t T)).run P w = .ok v w:=by simp [GC,e,asAddr,Zb ht hc]
  rw [List.mapM_cons,Sem.run_bind,e2]
  simp [ih]
 |Ja h ht ho k ih =>
  rename_i t T T' b c fr f r vs
  have e:=ha.get _ _ h
  have:=Kv (P:=P) ht rfl (w:=w) (b:=b) (off:=0) (fun j v hv=>by rw [Nat.zero_add,Xw (hw.own ho)];exact hv)
  have e2:(GC a.tmps (.cell t T)).run P w = .ok (.agg c.toArray) w:=by simp [GC,e,asAddr,this]
  rw [List.mapM_cons,Sem.run_bind,e2]
  simp [ih]
theorem Aa (fn:Func) (tmps:Array Value):results fn tmps=(do let vs ← fn.results.mapM (GC tmps);pure (if h:vs.size=1 then vs[0] else .tuple vs)):=by
 unfold results
 exact congrArg (fun(g:ResultVar→Sem Value)=>(do let vs ← fn.results.mapM g;pure (if h:vs.size=1 then vs[0] else .tuple vs):Sem Value)) (funext fun x=>by cases x<;>rfl)
theorem GA {fn:Func} {rs:List ResultVar} {vs:List Value} (hrs:fn.results=rs.toArray) (h:Dz P m bs rs vs) {a:Act} {w:World} (ha:Js N m a) (hw:St ⟨w0,F0,bs,G⟩ w) :
  (results fn a.tmps).run P w = .ok (match vs with | [v]=>v | vs=>.tuple vs.toArray) w:=by
 have:=h.run ha hw
 rw [Aa,hrs,List.mapM_toArray]
 simp only [Sem.run_bind,Sem.run_map,this,Result.andThen_ok,Sem.run_pure]
 match vs with
 |[]=>rfl
 |[v]=>rfl
 |v::u::r=>rfl
omit [Df] in
theorem QQ {fn:Func} {γ:Type} {val:γ→Value} {fact:γ→Gs→Prop} {bs:List (Nat×Obj)} {G:Gs→Prop} {rs:List ResultVar} {v:Value} (c:γ) (hrs:fn.results=rs.toArray) (h:Dz P m bs rs [v]) (hv:val c=v) (hg:∀ F,G F→fact c F):Fin (df:=VQ) (bodyPost P fn (Ee w0 F0 val fact)) .ret N m ⟨w0,F0,bs,G⟩ :=
 x6 c (fun a w ha hw=>by rw [hv];exact GA hrs h ha hw) hg
omit [Df] in
theorem JH {fn:Func} {γ:Type} {val:γ→Value} {fact:γ→Gs→Prop} {bs:List (Nat×Obj)} {G:Gs→Prop} {rs:List ResultVar} {v u:Value} {vs:List Value} (c:γ) (hrs:fn.results=rs.toArray) (h:Dz P m bs rs (v::u::vs)) (hv:val c = .tuple (v::u::vs).toArray) (hg:∀ F,G F→fact c F):Fin (df:=VQ) (bodyPost P fn (Ee w0 F0 val fact)) .ret N m ⟨w0,F0,bs,G⟩ :=
 x6 c (fun a w ha hw=>by rw [hv];exact GA hrs h ha hw) hg
end
end
end
section
open Go.RowKit
section
variable [Dr] [df:Df]
section
variable {P:Program} {N:Nat} {m:Sl} {S:World→Prop} {ty:TypeId} {v:Value}
def qG:BinOp→Value→Value→Option Value
 |.add,.int .i64 a,.int .i64 b=>some (.int .i64 (IntKind.i64.wrap (a+b)))
 |.sub,.int .i64 a,.int .i64 b=>some (.int .i64 (IntKind.i64.wrap (a - b)))
 |.mul,.int .i64 a,.int .i64 b=>some (.int .i64 (IntKind.i64.wrap (a*b)))
 |.add,.int .u64 a,.int .u64 b=>some (.int .u64 (IntKind.u64.wrap (a+b)))
 |.sub,.int .u64 a,.int .u64 b=>some (.int .u64 (IntKind.u64.wrap (a - b)))
 |.mul,.int .u64 a,.int .u64 b=>some (.int .u64 (IntKind.u64.wrap (a*b)))
 |.eql,.int .i64 a,.int .i64 b=>some (.bool (a==b))
 |.neq,.int .i64 a,.int .i64 b=>some (.bool (a != b))
 |.lss,.int .i64 a,.int .i64 b=>some (.bool (decide (a<b)))
 |.leq,.int .i64 a,.int .i64 b=>some (.bool (decide (a≤b)))
 |.gtr,.int .i64 a,.int .i64 b=>some (.bool (decide (a>b)))
 |.geq,.int .i64 a,.int .i64 b=>some (.bool (decide (a≥b)))
 |.eql,.int .u64 a,.int .u64 b=>some (.bool (a==b))
 |.neq,.int .u64 a,.int .u64 b=>some (.bool (a != b))
 |.lss,.int .u64 a,.int .u64 b=>some (.bool (decide (a<b)))
 |.leq,.int .u64 a,.int .u64 b=>some (.bool (decide (a≤b)))
 |.gtr,.int .u64 a,.int .u64 b=>some (.bool (decide (a>b)))
 |.geq,.int .u64 a,.int .u64 b=>some (.bool (decide (a≥b)))
 |.eql,.int .u8 a,.int .u8 b=>some (.bool (a==b))
 |.neq,.int .u8 a,.int .u8 b=>some (.bool (a != b))
 |.lss,.int .u8 a,.int .u8 b=>some (.bool (decide (a<b)))
 |.leq,.int .u8 a,.int .u8 b=>some (.bool (decide (a≤b)))
 |.gtr,.int .u8 a,.int .u8 b=>some (.bool (decide (a>b)))
 |.geq,.int .u8 a,.int .u8 b=>some (.bool (decide (a≥b)))
 |.eql,.int .i32 a,.int .i32 b=>some (.bool (a==b))
 |.neq,.int .i32 a,.int .i32 b=>some (.bool (a != b))
 |.lss,.int .i32 a,.int .i32 b=>some (.bool (decide (a<b)))
 |.leq,.int .i32 a,.int .i32 b=>some (.bool (decide (a≤b)))
 |.gtr,.int .i32 a,.int .i32 b=>some (.bool (decide (a>b)))
 |.geq,.int .i32 a,.int .i32 b=>some (.bool (decide (a≥b)))
 |.eql,.string a,.string b=>some (.bool (a.toList==b.toList))
 |.neq,.string a,.string b=>some (.bool (!(a.toList==b.toList)))
 |_,_,_=>none
theorem Oj {op:BinOp} {T:TypeId} {x y:Operand} {vx vy:Value} (h:qG op vx vy=some v) (w:World):(do eqGuard op T x y vx vy;binOp op T vx vy:Sem Value).run P w = .ok v w:=by
  unfold qG at h
  split at h<;>first
    | (cases h;done)
    | (simp only [Option.some.injEq] at h
       subst h
       simp [eqGuard,binOp,Op.intArith,Op.intCmp,Op.stringOp])
theorem QU {op:BinOp} {T yT:TypeId} {x y:Operand} {vx vy:Value} (hx:ev m x=some vx) (hy:ev m y=some vy) (h:qG op vx vy=some v):Qt P N m S (.binOp op T x y yT) ty v:=fun a w _ _ _ _ ha _=>by
 have:=Oj (P:=P) (T:=T) (x:=x) (y:=y) h w
 simp only [execOp,ha.ev hx,ha.ev hy]
 simp only [Sem.run_bind] at this ⊢
 rw [this];rfl
theorem Qw {T yT:TypeId} {x y:Operand} {a b:Int} (hx:ev m x=some (.int .i64 a)) (hy:ev m y=some (.int .i64 b)) (h : -9223372036854775808≤a+b∧a+b≤9223372036854775807):Qt P N m S (.binOp .add T x y yT) ty (.int .i64 (a+b)):=by
 have:=QU (P:=P) (N:=N) (m:=m) (S:=S) (ty:=ty) (T:=T) (yT:=yT) (op:=.add) hx hy rfl
 rw [IntWalk.i64_in _ h] at this;exact this
theorem Jx {T yT:TypeId} {x y:Operand} {a b:Int} (hx:ev m x=some (.int .i64 a)) (hy:ev m y=some (.int .i64 b)) (h : -9223372036854775808≤a - b∧a - b≤9223372036854775807):Qt P N m S (.binOp .sub T x y yT) ty (.int .i64 (a - b)):=by
 have:=QU (P:=P) (N:=N) (m:=m) (S:=S) (ty:=ty) (T:=T) (yT:=yT) (op:=.sub) hx hy rfl
 rw [IntWalk.i64_in _ h] at this;exact this
theorem WB {T yT:TypeId} {x y:Operand} {a b:Int} (hx:ev m x=some (.int .i64 a)) (hy:ev m y=some (.int .i64 b)) (h : -9223372036854775808≤a*b∧a*b≤9223372036854775807):Qt P N m S (.binOp .mul T x y yT) ty (.int .i64 (a*b)):=by
 have:=QU (P:=P) (N:=N) (m:=m) (S:=S) (ty:=ty) (T:=T) (yT:=yT) (op:=.mul) hx hy rfl
 rw [IntWalk.i64_in _ h] at this;exact this
theorem F9 {T yT:TypeId} {x y:Operand} {k:IntKind} {a b:Int} (hx:ev m x=some (.int k a)) (hy:ev m y=some (.int k b)) (h:b≠0):Qt P N m S (.binOp .quo T x y yT) ty (.int k (k.wrap (a.tdiv b))):=fun s w _ _ _ _ ha _=>by
 simp [execOp,ha.ev hx,ha.ev hy,eqGuard,binOp,Op.intDiv,h]
theorem xe {T yT:TypeId} {x y:Operand} {k:IntKind} {a b:Int} (hx:ev m x=some (.int k a)) (hy:ev m y=some (.int k b)) (h:b≠0):Qt P N m S (.binOp .rem T x y yT) ty (.int k (a.tmod b)):=fun s w _ _ _ _ ha _=>by
 simp [execOp,ha.ev hx,ha.ev hy,eqGuard,binOp,Op.intDiv,h]
theorem V3 {T yT:TypeId} {x y:Operand} {a b:Int} (hx:ev m x=some (.int .i64 a)) (hy:ev m y=some (.int .i64 b)) (ha:0≤a) (ha':a≤9223372036854775807) (hb:0<b):Qt P N m S (.binOp .quo T x y yT) ty (.int .i64 (a / b)):=by
 have:=F9 (P:=P) (N:=N) (m:=m) (S:=S) (ty:=ty) (T:=T) (yT:=yT) hx hy (by omega)
 have e:a.tdiv b=a / b:=Int.tdiv_eq_ediv_of_nonneg ha
 have h0:0≤a / b:=Int.ediv_nonneg ha (by omega)
 have h1:a / b≤a:=Int.ediv_le_self b ha
 rw [e,IntWalk.i64_in _ ⟨by omega,by omega⟩] at this;exact this
theorem Y9 {T yT:TypeId} {x y:Operand} {k:IntKind} {a b:Int} (hx:ev m x=some (.int k a)) (hy:ev m y=some (.int k b)) (ha:0≤a) (hb:0<b):Qt P N m S (.binOp .rem T x y yT) ty (.int k (a%b)):=by
 have:=xe (P:=P) (N:=N) (m:=m) (S:=S) (ty:=ty) (T:=T) (yT:=yT) hx hy (by omega)
 rw [Int.tmod_eq_emod_of_nonneg ha] at this;exact this
theorem CA {T yT:TypeId} {x y:Operand} {a b:ByteArray} (hx:ev m x=some (.string a)) (hy:ev m y=some (.string b)) (h:((a.size+b.size:Nat):Int)≤9223372036854775807):Qt P N m S (.binOp .add T x y yT) ty (.string (a++b)):=fun s w _ _ _ _ ha _=>by
 have h':¬ ((a.size+b.size:Nat):Int)>IntKind.i64.max:=by
  have:IntKind.i64.max=9223372036854775807:=by decide
  omega
 simp only [execOp,ha.ev hx,ha.ev hy,eqGuard,binOp,Op.stringOp,if_neg h']
 rfl
theorem ZO {T:TypeId} {x:Operand} {b:Bool} (hx:ev m x=some (.bool b)):Qt P N m S (.unOp .not T x) ty (.bool (!b)):=fun s w _ _ _ _ ha _=>by
 simp [execOp,ha.ev hx,Op.unary]
theorem gh {T:TypeId} {x:Operand} {a:Int} (hx:ev m x=some (.int .i64 a)) (h : -9223372036854775807≤a∧a≤9223372036854775808):Qt P N m S (.unOp .neg T x) ty (.int .i64 (-a)):=fun s w _ _ _ _ ha _=>by
 have e:IntKind.i64.wrap (-a) = -a:=IntWalk.i64_in _ (by omega)
 simp [execOp,ha.ev hx,Op.unary,Op.intArith,e]
def RH (P:Program) (T:TypeId):Option IntKind:=match P.underlying T with
 |some (.int k)=>some k
 |_=>none
theorem Px {src dst:TypeId} {x:Operand} {k k':IntKind} {n:Int} (hx:ev m x=some (.int k' n)) (hs:(P.underlying src).isSome=true) (hk:RH P dst=some k):Qt P N m S (.convert src dst x) ty (.int k (k.wrap n)):=fun s w _ _ _ _ ha _=>by
 obtain ⟨d,hd⟩:=Option.isSome_iff_exists.1 hs
 unfold RH at hk
 split at hk
 ·rename_i k'' hu
  cases hk
  simp only [execOp,ha.ev hx,convert,Sem.run_bind,run_underlying hd,run_underlying hu,Result.andThen_ok]
  rfl
 ·cases hk
theorem Uc {n:Int} (h : -9223372036854775808≤n∧n≤9223372036854775807):IntKind.i64.wrap n=n:=IntWalk.i64_in _ h
theorem I9 {src dst:TypeId} {x:Operand} {k':IntKind} {n:Int} (hx:ev m x=some (.int k' n)) (hs:(P.underlying src).isSome=true) (hk:RH P dst=some .i64) (h : -9223372036854775808≤n∧n≤9223372036854775807):Qt P N m S (.convert src dst x) ty (.int .i64 n):=by
 have:=Px (P:=P) (N:=N) (m:=m) (S:=S) (ty:=ty) hx hs hk
 rw [Uc h] at this;exact this
def W7 (P:Program) (T:TypeId):Bool:=match P.underlying T with
 |some .string=>true
 |_=>false
theorem Yb {b:Builtin} {args:Array Operand} {tys:Array TypeId} {a:Act} {d:Option Tmp} {pos:String} {aft:Array Edge} {g:Option (Nat×Bool)}:execOp a.eval ⟨d,.call ⟨.builtin b,args,tys⟩,ty,pos,aft,g⟩=builtin b tys ty (args.map fun | .const _=>true | _=>false) (args.map a.eval):=rfl
theorem O7 {T:TypeId} {x:Operand} {s:ByteArray} (hx:ev m x=some (.string s)) (hT:W7 P T=true):Qt P N m S (.call ⟨.builtin .len,#[x],#[T]⟩) ty (.int .i64 s.size):=fun a w _ _ _ _ ha _=>by
 unfold W7 at hT
 split at hT
 ·rename_i hu
  rw [Yb]
  simp [builtin,Builtin.len_,ha.ev hx,run_underlying hu,goInt]
 ·cases hT
def H9 (P:Program) (T:TypeId):Option TypeId:=match P.underlying T with
 |some (.slice e)=>some e
 |_=>none
theorem Q8 {T e:TypeId} (h:H9 P T=some e):P.underlying T=some (.slice e):=by
 unfold H9 at h;split at h
 ·cases h;assumption
 ·cases h
theorem Ql {T e:TypeId} {x:Operand} {q:Option Addr} {n c:Nat} (hx:ev m x=some (.slice q n c)) (hT:H9 P T=some e):Qt P N m S (.call ⟨.builtin .len,#[x],#[T]⟩) ty (.int .i64 n):=fun a w _ _ _ _ ha _=>by
 rw [Yb]
 simp [builtin,Builtin.len_,ha.ev hx,run_underlying (Q8 hT),goInt]
theorem xf {T T':TypeId} {x y:Operand} {a b:Int} (hx:ev m x=some (.int .i64 a)) (hy:ev m y=some (.int .i64 b)):Qt P N m S (.call ⟨.builtin .min,#[x,y],#[T,T']⟩) ty (.int .i64 (if b<a then b else a)):=fun s w _ _ _ _ ha _=>by
 rw [Yb]
 simp [builtin,ha.ev hx,ha.ev hy,Builtin.min_,Builtin.min2]
theorem xg {T T':TypeId} {x y:Operand} {a b:Int} (hx:ev m x=some (.int .i64 a)) (hy:ev m y=some (.int .i64 b)):Qt P N m S (.call ⟨.builtin .max,#[x,y],#[T,T']⟩) ty (.int .i64 (if b>a then b else a)):=fun s w _ _ _ _ ha _=>by
 rw [Yb]
 simp [builtin,ha.ev hx,ha.ev hy,Builtin.max_,Builtin.max2]
theorem O8 {T:TypeId} {x y:Operand} {s:ByteArray} {i:Nat} (hx:ev m x=some (.string s)) (hy:ev m y=some (.int .i64 (i:Int))) (hT:W7 P T=true) (hi:i<s.size):Qt P N m S (.index T x y) ty (.int .u8 (s.data[i].toNat:Int)):=fun a w _ _ _ _ ha _=>by
 unfold W7 at hT
 split at hT
 ·rename_i hu
  have e:s[i]?=some (s.data[i]):=by
   rw [getElem?_pos s i hi];rfl
  simp [execOp,ha.ev hx,ha.ev hy,Instr.index,asIntOf,run_underlying hu,e]
 ·cases hT
theorem Rr {T:TypeId} {s:ByteArray} {lo hi:Option Value} {l h:Nat} (hT:W7 P T=true) (hlo:(lo=none∧l=0)∨lo=some (.int .i64 (l:Int))) (hhi:(hi=none∧h=s.size)∨hi=some (.int .i64 (h:Int))) (h1:l≤h) (h2:h≤s.size) (w:World) :
  (Instr.slice T (.string s) lo hi none).run P w = .ok (.string (s.extract l h)) w:=by
 unfold W7 at hT
 split at hT
 ·rename_i hu
  rcases hlo with ⟨rfl,rfl⟩ | rfl<;>rcases hhi with ⟨rfl,rfl⟩ | rfl <;>
   simp [Instr.slice,run_underlying hu,Instr.sliceBounds,Instr.sliceBound,asIntOf,h1,h2]
 ·cases hT
def FP (m:Sl):Option Operand→Option (Option Value)
 |none=>some none
 |some x=>(ev m x).map some
theorem Js.FP {a:Act} (h:Js N m a) {x:Option Operand} {v:Option Value} (hx:FP m x=some v):x.map a.eval=v:=by
 cases x with
 |none=>simpa [YtknegjaeoffnbaaGreatDoor.FP] using hx
 |some x =>
  cases hv:YtknegjaeoffnbaaGreatDoor.ev m x with
  |none=>simp [YtknegjaeoffnbaaGreatDoor.FP,hv] at hx
  |some u=>simp [YtknegjaeoffnbaaGreatDoor.FP,hv] at hx;simp [h.ev hv,hx]
theorem Af {T:TypeId} {x:Operand} {lo hi:Option Operand} {vl vh:Option Value} {s:ByteArray} {l h:Nat} (hx:ev m x=some (.string s)) (el:FP m lo=some vl) (eh:FP m hi=some vh) (hT:W7 P T=true)
  (hlo:(vl=none∧l=0)∨vl=some (.int .i64 (l:Int))) (hhi:(vh=none∧h=s.size)∨vh=some (.int .i64 (h:Int))) (h1:l≤h) (h2:h≤s.size):Qt P N m S (.slice T x lo hi none) ty (.string (s.extract l h)):=fun a w _ _ _ _ ha _=>by
 have e:=Rr (P:=P) hT hlo hhi h1 h2 w
 unfold W7 at hT
 split at hT
 ·rename_i hu
  simp [execOp,ha.ev hx,ha.FP el,ha.FP eh,Instr.sliceAt,run_underlying hu,e]
 ·cases hT
end
end
end
section
open Go.RowKit
section
variable [Dr] [df:Df]
section
variable {P:Program} {Q:Exit→Act→World→Prop} {N:Nat} {m:Sl} {E E0:Env} {ops:Array Oper} {l:List Oper} {w0:World} {F0:Gs} {bs:List (Nat×Obj)} {G:Gs→Prop} {ty:TypeId} {v:Value} {S:World→Prop}
theorem Vb (b off k:Nat):(⟨b,off,none⟩:Addr).add k=⟨b,off+k,none⟩:=by unfold Addr.add;split<;>simp_all
theorem Qy {T e:TypeId} {x y:Operand} {b off n c sz i:Nat} {g:Bool} (hx:ev m x=some (.slice (some ⟨b,off,none⟩) n c)) (hy:ev m y=some (.int .i64 (i:Int))) (hT:H9 P T=some e) (hs:YJ P e=some (g,sz)) (hi:i<n):Qt P N m S (.indexAddr T x y) ty (.pointer (some ⟨b,off+i*sz,none⟩)):=fun a w _ _ _ _ ha _=>by
 simp [execOp,ha.ev hx,ha.ev hy,Instr.indexAt,asIntOf,run_underlying (Q8 hT),YK hs,hi,Vb]
theorem YR {T T':TypeId} {x:Operand} {b off n:Nat} {c:List Value} {fr:Nat×Nat} {f:Obj→List (Nat×Obj)} (h:ev m x=some (.pointer (some ⟨b,off,none⟩))) (ht:YJ P T=some (false,n)) (ho:Own bs b (.cells c.toArray T' fr) f) (hg:c[off]?=some v) :
  Qt P N m (St ⟨w0,F0,bs,G⟩) (.load T x) ty v:=fun a w _ _ _ _ ha hw=>by
 have hc:w.cell? ⟨b,off,none⟩=some v:=by rw [Xw (hw.own ho)];exact hg
 simp [execOp,ha.ev h,Instr.loadAt,Instr.sureAddr,Zb ht hc]
theorem VD.mk':∀ (n:Nat) (l vs:List Value),n+vs.length≤l.length→VD l n vs (l.take n++vs++l.drop (n+vs.length))
 |0,l,[],_=>by simpa using VD.nil (l:=l)
 |0,x::l,v::vs,h=>by
  have:=VD.mk' 0 l vs (by simp at h ⊢;omega)
  simp only [List.take_zero,List.nil_append,Nat.zero_add,List.length_cons,List.drop_succ_cons,List.cons_append] at this ⊢
  exact .here this
 |n+1,x::l,vs,h=>by
  have:=VD.mk' n l vs (by simp at h;omega)
  rw [Nat.add_right_comm]
  simpa using VD.skip (x:=x) this
 |0,[],v::vs,h=>by simp at h
 |n+1,[],vs,h=>by simp at h
theorem VD.kC {l:List Value} {n:Nat} (v:Value) (h:n<l.length):VD l n [v] (l.set n v):=by
 have:=VD.mk' n l [v] (by simp;omega)
 have e:l.take n++[v]++l.drop (n+1)=l.set n v:=by
  rw [List.set_eq_take_append_cons_drop,if_pos h];simp
 rw [List.length_singleton,e] at this;exact this
theorem y2 {d:Option Tmp} {pos:String} {aft:Array Edge} {T T':TypeId} {x y:Operand} {b off n:Nat} {c:List Value} {g:Bool} {f:Obj→List (Nat×Obj)} (hx:ev m x=some (.pointer (some ⟨b,off,none⟩))) (hy:ev m y=some v) (hv:v.cells=#[v]) (h1:v.oneCell'=true) (ht:YJ P T=some (g,1))
  (ho:Own bs b (.cells c.toArray T' (0,0)) f) (hl:off<c.length) (k:JS P ops Q l N m ⟨w0,F0,f (.cells (c.set off v).toArray T' (0,0)),G⟩) (hu:Wb T'=true:=by rfl):JS P ops Q (⟨none,.store T x y,ty,pos,aft,none⟩::l) N m ⟨w0,F0,bs,G⟩ :=
 QP hx hy (vs:=[v]) hv ht rfl ho (VD.kC v hl) ⟨h1,trivial⟩ k hu
inductive Q4 (T:TypeId) (sz:Nat):Value→Nat→List Value→List (Nat×Obj)→Prop
 |nil:Q4 T sz (.slice none 0 0) 0 [] []
 |some {b n cap:Nat} {l rest:List Value} (h1:l.length=n*sz) (h2:l.length+rest.length=cap*sz) (h3:n≤cap) (h4:cap≤maxLen):Q4 T sz (.slice (some ⟨b,0,none⟩) n cap) n l [(b,.cells (l++rest).toArray T (0,0))]
theorem Q4.one {T:TypeId} {sz n:Nat} {v:Value} {l:List Value} {ob:List (Nat×Obj)} (h:Q4 T sz v n l ob):v.oneCell'=true∧v.cells=[v].toArray:=by
 cases h<;>exact⟨rfl,rfl⟩
theorem Q4.len {T:TypeId} {sz n:Nat} {v:Value} {l:List Value} {ob:List (Nat×Obj)} (h:Q4 T sz v n l ob):l.length=n*sz:=by
 cases h<;>simp_all
structure Src (E:Env) (sz:Nat) (x:Value) (k:Nat) (news:List Value):Prop where
 len:news.length=k*sz
 rd:(x = .slice none 0 0∧k=0∧news=[])∨∃ a c,x = .slice (some a) k c∧∀ w,St E w→∀ j v,news[j]?=some v→w.cell? (a.add j)=some v
theorem Src.own {sz k b off c:Nat} {news cs:List Value} {T:TypeId} {fr:Nat×Nat} {f:Obj→List (Nat×Obj)} (ho:Own bs b (.cells cs.toArray T fr) f) (hg:PD cs off news) (hl:news.length=k*sz):Src ⟨w0,F0,bs,G⟩ sz (.slice (.some ⟨b,off,none⟩) k c) k news :=
 ⟨hl,.inr ⟨_,_,rfl,fun w hw j v hv=>by rw [Vb,Xw (hw.own ho)];exact hg.at j v hv⟩⟩
theorem Src.row {sz k b off c:Nat} {news:List Value} {cs:Array Value} {T:TypeId} (hr:∀ F,G F→F b=some (cs,T)) (hg:∀ j v,news[j]?=some v→cs[off+j]?=some v) (hl:news.length=k*sz):Src ⟨w0,F0,bs,G⟩ sz (.slice (.some ⟨b,off,none⟩) k c) k news :=
 ⟨hl,.inr ⟨_,_,rfl,fun w hw j v hv=>by rw [Vb];exact cell_of_row hw hr (hg j v hv)⟩⟩
theorem Src.nil {sz:Nat}:Src E sz (.slice none 0 0) 0 []:=⟨by simp,.inl ⟨rfl,rfl,rfl⟩⟩
def YY (P:Program) (T:TypeId):Option Nat:=(P.info? T).map (·.bytes)
theorem Gz {w:World} {sz k:Nat} {x:Value} {news:List Value} (hl:news.length=k*sz) (h:(x = .slice none 0 0∧k=0∧news=[])∨∃ a c,x = .slice (some a) k c∧∀ j v,news[j]?=some v→w.cell? (a.add j)=some v) :
  (Builtin.firstCells sz k x).run P w = .ok news.toArray w:=by
 rcases h with ⟨rfl,rfl,rfl⟩ | ⟨a,c,rfl,h⟩
 ·rfl
 ·exact run_firstCells_some (P:=P) w sz k a k c news hl h
theorem HM {t e:TypeId} {sz bytes n k:Nat} {z:List Value} {g:Bool} {x y:Value} {olds news:List Value} {ob:List (Nat×Obj)} {w:World} (ht:H9 P t=some e) (hs:YJ P e=some (g,sz)) (hz:XM P e=some z) (hzl:z.length=sz) (hby:YY P e=some bytes)
  (hr:Q4 e sz x n olds ob) (hs2:Src ⟨w0,F0,ob++bs,G⟩ sz y k news) (hw:St ⟨w0,F0,ob++bs,G⟩ w) (h63:n+k≤9223372036854775807) (h47:(n+k)*bytes≤140737488355328) (h1:∀ v∈news,v.oneCell'=true) (hu:Wb e=true) :
  ∃ v' ob' w',(Builtin.append_ #[t,t] ty #[x,y]).run P w = .ok v' w'∧Q4 e sz v' (n+k) (olds++news) ob'∧St ⟨w0,F0,ob'++bs,G⟩ w':=by
 have hi:∃ i,P.info? e=some i∧i.size=sz∧i.bytes=bytes∧∃ zv,i.zero=some zv∧zv.cells=z.toArray:=by
  unfold YY at hby;unfold XM at hz;unfold YJ at hs
  cases hie:P.info? e with
  |none=>rw [hie] at hby;cases hby
  |some i =>
   rw [hie] at hby hz hs
   dsimp only at hz hs
   simp only [Option.map_some,Option.some.injEq] at hby
   refine⟨i,rfl,?_,hby,?_⟩
   ·split at hs
    ·rename_i h1 h2;cases h2;cases hs;rfl
    ·cases hs
   ·cases hzz:i.zero with
    |none=>rw [hzz] at hz;cases hz
    |some zv=>rw [hzz] at hz;simp only [Option.map_some,Option.some.injEq] at hz;exact⟨zv,rfl,by rw [← hz]⟩
 obtain ⟨i,hi1,hi2,hi3,zv,hi4,hi5⟩:=hi
 subst hi2 hi3
 have hzc:∀ q,(Builtin.zeroCells zv.cells q).toList.length=q*i.size:=fun q=>by simp [Builtin.zeroCells,hi5,hzl]
 have hu':∀ c fr c' fr',Obj.cells c e fr≠.cells c' 248 fr':=fun c fr=>Xj hu
 have new:∀ {w':World} (l rest:List Value) (v':Value) (cap:Nat) (bs':List (Nat×Obj)),St ⟨w0,F0,bs',G⟩ w'→bs.Sublist bs'→v' = .slice (some ⟨w'.heap.size,0,none⟩) (n+k) cap→l.length=(n+k)*i.size→l.length+rest.length=cap*i.size→n+k≤cap→cap≤maxLen →
   ∃ ob',Q4 e i.size v' (n+k) l ob'∧St ⟨w0,F0,ob'++bs,G⟩ (w'.alloc (.cells (l++rest).toArray e)):=by
  intro w' l rest v' cap bs' hw' hsub hv' h2 h3 h4 h5
  subst hv'
  exact⟨_,.some h2 h3 h4 h5,(hw'.imp hsub fun _ h=>h).alloc _ (hu' _ _)⟩
 have hcut:∀ need old,need≤9223372036854775807→need≤grownCap w need old e:=fun need old _=>grownCap_ge w need old e
 cases hr with
 |nil =>
  simp only [Nat.zero_add,List.nil_append] at *
  rcases hs2.rd with ⟨rfl,rfl,rfl⟩ | ⟨a,c,rfl,hrd⟩
  ·refine⟨.slice none 0 0,[],w,?_,.nil,hw⟩
   simp [Builtin.append_,run_underlying (Q8 ht),sizeOf,typeInfo,hi1,Builtin.lenOf,Builtin.firstCells]
  ·by_cases hk:k=0
   ·subst hk
    have hn0:news=[]:=by have:=hs2.len;simp at this;exact this
    subst hn0
    refine⟨.slice none 0 0,[],w,?_,.nil,hw⟩
    have:=run_firstCells_some (P:=P) w i.size 0 a 0 c [] (by simp) (fun j v hv=>by simp at hv)
    simp [Builtin.append_,run_underlying (Q8 ht),sizeOf,typeInfo,hi1,Builtin.lenOf,this]
   ·have hrun:=run_append_nil (P:=P) (w:=w) t ty e i zv (Q8 ht) hi1 hi4 a k c news hs2.len (hrd w hw) (by omega) (by omega) (by omega)
    have hge:=hcut k 0 h63
    obtain ⟨ob',h2,h3⟩:=new news (Builtin.zeroCells zv.cells (grownCap w k 0 e - k)).toList _ (grownCap w k 0 e) bs hw.drew (List.Sublist.refl _) rfl hs2.len (by rw [hzc,hs2.len,← Nat.add_mul];congr 1;omega) hge (grownCap_le_maxLen w k 0 e (by simp only [maxLen];omega))
    refine⟨_,ob',_,hrun,h2,?_⟩
    have e1:(news++(Builtin.zeroCells zv.cells (grownCap w k 0 e - k)).toList).toArray=news.toArray++Builtin.zeroCells zv.cells (grownCap w k 0 e - k):=by apply Array.ext';simp
    rw [e1] at h3;exact h3
 |some g1 g2 g3 g4 =>
  rename_i b cap rest
  have hbw:w.heap[b]?=some (.cells (olds++rest).toArray e (0,0)):=hw.own (f:=fun o'=>(b,o')::bs) .here
  have hold:∀ j v,olds[j]?=some v→w.cell? ((⟨b,0,none⟩:Addr).add j)=some v:=fun j v hv=>by
   rw [Vb,Nat.zero_add,Xw hbw,List.getElem?_append]
   have:j<olds.length:=by rcases Nat.lt_or_ge j olds.length with q | q;exact q;rw [List.getElem?_eq_none q] at hv;cases hv
   rw [if_pos this];exact hv
  by_cases hroom:n+k≤cap
  ·
   have hmul:(n+k)*i.size≤cap*i.size:=Nat.mul_le_mul_right _ hroom
   rw [Nat.add_mul] at hmul
   have hp:=VD.mk' (n*i.size) (olds++rest) news (by rw [List.length_append,hs2.len];omega)
   obtain ⟨w',h2,h3⟩:=run_storeCells_at (P:=P) b e news 0 (n*i.size) (olds++rest) _ w hbw h1 hp
   have e1:(olds++rest).take (n*i.size)=olds:=by rw [← g1];simp
   have e2:(olds++rest).drop (n*i.size+news.length)=rest.drop news.length:=by
    rw [← g1,List.drop_append,List.drop_of_length_le (by omega),Nat.add_sub_cancel_left,List.nil_append]
   rw [e1,e2] at h3
   have hfc:=Gz (P:=P) (w:=w) hs2.len (hs2.rd.imp id fun⟨a,c,h,h'⟩=>⟨a,c,h,h' w hw⟩)
   refine⟨.slice (some ⟨b,0,none⟩) (n+k) cap,[(b,.cells (olds++news++rest.drop news.length).toArray e (0,0))],w',?_,.some ?_ ?_ hroom g4,?_⟩
   ·have hlen:(Builtin.lenOf y).run P w = .ok k w:=by
     rcases hs2.rd with ⟨rfl,rfl,_⟩ | ⟨a,c,rfl,_⟩<;>rfl
    simp [Builtin.append_,run_underlying (Q8 ht),sizeOf,typeInfo,hi1,hlen,hroom,hfc,Vb,h2]
   ·rw [List.length_append,g1,hs2.len,Nat.add_mul]
   ·rw [List.length_append,List.length_drop,hs2.len,g1];omega
   ·exact St.write [] hw h3 (hu' _ _)
  ·rcases hs2.rd with ⟨rfl,rfl,rfl⟩ | ⟨a,c,rfl,hrd⟩
   ·exact absurd g3 hroom
   ·have hfit:=growslice_fits (need:=n+k) (old:=cap) (bytes:=i.bytes) (by omega) h47
    have hrun:=run_append_grow (P:=P) (w:=w) t ty e i zv (Q8 ht) hi1 hi4 ⟨b,0,none⟩ n cap olds g1 hold a k c news hs2.len (hrd w hw) (by omega) (by omega) hfit
    have hge:=hcut (n+k) cap h63
    have hl2:(olds++news).length=(n+k)*i.size:=by rw [List.length_append,g1,hs2.len,Nat.add_mul]
    obtain ⟨ob',h2,h3⟩:=new (olds++news) (Builtin.zeroCells zv.cells (grownCap w (n+k) cap e - (n+k))).toList _ (grownCap w (n+k) cap e) _ hw.drew (List.sublist_cons_self _ _) rfl hl2 (by rw [hzc,hl2,← Nat.add_mul];congr 1;omega) hge (grownCap_le_maxLen w (n+k) cap e (by simp only [maxLen];omega))
    refine⟨_,ob',_,hrun,h2,?_⟩
    have e1:(olds++news++(Builtin.zeroCells zv.cells (grownCap w (n+k) cap e - (n+k))).toList).toArray=olds.toArray++news.toArray++Builtin.zeroCells zv.cells (grownCap w (n+k) cap e - (n+k)):=by apply Array.ext';simp
    rw [e1] at h3;exact h3
theorem D2 {d:Nat} {pos:String} {aft:Array Edge} {t e:TypeId} {sz bytes n k:Nat} {z:List Value} {g:Bool} {X Y:Operand} {x y:Value} {olds news:List Value} {ob:List (Nat×Obj)} (hx:ev m X=some x) (hy:ev m Y=some y) (ht:H9 P t=some e) (hs:YJ P e=some (g,sz)) (hz:XM P e=some z) (hzl:z.length=sz) (hby:YY P e=some bytes)
  (hr:Q4 e sz x n olds ob) (hs2:Src ⟨w0,F0,ob++bs,G⟩ sz y k news) (h63:n+k≤9223372036854775807) (h47:(n+k)*bytes≤140737488355328) (h1:∀ v∈news,v.oneCell'=true)
  (kk:∀ v' ob',Q4 e sz v' (n+k) (olds++news) ob'→JS P ops Q l N ((d,v')::m) ⟨w0,F0,ob'++bs,G⟩) (hu:Wb e=true:=by rfl) (hd:J4 N (some d)=true:=by rfl) :
  JS P ops Q (⟨some d,.call ⟨.builtin .append,#[X,Y],#[t,t]⟩,ty,pos,aft,none⟩::l) N m ⟨w0,F0,ob++bs,G⟩:=fun a w ha hw =>
 wpList_plain rfl fun K hK=>by
  obtain ⟨v',ob',w',h2,h3,h4⟩:=HM (ty:=ty) ht hs hz hzl hby hr hs2 hw h63 h47 h1 hu
  refine upon_value (w':=w') (v:=v') ?_ (hK _ _ (kk v' ob' h3 _ w' (ha.put hd v') h4))
  rw [Yb]
  simp [builtin,ha.ev hx,ha.ev hy,h2]
theorem D3 {d:Nat} {pos:String} {aft:Array Edge} {t e:TypeId} {sz bytes n k:Nat} {z:List Value} {g:Bool} {X Y:Operand} {x y:Value} {olds news:List Value} {ob bs0:List (Nat×Obj)} {G0:Gs→Prop} (hx:ev m X=some x) (hy:ev m Y=some y) (ht:H9 P t=some e) (hs:YJ P e=some (g,sz)) (hz:XM P e=some z) (hzl:z.length=sz) (hby:YY P e=some bytes)
  (hr:Q4 e sz x n olds ob) (hs2:Src ⟨w0,F0,ob++bs,G⟩ sz y k news) (h63:n+k≤9223372036854775807) (h47:(n+k)*bytes≤140737488355328) (h1:∀ v∈news,v.oneCell'=true) (hs0:bs0.Sublist bs) (hg0:∀ F,G F→G0 F)
  (kk:∀ v' ob',Q4 e sz v' (n+k) (olds++news) ob'→JD P ops Q ⟨w0,F0,bs0,G0⟩ l N ((d,v')::m) ⟨w0,F0,ob'++bs,G⟩) (hu:Wb e=true:=by rfl) (hd:J4 N (some d)=true:=by rfl) :
  JD P ops Q ⟨w0,F0,bs0,G0⟩ (⟨some d,.call ⟨.builtin .append,#[X,Y],#[t,t]⟩,ty,pos,aft,none⟩::l) N m ⟨w0,F0,ob++bs,G⟩:=fun _ a w ha hw=>by
  obtain ⟨v',ob',w',h2,h3,h4⟩:=HM (ty:=ty) ht hs hz hzl hby hr hs2 hw h63 h47 h1 hu
  have sub:∀ w',St ⟨w0,F0,ob'++bs,G⟩ w'→St ⟨w0,F0,bs0,G0⟩ w':=fun w' h=>h.imp (hs0.trans (List.sublist_append_right _ _)) hg0
  refine .inr ⟨rfl,?_⟩
  rw [if_pos (by simp [Region.wanted])]
  refine upon_value (w':=w') (v:=v') ?_ ⟨sub _ h4,kk v' ob' h3 sub _ w' (ha.put hd v') h4⟩
  rw [Yb]
  simp [builtin,ha.ev hx,ha.ev hy,h2]
def Za (z:List Value):Nat→List Value
 |0=>[]
 |n+1=>z++Za z n
theorem G8 (z:List Value):∀ n,(Za z n).length=n*z.length
 |0=>by simp [Za]
 |n+1=>by rw [Za,List.length_append,G8 z n,Nat.add_mul];omega
theorem Mg (z:List Value):∀ (n j:Nat),j<n*z.length→(Za z n)[j]?=z[j%z.length]?
 |0,j,h=>by simp at h
 |n+1,j,h=>by
  rw [Za,List.getElem?_append]
  split
  ·rename_i hj;rw [Nat.mod_eq_of_lt hj]
  ·rename_i hj
   rw [Mg z n _ (by rw [Nat.add_mul,Nat.one_mul] at h;omega)]
   rw [← Nat.mod_eq_sub_mod (by omega)]
theorem VG (v:Value):∀ n,Za [v] n=List.replicate n v
 |0=>rfl
 |n+1=>by rw [Za,VG v n];rfl
theorem SD {z:Array Value} {n:Nat}:madeCells z (n*z.size)=(Za z.toList n).toArray:=by
 apply Array.ext_getElem?
 intro j
 simp only [madeCells,List.getElem?_toArray]
 by_cases hj:j<n*z.size
 ·have hz:0<z.size:=by rcases Nat.eq_zero_or_pos z.size with h | h;rw [h] at hj;simp at hj;exact h
  have hm:=Nat.mod_lt j hz
  rw [Mg z.toList n j (by simpa using hj)]
  simp [hj,hm]
 ·have e1:(Za z.toList n)[j]?=none:=List.getElem?_eq_none (by rw [G8];simpa using hj)
  rw [e1,Array.getElem?_eq_none (by simpa using hj)]
theorem Pq {t e:TypeId} {sz bytes n:Nat} {z:List Value} {g:Bool} {w:World} {kl:IntKind} (ht:H9 P t=some e) (hs:YJ P e=some (g,sz)) (hz:XM P e=some z) (hzl:z.length=sz) (hby:YY P e=some bytes) (h63:(n:Int)≤9223372036854775807) (h48:n*bytes≤281474976710656) :
  (Instr.makeSlice t (.int kl n) (.int kl n)).run P w = .ok (.slice (some ⟨w.heap.size,0,none⟩) n n) (w.alloc (.cells (Za z n).toArray e)):=by
 have hi:∃ i,P.info? e=some i∧i.size=sz∧i.bytes=bytes∧∃ zv,i.zero=some zv∧zv.cells=z.toArray:=by
  unfold YY at hby;unfold XM at hz;unfold YJ at hs
  cases hie:P.info? e with
  |none=>rw [hie] at hby;cases hby
  |some i =>
   rw [hie] at hby hz hs
   dsimp only at hz hs
   simp only [Option.map_some,Option.some.injEq] at hby
   refine⟨i,rfl,?_,hby,?_⟩
   ·split at hs
    ·rename_i h1 h2;cases h2;cases hs;rfl
    ·cases hs
   ·cases hzz:i.zero with
    |none=>rw [hzz] at hz;cases hz
    |some zv=>rw [hzz] at hz;simp only [Option.map_some,Option.some.injEq] at hz;exact⟨zv,rfl,by rw [← hz]⟩
 obtain ⟨i,hi1,hi2,hi3,zv,hi4,hi5⟩:=hi
 subst hi3
 have hb:(i.bytes:Int)*(n:Int)≤281474976710656:=by
  have:((n*i.bytes:Nat):Int)≤281474976710656:=by omega
  rw [Int.natCast_mul] at this;rw [Int.mul_comm];exact this
 have:=run_make (P:=P) w t e i zv (Q8 ht) hi1 hi4 kl kl n n (by omega) (Int.le_refl _) hb h63
 rw [this]
 have e2:i.size=zv.cells.size:=by rw [hi5];simp;omega
 simp only [Int.toNat_natCast,e2,SD,hi5]
theorem Sx {d:Nat} {pos:String} {aft:Array Edge} {t e:TypeId} {sz bytes n:Nat} {z:List Value} {g:Bool} {X Y:Operand} {kl:IntKind} (hx:ev m X=some (.int kl (n:Int))) (hy:ev m Y=some (.int kl (n:Int))) (ht:H9 P t=some e) (hs:YJ P e=some (g,sz)) (hz:XM P e=some z) (hzl:z.length=sz) (hby:YY P e=some bytes) (h63:(n:Int)≤9223372036854775807) (h48:n*bytes≤281474976710656)
  (k:∀ b,JS P ops Q l N ((d,.slice (some ⟨b,0,none⟩) n n)::m) ⟨w0,F0,(b,.cells (Za z n).toArray e (0,0))::bs,G⟩) (hu:Wb e=true:=by rfl) (hd:J4 N (some d)=true:=by rfl) :
  JS P ops Q (⟨some d,.makeSlice t X Y,ty,pos,aft,none⟩::l) N m ⟨w0,F0,bs,G⟩:=fun a w ha hw =>
 wpList_plain rfl fun _ hK=>upon_value (by
  simp only [execOp,ha.ev hx,ha.ev hy,Sem.run_bind,Pq ht hs hz hzl hby h63 h48,Result.andThen_ok,Sem.run_pure]) (hK _ _ (k _ _ _ (ha.put hd _) (hw.alloc _ (Xj hu))))
end
end
end
section
open Go.RowKit
section
variable [Dr] [df:Df]
def Kx (P:Program) (T:TypeId):Option (List (Nat×Nat)):=match P.info? T,P.underlying T with
 |some _,some (.struct fields)=>fields.toList.mapM (fun f=>(P.info? f.type).map fun i=>(f.offset,i.size))
 |_,_=>none
inductive D6 (pl:List (Nat×Nat)):List (Nat×Value)→List Value→List Value→Prop
 |nil {l:List Value}:D6 pl [] l l
 |cons {i off sz:Nat} {v:Value} {vs cur cur' res:List Value} {r:List (Nat×Value)} (hf:pl[i]?=some (off,sz)) (hv:v.cells=vs.toArray) (hn:vs.length=sz) (hp:VD cur off vs cur') (k:D6 pl r cur' res):D6 pl ((i,v)::r) cur res
theorem Ul (off:Nat):∀ (vs:List Value) (j:Nat) (cur cur':List Value),VD cur (off+j) vs cur'→(vs.zipIdx j).foldl (fun cs (x:Value×Nat)=>cs.setIfInBounds (off+x.2) x.1) cur.toArray=cur'.toArray
 |[],j,cur,cur',h=>by have:=h.eq;simp at this;simp [this]
 |v::vs,j,cur,cur',h=>by
  have hle:=h.le
  have hp2:VD (cur.set (off+j) v) (off+(j+1)) vs cur':=by
   have key:∀ (n:Nat) (cur l':List Value),VD cur n (v::vs) l'→VD (cur.set n v) (n+1) vs l':=by
    intro n
    induction n with
    |zero=>intro cur l' h;cases h with | here h=>exact .skip h
    |succ n ih=>intro cur l' h;cases h with | skip h=>exact .skip (ih _ _ h)
   exact key _ _ _ h
  rw [List.zipIdx_cons,List.foldl_cons]
  have:=Ul off vs (j+1) _ _ hp2
  simpa using this
theorem D6.fill {pl:List (Nat×Nat)} {ps:List (Nat×Value)} {cur res:List Value} (h:D6 pl ps cur res):Instr.fill (pl.toArray[·]?) cur.toArray ps=some res.toArray:=by
 induction h with
 |nil=>rfl
 |cons hf hv hn hp k ih =>
  rename_i i off sz v vs cur cur' res r
  have hle:=hp.le
  unfold Instr.fill
  have e1:pl.toArray[i]?=some (off,sz):=by simpa using hf
  simp only [e1,hv,List.size_toArray,hn,ne_eq,not_true_eq_false,decide_false,Bool.false_or,decide_eq_true_eq]
  rw [if_neg (by omega)]
  have e2:vs.toArray.zipIdx.foldl (fun cs (x:Value×Nat)=>cs.setIfInBounds (off+x.2) x.1) cur.toArray=cur'.toArray:=by
   have:=Ul off vs 0 cur cur' (by simpa using hp)
   rw [← this,← Array.foldl_toList];simp
  rw [e2];exact ih
section
variable {P:Program} {Q:Exit→Act→World→Prop} {N:Nat} {m:Sl} {E E0:Env} {ops:Array Oper} {l:List Oper}
theorem K9 {ops':Array Oper} {l':List Oper} (h:JS P ops' Q l' N m E):JD P ops (Xu (fun a w=>wpList P ops' Q l' a w)) E0 [] N m E:=fun _=>h
theorem Q3 (h:Fin Q .normal N m E):JD P ops (Xu (Q .normal)) E0 [] N m E:=fun _=>h
theorem Qk {t:Nat} {b:Bool} (h:look m t=some (.bool b)) (ht:b=true→JS P ops Q l N ((t,.bool true)::m) E) (hf:b=false→JS P ops Q l N ((t,.bool false)::m) E):JS P ops Q l N m E:=fun a w ha hw=>by
 cases b with
 |true=>exact ht rfl a w ⟨ha.size,ha.df,fun i v hi=>by
   simp only [look] at hi
   cases hb:Nat.beq t i with
   |true=>rw [hb] at hi;have:t=i:=(by simpa using hb);subst this;exact ha.get _ _ (by rw [h];simpa using hi)
   |false=>rw [hb] at hi;exact ha.get _ _ hi⟩ hw
 |false=>exact hf rfl a w ⟨ha.size,ha.df,fun i v hi=>by
   simp only [look] at hi
   cases hb:Nat.beq t i with
   |true=>rw [hb] at hi;have:t=i:=(by simpa using hb);subst this;exact ha.get _ _ (by rw [h];simpa using hi)
   |false=>rw [hb] at hi;exact ha.get _ _ hi⟩ hw
theorem DM {t:Nat} {b:Bool} (h:look m t=some (.bool b)) (ht:b=true→JD P ops Q E0 l N ((t,.bool true)::m) E) (hf:b=false→JD P ops Q E0 l N ((t,.bool false)::m) E):JD P ops Q E0 l N m E:=fun hE a w ha hw=>by
 cases b with
 |true=>exact ht rfl hE a w ⟨ha.size,ha.df,fun i v hi=>by
   simp only [look] at hi
   cases hb:Nat.beq t i with
   |true=>rw [hb] at hi;have:t=i:=(by simpa using hb);subst this;exact ha.get _ _ (by rw [h];simpa using hi)
   |false=>rw [hb] at hi;exact ha.get _ _ hi⟩ hw
 |false=>exact hf rfl hE a w ⟨ha.size,ha.df,fun i v hi=>by
   simp only [look] at hi
   cases hb:Nat.beq t i with
   |true=>rw [hb] at hi;have:t=i:=(by simpa using hb);subst this;exact ha.get _ _ (by rw [h];simpa using hi)
   |false=>rw [hb] at hi;exact ha.get _ _ hi⟩ hw
section
variable {d:Option Tmp} {o:Op} {ty:TypeId} {pos:String} {aft:Array Edge} {g t:Nat} {want:Bool}
theorem QJ (hg:(ops[g]?).bind (·.dst)=some t) (hb:look m t=some (.bool want)) (ht:JS P ops Q (⟨d,o,ty,pos,aft,none⟩::l) N m E) (hd:J4 N d=true:=by rfl):JS P ops Q (⟨d,o,ty,pos,aft,some (g,want)⟩::l) N m E :=
 kf hg hb (fun _=>ht) (fun h=>by cases want<;>cases h) hd
theorem XE (hg:(ops[g]?).bind (·.dst)=some t) (hb:look m t=some (.bool want)) (ht:JD P ops Q E0 (⟨d,o,ty,pos,aft,none⟩::l) N m E) (hd:J4 N d=true:=by rfl):JD P ops Q E0 (⟨d,o,ty,pos,aft,some (g,want)⟩::l) N m E :=
 kg hg hb (fun _=>ht) (fun h=>by cases want<;>cases h) hd
theorem QR {d:Nat} {b:Bool} (hg:(ops[g]?).bind (·.dst)=some t) (hb:look m t=some (.bool b)) (hw:b=!want) (hf:JS P ops Q l N ((d,undef)::m) E) (hd:J4 N (some d)=true:=by rfl):JS P ops Q (⟨some d,o,ty,pos,aft,some (g,want)⟩::l) N m E :=
 kf hg hb (fun h=>by subst h;cases b<;>cases hw) (fun _=>hf) hd
theorem Jt {d:Nat} {b:Bool} (hg:(ops[g]?).bind (·.dst)=some t) (hb:look m t=some (.bool b)) (hw:b=!want) (hf:JD P ops Q E0 l N ((d,undef)::m) E) (hd:J4 N (some d)=true:=by rfl):JD P ops Q E0 (⟨some d,o,ty,pos,aft,some (g,want)⟩::l) N m E :=
 kg hg hb (fun h=>by subst h;cases b<;>cases hw) (fun _=>hf) hd
end
theorem x3 {w0:World} {F0:Gs} {bs:List (Nat×Obj)} {G:Gs→Prop} {x y:Code} (m':Sl) (bs':List (Nat×Obj)) (G':Gs→Prop) (h1:J P x (Xu (fun a w=>Js N m' a∧St ⟨w0,F0,bs',G'⟩ w)) N m ⟨w0,F0,bs,G⟩) (h2:J P y Q N m' ⟨w0,F0,bs',G'⟩):J P (.seq x y) Q N m ⟨w0,F0,bs,G⟩:=fun a w ha hw=>by
 refine wp_seq (wp_mono (h1 a w ha hw) ?_)
 intro e a' w' h
 cases e with
 |normal=>exact h2 a' w' h.1 h.2
 |_=>exact h.elim
theorem XI {m':Sl} {w0:World} {F0:Gs} {bs bs':List (Nat×Obj)} {G G':Gs→Prop} (hm:Y4 m m') (hb:bs'.Sublist bs) (hg:∀ F,G F→G' F):Fin (Xu (fun a w=>Js N m' a∧St ⟨w0,F0,bs',G'⟩ w)) .normal N m ⟨w0,F0,bs,G⟩ :=
 fun a w ha hw=>⟨ha.sub hm,hw.imp hb hg⟩
end
theorem Kq {P:Program} {Q:Exit→Act→World→Prop} {N:Nat} {m:Sl} {ι:Type} {w0:World} {F0:Gs} {bs:List (Nat×Obj)} {G:Gs→Prop} {x y:Code} (M:ι→Sl) (B:ι→List (Nat×Obj)) (H:ι→Gs→Prop)
  (h1:J P x (Xu (fun a w=>∃ i,Js N (M i) a∧St ⟨w0,F0,B i,H i⟩ w)) N m ⟨w0,F0,bs,G⟩) (h2:∀ i,J P y Q N (M i) ⟨w0,F0,B i,H i⟩):J P (.seq x y) Q N m ⟨w0,F0,bs,G⟩:=fun a w ha hw=>by
 refine wp_seq (wp_mono (h1 a w ha hw) ?_)
 intro e a' w' h
 cases e with
 |normal=>obtain ⟨i,h3,h4⟩:=h;exact h2 i a' w' h3 h4
 |_=>exact h.elim
theorem J9 {N:Nat} {m:Sl} {ι:Type} {w0:World} {F0:Gs} {bs:List (Nat×Obj)} {G:Gs→Prop} {M:ι→Sl} {B:ι→List (Nat×Obj)} {H:ι→Gs→Prop} (i:ι) (hm:Y4 m (M i)) (hb:(B i).Sublist bs) (hg:∀ F,G F→H i F) :
  Fin (Xu (fun a w=>∃ i,Js N (M i) a∧St ⟨w0,F0,B i,H i⟩ w)) .normal N m ⟨w0,F0,bs,G⟩:=fun a w ha hw=>⟨i,ha.sub hm,hw.imp hb hg⟩
inductive OD:Sl→Sl→Prop
 |refl {m:Sl}:OD m m
 |cons {k:Nat} {v:Value} {l m:Sl} (hk:(look m k).isNone=true) (h:OD l m):OD ((k,v)::l) m
theorem OD.look {l m:Sl} (h:OD l m) {t:Nat} {u:Value} (hu:YtknegjaeoffnbaaGreatDoor.look m t=some u):YtknegjaeoffnbaaGreatDoor.look l t=some u:=by
 induction h with
 |refl=>exact hu
 |cons hk h ih =>
  rename_i k v l m
  have hne:Nat.beq k t=false:=by
   cases hb:Nat.beq k t with
   |false=>rfl
   |true=>have:k=t:=(by simpa using hb);subst this;rw [hu] at hk;cases hk
  simp only [YtknegjaeoffnbaaGreatDoor.look,hne,cond_false]
  exact ih hu
section
variable {P:Program} {Q:Exit→Act→World→Prop} {N:Nat} {m l:Sl} {w0:World} {F0:Gs} {bs bs1:List (Nat×Obj)} {G G1:Gs→Prop} {x y:Code}
theorem Vd (t:Nat) (v:Value) (h1:J P x (Xu (fun a w=>Js N ((t,v)::m) a∧St ⟨w0,F0,bs,G⟩ w)) N m ⟨w0,F0,bs,G⟩) (h2:J P y Q N ((t,v)::m) ⟨w0,F0,bs,G⟩):J P (.seq x y) Q N m ⟨w0,F0,bs,G⟩:=x3 _ _ _ h1 h2
theorem Jp {t:Nat} {v:Value} (he:OD l m) (ht:look l t=some v) (hb:bs.Sublist bs1) (hg:∀ F,G1 F→G F):Fin (Xu (fun a w=>Js N ((t,v)::m) a∧St ⟨w0,F0,bs,G⟩ w)) .normal N l ⟨w0,F0,bs1,G1⟩:=fun a w ha hw =>
 ⟨⟨ha.size,ha.df,fun i u hi=>by
  simp only [look] at hi
  cases hb:Nat.beq t i with
  |true=>rw [hb] at hi;have:t=i:=(by simpa using hb);subst this;exact ha.get _ _ (by rw [ht];simpa using hi)
  |false=>rw [hb] at hi;exact ha.get _ _ (he.look (by simpa using hi))⟩,hw.imp hb hg⟩
end
section
variable {P:Program} {N:Nat} {m:Sl} {S:World→Prop} {ty:TypeId} {v:Value}
theorem Qi {c x y:Operand} (hc:ev m c=some (.bool true)) (hx:ev m x=some v) (hy:(ev m y).isSome=true):Qt P N m S (.pick c x y) ty v:=by
 obtain ⟨u,hu⟩:=Option.isSome_iff_exists.1 hy
 exact O4 hc hx hu
theorem Qh {c x y:Operand} (hc:ev m c=some (.bool false)) (hx:(ev m x).isSome=true) (hy:ev m y=some v):Qt P N m S (.pick c x y) ty v:=by
 obtain ⟨u,hu⟩:=Option.isSome_iff_exists.1 hx
 exact O4 hc hu hy
theorem zZ {T yT:TypeId} {x y:Operand} {a:Int} (hx:ev m x=some (.int .i64 a)) (hy:ev m y=some (.int .i64 1)) (h:0≤a):Qt P N m S (.binOp .and T x y yT) ty (.int .i64 (a%2)):=fun s w _ _ _ _ ha _=>by
 have e:IntKind.i64.wrap (((BitVec.ofInt 64 a &&& BitVec.ofInt 64 1).toNat:Nat):Int)=a%2:=by
  have h1:(BitVec.ofInt 64 (1:Int)).toNat=1:=rfl
  rw [BitVec.toNat_and,h1,Nat.and_one_is_mod,BitVec.toNat_ofInt]
  have h2:((((a%((2^64:Nat):Int)).toNat%2:Nat)):Int)=a%2:=by
   have h3:(((2^64:Nat):Int))=18446744073709551616:=by decide
   rw [h3];omega
  rw [h2];exact Uc (by omega)
 have h1:BitVec.ofInt 64 (1:Int)=1#64:=rfl
 rw [h1] at e
 simp [execOp,ha.ev hx,ha.ev hy,eqGuard,binOp,Op.intBits,IntKind.bits]
 exact e
theorem O1 {T yT:TypeId} {x y:Operand} {k:IntKind} {a:Int} (hx:ev m x=some (.int .i64 a)) (hy:ev m y=some (.int k 1)):Qt P N m S (.binOp .shr T x y yT) ty (.int .i64 (a / 2)):=fun s w _ _ _ _ ha _=>by
 have e:a.fdiv 2=a / 2:=Int.fdiv_eq_ediv_of_nonneg a (by decide)
 simp [execOp,ha.ev hx,ha.ev hy,eqGuard,binOp,Op.shift,IntKind.bits,e]
theorem WC {T e yT:TypeId} {x y:Operand} {q:Option Addr} {n c:Nat} (hx:ev m x=some (.slice q n c)) (hy:ev m y=some (.slice none 0 0)) (hT:H9 P T=some e):Qt P N m S (.binOp .eql T x y yT) ty (.bool q.isNone):=fun a w _ _ _ _ ha _=>by
 have:=Lib.run_eql_slice_nil (P:=P) w T e q n c 0 0 (Q8 hT)
 simp [execOp,ha.ev hx,ha.ev hy,eqGuard,this]
theorem Q9 {T:TypeId} {parts:Array (Nat×Operand)} {ps:List (Nat×Value)} {pl:List (Nat×Nat)} {z res:List Value} (hp:V4 m parts.toList=some ps) (hl:Kx P T=some pl) (hz:XM P T=some z) (hb:D6 pl ps z res):Qt P N m S (.build T parts) ty (.agg res.toArray):=fun a w _ _ _ _ ha _=>by
 have hbt:P.built T ps=some res.toArray:=by
  unfold Kx at hl;unfold XM at hz
  unfold Program.built
  cases hi:P.info? T with
  |none=>rw [hi] at hl;cases hl
  |some i =>
   rw [hi] at hl hz
   cases hu:P.underlying T with
   |none=>rw [hu] at hl;cases hl
   |some d =>
    rw [hu] at hl
    cases d with
    |struct fields =>
     dsimp only at hl hz ⊢
     cases hzz:i.zero with
     |none=>rw [hzz] at hz;cases hz
     |some zv =>
      rw [hzz] at hz
      simp only [Option.map_some,Option.some.injEq] at hz
      rw [hl]
      have:=hb.fill
      rw [← hz] at this
      simpa using this
    |_=>cases hl
 have e1:(parts.map fun(i,x)=>(i,a.eval x)).toList=ps:=by simpa using ha.parts hp
 have:=run_build (P:=P) w T (parts.map fun(i,x)=>(i,a.eval x)) _ (by rw [e1];exact hbt)
 simp only [execOp,Sem.run_bind,this,Result.andThen_ok,Sem.run_pure]
end
end
end
section
theorem Qu:YJ Tryz.prog 3=some (false,1):=by kernel_rfl
theorem Vi:XM Tryz.prog 3=some [.int .i64 0]:=by kernel_rfl
theorem DF:YY Tryz.prog 3=some 8:=by kernel_rfl
theorem gr:RH Tryz.prog 3=some .i64:=by kernel_rfl
theorem y6:(Tryz.prog.underlying 3).isSome=true:=by kernel_rfl
theorem Yk:YJ Tryz.prog 4=some (false,1):=by kernel_rfl
theorem y8:YJ Tryz.prog 5=some (false,1):=by kernel_rfl
theorem gX:XM Tryz.prog 5=some [.int .u8 0]:=by kernel_rfl
theorem vp:YY Tryz.prog 5=some 1:=by kernel_rfl
theorem vO:(Tryz.prog.underlying 5).isSome=true:=by kernel_rfl
theorem qd:YJ Tryz.prog 9=some (false,1):=by kernel_rfl
theorem gW:XM Tryz.prog 9=some [.string .empty]:=by kernel_rfl
theorem vo:YY Tryz.prog 9=some 16:=by kernel_rfl
theorem J5:W7 Tryz.prog 9=true:=by kernel_rfl
theorem X2:YJ Tryz.prog 22=some (false,1):=by kernel_rfl
theorem OG:XM Tryz.prog 22=some [.string .empty]:=by kernel_rfl
theorem V8:W7 Tryz.prog 22=true:=by kernel_rfl
theorem Jw:YJ Tryz.prog 24=some (true,2):=by kernel_rfl
theorem Yp:XM Tryz.prog 24=some [.string .empty,.string .empty]:=by kernel_rfl
theorem KR:Kx Tryz.prog 24=some [(0,1),(1,1)]:=by kernel_rfl
theorem FN:Wy Tryz.prog 24 0=some (0,22):=by kernel_rfl
theorem FM:Wy Tryz.prog 24 1=some (1,22):=by kernel_rfl
theorem Y3:YJ Tryz.prog 26=some (false,1):=by kernel_rfl
theorem BA:XM Tryz.prog 26=some [.int .i64 0]:=by kernel_rfl
theorem TK:H9 Tryz.prog 42=some 24:=by kernel_rfl
theorem BO:H9 Tryz.prog 44=some 22:=by kernel_rfl
theorem Mm:YJ Tryz.prog 52=some (false,1):=by kernel_rfl
theorem zB:XM Tryz.prog 52=some [.slice none 0 0]:=by kernel_rfl
theorem Zp:H9 Tryz.prog 52=some 122:=by kernel_rfl
theorem EA:H9 Tryz.prog 59=some 52:=by kernel_rfl
theorem Qs:YJ Tryz.prog 120=some (false,1):=by kernel_rfl
theorem Qe:H9 Tryz.prog 120=some 3:=by kernel_rfl
theorem X3:YJ Tryz.prog 122=some (true,2):=by kernel_rfl
theorem Xm:XM Tryz.prog 122=some [.string .empty,.slice none 0 0]:=by kernel_rfl
theorem yU:YY Tryz.prog 122=some 40:=by kernel_rfl
theorem ZP:Kx Tryz.prog 122=some [(0,1),(1,1)]:=by kernel_rfl
theorem By:Wy Tryz.prog 122 0=some (0,22):=by kernel_rfl
theorem Wf:Wy Tryz.prog 122 1=some (1,120):=by kernel_rfl
theorem Kf:YJ Tryz.prog 126=some (false,1):=by kernel_rfl
theorem YW:H9 Tryz.prog 126=some 248:=by kernel_rfl
theorem QY:YJ Tryz.prog 128=some (true,2):=by kernel_rfl
theorem ZX:XM Tryz.prog 128=some [.int .i64 0,.slice none 0 0]:=by kernel_rfl
theorem zg:Kx Tryz.prog 128=some [(0,1),(1,1)]:=by kernel_rfl
theorem Bw:Wy Tryz.prog 128 0=some (0,3):=by kernel_rfl
theorem Gm:Wy Tryz.prog 128 1=some (1,126):=by kernel_rfl
theorem Qg:YJ Tryz.prog 130=some (true,4):=by kernel_rfl
theorem X1:XM Tryz.prog 130=some [.int .i64 0,.slice none 0 0,.int .i64 0,.slice none 0 0]:=by kernel_rfl
theorem Hr:Kx Tryz.prog 130=some [(0,2),(2,2)]:=by kernel_rfl
theorem ZN:Wy Tryz.prog 130 0=some (0,128):=by kernel_rfl
theorem ZM:Wy Tryz.prog 130 1=some (2,128):=by kernel_rfl
theorem XL:YJ Tryz.prog 138=some (true,8):=by kernel_rfl
theorem Y2:XM Tryz.prog 138=some [.int .i64 0,.slice none 0 0,.int .i64 0,.slice none 0 0,.int .i64 0,.slice none 0 0,.int .i64 0,.slice none 0 0]:=by kernel_rfl
theorem R2:Kx Tryz.prog 138=some [(0,4),(4,4)]:=by kernel_rfl
theorem Zt:Wy Tryz.prog 138 0=some (0,130):=by kernel_rfl
theorem YD:Wy Tryz.prog 138 1=some (4,130):=by kernel_rfl
theorem Qv:YJ Tryz.prog 143=some (true,2):=by kernel_rfl
theorem Xc:XM Tryz.prog 143=some [.bool false,.slice none 0 0]:=by kernel_rfl
theorem CK:Kx Tryz.prog 143=some [(0,1),(1,1)]:=by kernel_rfl
theorem Zd:Wy Tryz.prog 143 0=some (0,4):=by kernel_rfl
theorem XK:Wy Tryz.prog 143 1=some (1,120):=by kernel_rfl
theorem WM:YJ Tryz.prog 157=some (false,1):=by kernel_rfl
theorem OH:XM Tryz.prog 157=some [.slice none 0 0]:=by kernel_rfl
theorem yS:YY Tryz.prog 157=some 24:=by kernel_rfl
theorem J1:H9 Tryz.prog 157=some 165:=by kernel_rfl
theorem W5:YJ Tryz.prog 160=some (true,25):=by kernel_rfl
theorem Fk:XM Tryz.prog 160=some [.int .i64 0,.int .i64 0,.int .i64 0,.int .i64 0,.int .i64 0,.int .i64 0,.int .i64 0,.int .i64 0,.int .i64 0,.int .i64 0,.int .i64 0,.int .i64 0,.int .i64 0,.int .i64 0,.int .i64 0,.int .i64 0,.int .i64 0,.int .i64 0,.int .i64 0,.int .i64 0,.int .i64 0,.int .i64 0,.int .i64 0,.int .i64 0,.int .i64 0]:=by kernel_rfl
theorem Jf:YJ Tryz.prog 165=some (true,5):=by kernel_rfl
theorem Ze:XM Tryz.prog 165=some [.int .i64 0,.slice none 0 0,.int .i64 0,.slice none 0 0,.slice none 0 0]:=by kernel_rfl
theorem Ff:YY Tryz.prog 165=some 88:=by kernel_rfl
theorem ND:Kx Tryz.prog 165=some [(0,4),(4,1)]:=by kernel_rfl
theorem YC:Wy Tryz.prog 165 0=some (0,130):=by kernel_rfl
theorem ZE:Wy Tryz.prog 165 1=some (4,120):=by kernel_rfl
theorem DX:H9 Tryz.prog 173=some 157:=by kernel_rfl
theorem Ho:H9 Tryz.prog 180=some 130:=by kernel_rfl
theorem Zn:H9 Tryz.prog 213=some 26:=by kernel_rfl
theorem xt:RH Tryz.prog 232=some .u64:=by kernel_rfl
theorem Mn:YJ Tryz.prog 248=some (false,1):=by kernel_rfl
theorem y4:XM Tryz.prog 248=some [.int .u64 0]:=by kernel_rfl
theorem Rl:H9 Tryz.prog 278=some 9:=by kernel_rfl
theorem DS:YJ Tryz.prog 281=some (false,1):=by kernel_rfl
theorem W4:YJ Tryz.prog 282=some (false,1):=by kernel_rfl
theorem AX:H9 Tryz.prog 282=some 5:=by kernel_rfl
theorem xR:XM Tryz.prog 284=some [.pointer none,.slice none 0 0]:=by kernel_rfl
theorem SX:Wy Tryz.prog 284 0=some (0,281):=by kernel_rfl
theorem MF:Wy Tryz.prog 284 1=some (1,282):=by kernel_rfl
theorem mixed:Tryz.prog.follows .mixedOrders=true:=by kernel_rfl
end
end Go.Proofs.YtknegjaeoffnbaaGreatDoor
namespace Ig
def dv (b:Int):List Int→Int
 |[]=>0
 |x::l=>x+b*dv b l
def DG (b:Int) (l:List Int):Prop:=∀ x∈l,0≤x∧x<b
def NZ (l:List Int):Prop:=l.getLast?≠some 0
@[simp] theorem Sa (b:Int):dv b []=0:=rfl
@[simp] theorem YT (b x:Int) (l:List Int):dv b (x::l)=x+b*dv b l:=rfl
theorem ZQ (b:Int) (l m:List Int):dv b (l++m)=dv b l+b^l.length*dv b m:=by
 induction l with
 |nil=>simp
 |cons x l ih=>simp only [List.cons_append,YT,ih,List.length_cons];rw [Int.pow_succ];grind
theorem XV (b x:Int) (l:List Int):dv b (l++[x])=dv b l+b^l.length*x:=by
 rw [ZQ];simp
theorem DG.nil (b:Int):DG b []:=by intro x hx;cases hx
theorem DG.cons {b x:Int} {l:List Int} (h0:0≤x) (h1:x<b) (h:DG b l):DG b (x::l):=by
 intro y hy;rcases List.mem_cons.1 hy with rfl | hy
 ·exact⟨h0,h1⟩
 ·exact h y hy
theorem DG.head {b x:Int} {l:List Int} (h:DG b (x::l)):0≤x∧x<b:=h x (by simp)
theorem DG.tail {b x:Int} {l:List Int} (h:DG b (x::l)):DG b l:=fun y hy=>h y (by simp [hy])
theorem DG.append {b:Int} {l m:List Int} (h:DG b l) (k:DG b m):DG b (l++m):=by
 intro x hx;rcases List.mem_append.1 hx with hx | hx
 ·exact h x hx
 ·exact k x hx
theorem DG.left {b:Int} {l m:List Int} (h:DG b (l++m)):DG b l:=fun x hx=>h x (by simp [hx])
theorem DG.right {b:Int} {l m:List Int} (h:DG b (l++m)):DG b m:=fun x hx=>h x (by simp [hx])
theorem DG.take {b:Int} {l:List Int} (h:DG b l) (n:Nat):DG b (l.take n):=fun x hx=>h x (List.mem_of_mem_take hx)
theorem DG.drop {b:Int} {l:List Int} (h:DG b l) (n:Nat):DG b (l.drop n):=fun x hx=>h x (List.mem_of_mem_drop hx)
theorem DG.replicate {b:Int} (hb:0<b) (n:Nat):DG b (List.replicate n 0):=by
 intro x hx;have:=List.eq_of_mem_replicate hx;omega
theorem DG.getD {b:Int} {l:List Int} (hb:0<b) (h:DG b l) (i:Nat):0≤l.getD i 0∧l.getD i 0<b:=by
 by_cases hi:i<l.length
 ·have:l.getD i 0=l[i]:=by simp [List.getD,hi]
  rw [this];exact h _ (List.getElem_mem hi)
 ·have:l.getD i 0=0:=by simp [List.getD,hi]
  omega
theorem DG.set {b:Int} {l:List Int} (h:DG b l) (i:Nat) {x:Int} (h0:0≤x) (h1:x<b):DG b (l.set i x):=by
 intro y hy;rcases List.mem_or_eq_of_mem_set hy with hy | rfl
 ·exact h y hy
 ·exact⟨h0,h1⟩
theorem pow_pos {b:Int} (hb:0<b) (n:Nat):0<b^n:=Int.pow_pos hb
theorem KQ {b:Int} (hb:1≤b) {m n:Nat} (h:m≤n):b^m≤b^n:=by
 obtain ⟨k,rfl⟩:=Nat.exists_eq_add_of_le h
 rw [Int.pow_add]
 have h1:=pow_pos (b:=b) (by omega) m
 have h2:=pow_pos (b:=b) (by omega) k
 have h3:b^m*1≤b^m*b^k:=Int.mul_le_mul_of_nonneg_left (by omega) (by omega)
 omega
theorem Qx {b:Int} (hb:0<b):∀ {l:List Int},DG b l→0≤dv b l
 |[],_=>by simp
 |x::l,h=>by
  have:=Qx hb h.tail
  have:=Int.mul_nonneg (Int.le_of_lt hb) this
  have:=h.head;simp;omega
theorem Z4 {b:Int} (hb:0<b):∀ {l:List Int},DG b l→dv b l<b^l.length
 |[],_=>by simp
 |x::l,h=>by
  have h1:=Z4 hb h.tail
  have h2:=h.head
  have h3:b*(dv b l+1)≤b*b^l.length:=Int.mul_le_mul_of_nonneg_left (by omega) (Int.le_of_lt hb)
  rw [List.length_cons,Int.pow_succ,Int.mul_comm (b^l.length) b]
  rw [Int.mul_add] at h3
  simp;omega
theorem Nr (b:Int) (n:Nat):dv b (List.replicate n 0)=0:=by
 induction n with
 |zero=>rfl
 |succ n ih=>simp [List.replicate_succ,ih]
theorem KV (b:Int) (l:List Int) (n:Nat) (h:n≤l.length):dv b l=dv b (l.take n)+b^n*dv b (l.drop n):=by
 have:=ZQ b (l.take n) (l.drop n)
 rw [List.take_append_drop,List.length_take,Nat.min_eq_left h] at this;exact this
theorem V6 {α:Type} (l:List α) (n:Nat) (h:n<l.length):l.take (n+1)=l.take n++[l[n]]:=by
 rw [List.take_succ_eq_append_getElem h]
theorem Wg (b:Int) (l:List Int) (n:Nat) (h:n<l.length):dv b (l.take (n+1))=dv b (l.take n)+b^n*l[n]:=by
 rw [V6 l n h,XV,List.length_take,Nat.min_eq_left (by omega)]
theorem B0 {b:Int} (hb:0<b) {l:List Int} (h:DG b l) (hn:NZ l) (hl:l≠[]):b^(l.length - 1)≤dv b l:=by
 obtain ⟨m,x,rfl⟩:∃ m x,l=m++[x]:=⟨l.dropLast,l.getLast hl,(List.dropLast_concat_getLast hl).symm⟩
 rw [XV]
 have h1:x≠0:=by intro e;subst e;exact hn (by simp)
 have h2:=h x (by simp)
 have h3:=Qx hb h.left
 have h4:=pow_pos hb m.length
 have h5:b^m.length*1≤b^m.length*x:=Int.mul_le_mul_of_nonneg_left (by omega) (by omega)
 simp;omega
def Q2 (l:List Int):List Int:=(l.reverse.dropWhile (·==0)).reverse
theorem YQ (l:List Int):Q2 (l++[0])=Q2 l:=by simp [Q2]
theorem VH (l:List Int) {x:Int} (h:x≠0):Q2 (l++[x])=l++[x]:=by simp [Q2,h]
theorem Pj:Q2 []=[]:=rfl
theorem My (l:List Int):l=[]∨∃ m x,l=m++[x]:=by
 by_cases hl:l=[]
 ·exact .inl hl
 ·exact .inr ⟨l.dropLast,l.getLast hl,(List.dropLast_concat_getLast hl).symm⟩
theorem TJ {P:List Int→Prop} (h0:P []) (h1:∀ l x,P l→P (l++[x])) (l:List Int):P l:=by
 have:∀ m:List Int,P m.reverse:=by
  intro m;induction m with
  |nil=>exact h0
  |cons x m ih=>rw [List.reverse_cons];exact h1 _ _ ih
 simpa using this l.reverse
theorem Mp (l:List Int):∃ n,l=Q2 l++List.replicate n 0:=by
 induction l using TJ with
 |h0=>exact⟨0,rfl⟩
 |h1 l x ih =>
  by_cases hx:x=0
  ·subst hx;obtain ⟨n,hn⟩:=ih
   refine⟨n+1,?_⟩
   rw [YQ,List.replicate_succ',← List.append_assoc,← hn]
  ·exact⟨0,by rw [VH l hx];simp⟩
theorem Hj (l:List Int):Q2 l=l.take (Q2 l).length:=by
 obtain ⟨n,hn⟩:=Mp l
 have:l.take (Q2 l).length=(Q2 l++List.replicate n 0).take (Q2 l).length:=by rw [← hn]
 rw [this];simp
theorem Xh (l:List Int):(Q2 l).length≤l.length:=by
 obtain ⟨n,hn⟩:=Mp l
 have:=congrArg List.length hn;simp at this;omega
theorem J7 (b:Int) (l:List Int):dv b (Q2 l)=dv b l:=by
 obtain ⟨n,hn⟩:=Mp l
 have:dv b l=dv b (Q2 l++List.replicate n 0):=by rw [← hn]
 rw [this,ZQ,Nr];simp
theorem Xf (l:List Int):NZ (Q2 l):=by
 induction l using TJ with
 |h0=>simp [Pj,NZ]
 |h1 l x ih =>
  by_cases hx:x=0
  ·subst hx;rw [YQ];exact ih
  ·rw [VH l hx];simp [NZ,hx]
theorem DG.Q2 {b:Int} {l:List Int} (h:DG b l):DG b (Q2 l):=by rw [Hj];exact h.take _
theorem xV {l:List Int} (h:NZ l):Q2 l=l:=by
 rcases My l with rfl | ⟨m,x,rfl⟩
 ·rfl
 ·exact VH m (by intro e;subst e;exact h (by simp))
theorem Ns {b:Int} (hb:0<b):∀ {l m:List Int},DG b l→DG b m→l.length=m.length→dv b l=dv b m→l=m
 |[],[],_,_,_,_=>rfl
 |x::l,y::m,h,k,hl,e=>by
  have h1:=h.head;have h2:=k.head
  simp only [YT] at e
  have e1:x=y:=by
   have a1:(x+b*dv b l)%b=x:=by rw [Int.add_mul_emod_self_left];exact Int.emod_eq_of_lt h1.1 h1.2
   have a2:(y+b*dv b m)%b=y:=by rw [Int.add_mul_emod_self_left];exact Int.emod_eq_of_lt h2.1 h2.2
   rw [← a1,← a2,e]
  subst e1
  have e2:b*dv b l=b*dv b m:=by omega
  have e3:=Int.eq_of_mul_eq_mul_left (by omega) e2
  rw [Ns hb h.tail k.tail (by simpa using hl) e3]
theorem Xb {b:Int} (hb:1<b) {l m:List Int} (h:DG b l) (k:DG b m) (km:NZ m) (hl:l.length<m.length):dv b l<dv b m:=by
 have h1:=Z4 (by omega) h
 have h2:=B0 (by omega) k km (by intro e;subst e;simp at hl)
 have h3:b^l.length≤b^(m.length - 1):=KQ (by omega) (by omega)
 omega
theorem C6 {b:Int} (hb:1<b) {l m:List Int} (h:DG b l) (k:DG b m) (hn:NZ l) (kn:NZ m) (e:dv b l=dv b m):l=m:=by
 refine Ns (by omega) h k ?_ e
 rcases Nat.lt_trichotomy l.length m.length with g | g | g
 ·have:=Xb hb h k kn g;omega
 ·exact g
 ·have:=Xb hb k h hn g;omega
theorem YX {b:Int} (hb:1<b) {l:List Int} (h:DG b l) (hn:NZ l):dv b l=0↔l=[]:=by
 constructor
 ·intro e;exact C6 hb h (DG.nil b) hn (by simp [NZ]) (by simpa using e)
 ·rintro rfl;rfl
def yQ:List Int→List Int→Int
 |x::l,y::m=>if x=y then yQ l m else if x<y then -1 else 1
 |_,_=>0
def Eg (x:Int):Int:=if x<0 then -1 else if x=0 then 0 else 1
def ZU (x y:Int):Int:=if x<y then -1 else if x=y then 0 else 1
theorem qE (x y:Int):ZU x y=Eg (x - y):=by unfold ZU Eg;split<;>split<;>(try split)<;>omega
theorem FT {b:Int} (hb:0<b) {l m:List Int} {x y:Int} (h:DG b l) (k:DG b m) (hl:l.length=m.length) (hxy:x<y) :
  dv b (l++[x])<dv b (m++[y]):=by
 rw [XV,XV,hl]
 have h1:=Z4 hb h;have h2:=Qx hb k
 rw [hl] at h1
 have h3:b^m.length*(x+1)≤b^m.length*y:=Int.mul_le_mul_of_nonneg_left (by omega) (Int.le_of_lt (pow_pos hb _))
 rw [Int.mul_add] at h3;omega
theorem Sf {b:Int} (hb:0<b) {l m:List Int} (h:DG b l) (k:DG b m) (hl:l.length=m.length) (n:Nat) (hn:n<l.length)
  (hs:l.drop (n+1)=m.drop (n+1)) (hxy:l[n]<m[n]'(by omega)):dv b l<dv b m:=by
 rw [KV b l (n+1) (by omega),KV b m (n+1) (by omega),hs,V6 l n hn,V6 m n (by omega)]
 have:=FT hb (h.take n) (k.take n) (by simp;omega) hxy
 omega
end Ig
namespace Go.Proofs.YtknegjaeoffnbaaGreatDoor
section
open Go.RowKit Ig
def W:Int:=18446744073709551616
theorem Wo:W=18446744073709551616:=rfl
theorem Jk:0<W:=by decide
theorem Ew:1<W:=by decide
def YZ (w:World) (s:Int) (q:Option Addr) (n cap:Nat) (z:Int):Prop :=
 (q=none∧n=0∧cap=0∧s=z∧-9223372036854775808≤z∧z≤9223372036854775807) ∨
 ∃ (b off:Nat) (l:List Int),q=some ⟨b,off,none⟩∧n=l.length∧l.length≤cap∧(cap:Int)≤9223372036854775807∧Cells w q Jd l ∧
  DG W l∧NZ l∧l≠[]∧(s=1∨s = -1)∧z=s*dv W l∧9223372036854775808≤dv W l
def XT (w:World) (v:Value) (z:Int):Prop:=∃ s q n cap,v = .agg #[.int .i64 s,.slice q n cap]∧YZ w s q n cap z
theorem YZ.ext {w w':World} (h:Ext w w') {s:Int} {q:Option Addr} {n cap:Nat} {z:Int} (hv:YZ w s q n cap z):YZ w' s q n cap z:=by
 rcases hv with hv | ⟨b,off,l,h1,h2,h3,h4,h5,h6⟩
 ·exact .inl hv
 ·exact .inr ⟨b,off,l,h1,h2,h3,h4,h5.ext h,h6⟩
theorem XT.ext {w w':World} (h:Ext w w') {v:Value} {z:Int} (hv:XT w v z):XT w' v z:=by
 obtain ⟨s,q,n,cap,rfl,hp⟩:=hv;exact⟨s,q,n,cap,rfl,hp.ext h⟩
theorem XT.small (w:World) {z:Int} (h0 : -9223372036854775808≤z) (h1:z≤9223372036854775807):XT w (.agg #[.int .i64 z,.slice none 0 0]) z :=
 ⟨z,none,0,0,rfl,.inl ⟨rfl,rfl,rfl,rfl,h0,h1⟩⟩
def ZK (w:World) (R:Value→World→Prop) (e:Ending) (w':World):Prop:=∃ v,e = .returned v∧R v w'∧Ext w w'
def Jg (z:Int):Int:=if z<0 then -z else z
theorem Bo {z:Int} (h:z<0):Jg z = -z:=if_pos h
theorem WI {z:Int} (h:0≤z):Jg z=z:=if_neg (by omega)
theorem KM (z:Int):Jg z=z.natAbs:=by unfold Jg;split<;>omega
def sg (neg:Bool) (n:Int):Int:=if neg then -n else n
theorem Co (neg:Bool) (q:Option Addr) (cap:Nat) (w:World) :
  Calls Tryz.prog 235 #[.bool neg,.slice q 0 cap] w fun e w'=>ZK w (fun v w'=>XT w' v 0) e w':=by
 go_enter Tryz.func235,Tryz.ntmps235
 go_wp2
 exact bodyPost_ret (v:=.agg #[.int .i64 0,.slice none 0 0]) (by simp [results,Tryz.results235,go_sem]) rfl ⟨_,rfl,XT.small _ (by decide) (by decide),(Ext.refl _).alloc _⟩
theorem Cn (neg:Bool) (b off cap:Nat) (x:Int) (w:World) (hc:w.cell? ⟨b,off,none⟩=some (.int .u64 x)) (h0:0≤x) (h1:x≤9223372036854775807) (hb:b<w.heap.size) :
  Calls Tryz.prog 235 #[.bool neg,.slice (some ⟨b,off,none⟩) 1 cap] w fun e w'=>ZK w (fun v w'=>XT w' v (sg neg x)) e w':=by
 cases neg
 ·go_enter Tryz.func235,Tryz.ntmps235
  go_wp2
  exact bodyPost_ret (v:=.agg #[.int .i64 x,.slice none 0 0]) (by simp [results,Tryz.results235,go_sem]) rfl ⟨_,rfl,XT.small _ (by omega) (by omega),(Ext.refl _).alloc _⟩
 ·go_enter Tryz.func235,Tryz.ntmps235
  go_wp2
  exact bodyPost_ret (v:=.agg #[.int .i64 (-x),.slice none 0 0]) (by simp [results,Tryz.results235,go_sem]) rfl ⟨_,rfl,XT.small _ (by omega) (by omega),(Ext.refl _).alloc _⟩
theorem LS (neg:Bool) (b off cap:Nat) (x:Int) (w:World) (hc:w.cell? ⟨b,off,none⟩=some (.int .u64 x)) (h1:9223372036854775808≤x) (hb:b<w.heap.size) :
  Calls Tryz.prog 235 #[.bool neg,.slice (some ⟨b,off,none⟩) 1 cap] w fun e w'=>e = .returned (.agg #[.int .i64 (if neg then -1 else 1),.slice (some ⟨b,off,none⟩) 1 cap])∧Ext w w':=by
 cases neg
 ·go_enter Tryz.func235,Tryz.ntmps235
  go_wp2
  exact bodyPost_ret (v:=.agg #[.int .i64 1,.slice (some ⟨b,off,none⟩) 1 cap]) (by simp [results,Tryz.results235,go_sem]) rfl ⟨rfl,(Ext.refl _).alloc _⟩
 ·go_enter Tryz.func235,Tryz.ntmps235
  go_wp2
  exact bodyPost_ret (v:=.agg #[.int .i64 (-1),.slice (some ⟨b,off,none⟩) 1 cap]) (by simp [results,Tryz.results235,go_sem]) rfl ⟨rfl,(Ext.refl _).alloc _⟩
theorem LR (neg:Bool) (q:Option Addr) (n cap:Nat) (w:World) (hn:2≤n) :
  Calls Tryz.prog 235 #[.bool neg,.slice q n cap] w fun e w'=>e = .returned (.agg #[.int .i64 (if neg then -1 else 1),.slice q n cap])∧Ext w w':=by
 cases neg
 ·go_enter Tryz.func235,Tryz.ntmps235
  go_wp2
  exact bodyPost_ret (v:=.agg #[.int .i64 1,.slice q n cap]) (by simp [results,Tryz.results235,go_sem]) rfl ⟨rfl,(Ext.refl _).alloc _⟩
 ·go_enter Tryz.func235,Tryz.ntmps235
  go_wp2
  exact bodyPost_ret (v:=.agg #[.int .i64 (-1),.slice q n cap]) (by simp [results,Tryz.results235,go_sem]) rfl ⟨rfl,(Ext.refl _).alloc _⟩
theorem VS (neg:Bool) (v:Value) (l:List Int) (w:World) (hs:SL w v Jd l) (hd:DG W l) (hn:NZ l) :
  Calls Tryz.prog 235 #[.bool neg,v] w fun e w'=>ZK w (fun v w'=>XT w' v (sg neg (dv W l))) e w':=by
 obtain ⟨q,cap,rfl,h2,h3,h4⟩:=hs
 match l,hd,hn,h2,h4 with
 |[],hd,hn,h2,h4=>exact(Co neg q cap w).mono fun e w' h=>by cases neg<;>exact h
 |[x],hd,hn,h2,h4 =>
  obtain ⟨b,off,rfl,hb,hc⟩:=h4 0 (by simp)
  have hx:=hd.head
  have e1:dv W [x]=x:=by simp
  rw [e1]
  by_cases hx1:x≤9223372036854775807
  ·exact Cn neg b off cap x w hc hx.1 hx1 hb.lt
  ·refine(LS neg b off cap x w hc (by omega) hb.lt).mono fun e w' ⟨h,k⟩=>⟨_,h,⟨_,_,_,_,rfl,.inr ⟨b,off,[x],rfl,rfl,h2,h3,h4.ext k,hd,hn,by simp,?_,?_,by rw [e1];omega⟩⟩,k⟩
   ·cases neg<;>simp
   ·cases neg<;>simp [sg]
 |x::y::l,hd,hn,h2,h4 =>
  obtain ⟨b,off,rfl,hb,hc⟩:=h4 0 (by simp)
  refine(LR neg _ _ cap w (by simp)).mono fun e w' ⟨h,k⟩=>⟨_,h,⟨_,_,_,_,rfl,.inr ⟨b,off,x::y::l,rfl,rfl,h2,h3,h4.ext k,hd,hn,by simp,?_,?_,?_⟩⟩,k⟩
  ·cases neg<;>simp
  ·cases neg<;>simp [sg]
  ·have:=B0 Jk hd hn (by simp)
   have h6:=KQ (b:=W) (by decide) (m:=1) (n:=(x::y::l).length - 1) (by simp)
   have h7:W^1=18446744073709551616:=by decide
   omega
theorem LF (s:Int) (b off n cap:Nat) (w:World) :
  Calls Tryz.prog 234 #[.agg #[.int .i64 s,.slice (some ⟨b,off,none⟩) n cap]] w fun e w'=>e = .returned (.tuple #[.bool (decide (s<0)),.slice (some ⟨b,off,none⟩) n cap])∧Ext w w':=by
 have hn:=fun w=>run_neq_slice_nil_any (P:=Tryz.prog) w 126 248 (some ⟨b,off,none⟩) n cap 0 0 Tryz.underlying126
 go_enter Tryz.func234,Tryz.ntmps234
 go_wp2
 go_quiet (fail)
 go_wp2
 go_ret2
 exact⟨rfl,((Ext.refl _).alloc _).drewN _⟩
theorem An (w:World) :
  Calls Tryz.prog 234 #[.agg #[.int .i64 0,.slice none 0 0]] w fun e w'=>e = .returned (.tuple #[.bool false,.slice none 0 0])∧Ext w w':=by
 have hn:=fun w=>run_neq_slice_nil_any (P:=Tryz.prog) w 126 248 none 0 0 0 0 Tryz.underlying126
 go_enter Tryz.func234,Tryz.ntmps234
 go_wp2
 go_ret2
 exact⟨rfl,(Ext.refl _).alloc _⟩
theorem It (n:Int) (h0 : -9223372036854775808≤n) (h:n<0):IntKind.u64.wrap (wrap64 (-n))=Jg n:=by
 rw [Bo h]
 have e:IntKind.u64.wrap (wrap64 (-n))=(wrap64 (-n))%18446744073709551616:=by simp [IntKind.wrap,IntKind.signed,IntKind.bits]
 rw [e];unfold wrap64;omega
theorem W9 (n:Int) (w:World) (h0 : -9223372036854775808≤n) (h1:n≤9223372036854775807) :
  Calls Tryz.prog 245 #[.int .i64 n] w fun e w'=>e = .returned (.int .u64 (Jg n))∧w=w':=by
 by_cases h:n<0
 ·have H:=Lib.hid (It n h0 h)
  go_enter Tryz.func245,Tryz.ntmps245
  go_wp2
  go_ret
  exact⟨congrArg (fun x=>Ending.returned (.int .u64 x)) H.out,rfl⟩
 ·have H:=Lib.hid (WI (z:=n) (by omega))
  go_enter Tryz.func245,Tryz.ntmps245
  go_wp2
  go_ret
  exact⟨congrArg (fun x=>Ending.returned (.int .u64 x)) H.out.symm,rfl⟩
theorem Tn (z:Int) (w:World) (hz:(z==0)=false) (h0 : -9223372036854775808≤z) (h1:z≤9223372036854775807) :
  Calls Tryz.prog 234 #[.agg #[.int .i64 z,.slice none 0 0]] w fun e w'=>(∃ b,e = .returned (.tuple #[.bool (decide (z<0)),.slice (some ⟨b,0,none⟩) 1 1])∧YI w' b 248 Jd [Jg z])∧Ext w w':=by
 have hn:=fun w=>run_neq_slice_nil_any (P:=Tryz.prog) w 126 248 none 0 0 0 0 Tryz.underlying126
 go_enter Tryz.func234,Tryz.ntmps234
 go_wp2
 go_region_held3 (fun w'=>w'.cell? ⟨w.heap.size,0,none⟩=some (.int .i64 z)) (go_keep) (first | (go_at_call 245;refine(W9 _ _ h0 h1).mono ?_;rintro e w' ⟨rfl,rfl⟩))
 go_wp2
 go_ret2
 exact⟨⟨_,rfl,(YI.vd _ _ 248 Jd [Jg z] _ rfl (by simp)).drew⟩,(((Ext.refl _).alloc _).alloc _).drew⟩
theorem Ye (v:Value) (z:Int) (w:World) (hv:XT w v z) :
  Calls Tryz.prog 234 #[v] w fun e w'=>ZK w (fun r w'=>∃ p l,r = .tuple #[.bool (decide (z<0)),p]∧SL w' p Jd l∧DG W l∧NZ l∧dv W l=Jg z) e w':=by
 obtain ⟨s,q,n,cap,rfl,hp⟩:=hv
 rcases hp with ⟨rfl,rfl,rfl,rfl,h0,h1⟩ | ⟨b,off,l,rfl,rfl,h3,h4,h5,h6,h7,h8,h9,h10,h11⟩
 ·by_cases hz:s=0
  ·subst hz
   exact(An w).mono fun e w' ⟨h,k⟩=>⟨_,h,⟨_,[],rfl,SL.nil _ _,DG.nil _,by simp [NZ],rfl⟩,k⟩
  ·refine(Tn s w (by simpa using hz) h0 h1).mono fun e w' ⟨⟨b,h,hb⟩,k⟩=>⟨_,h,⟨_,[Jg s],rfl,SL.GG hb 1 (Nat.le_refl _) (by simp),?_,?_,by simp⟩,k⟩
   ·have:Jg s=s.natAbs:=KM s
    have:=Wo
    exact DG.cons (by omega) (by omega) (DG.nil _)
   ·have:Jg s=s.natAbs:=KM s
    simp [NZ];omega
 ·have hz:decide (s<0)=decide (z<0)∧dv W l=Jg z:=by
   rcases h9 with rfl | rfl
   ·rw [Int.one_mul] at h10;rw [WI (by omega)];exact⟨by simp;omega,h10.symm⟩
   ·have:z = -dv W l:=by rw [h10];omega
    rw [Bo (by omega)];exact⟨by simp;omega,by omega⟩
  refine(LF s b off _ cap w).mono fun e w' ⟨h,k⟩=>⟨_,h,⟨_,l,by rw [hz.1],⟨_,_,rfl,h3,h4,h5.ext k⟩,h6,h7,hz.2⟩,k⟩
theorem Ni {l:List Int} {k:Nat} (h:k<l.length):l.getD k default=l[k]:=by simp [List.getD,h]
theorem KN (v:Value) (l:List Int) (w:World) (hs:SL w v Jd l) :
  Calls Tryz.prog 283 #[v] w fun e w'=>(∃ v',e = .returned v'∧SL w v' Jd (Q2 l))∧w=w':=by
 obtain ⟨q,cap,rfl,hcap,hmax,hc⟩:=hs
 have HC:=Lib.hid hc;clear hc
 go_enter Tryz.func283,Tryz.ntmps283
 go_wp2
 go_loop [3] (fun n=>∃ k:Nat,k≤l.length∧n = .int .i64 k∧Q2 l=Q2 (l.take k)) (fun n=>(intOf n).toNat)
 case atStart=>exact⟨l.length,Nat.le_refl _,rfl,by rw [List.take_length]⟩
 case round =>
  obtain ⟨k,hk,rfl,he⟩:=hrel
  have HE:=Lib.hid he;clear he
  cases k with
  |zero =>
   go_wp2
   go_ret
   exact⟨⟨_,rfl,by rw [HE.out];exact⟨q,cap,rfl,by simp [Q2],hmax,fun i hi=>by simp [Q2] at hi⟩⟩,rfl⟩
  |succ k =>
   obtain ⟨b,off,rfl,hb,hc⟩:=HC.out k (by omega)
   simp only [Jd] at hc
   have HT:=Lib.hid (V6 l k (by omega))
   rw [Ni (by omega)] at hc
   generalize hx:l[k]=x at hc
   have HX:=Lib.hid hx;clear hx
   by_cases h0:x=0
   ·have h1:(x==0)=true:=by simp [h0]
    go_wp2
    go_round
    case rel=>exact⟨k,by omega,rfl,by rw [HE.out,HT.out,HX.out,h0,YQ]⟩
    case measure=>simp [intOf]
   ·have h1:(x==0)=false:=by simp [h0]
    go_wp2
    go_ret
    have e1:Q2 l=l.take (k+1):=by rw [HE.out,HT.out,HX.out,VH _ h0,← HX.out,← HT.out]
    exact⟨⟨_,rfl,by rw [e1];exact⟨_,cap,by rw [List.length_take,Nat.min_eq_left (by omega)];rfl,by rw [List.length_take];omega,hmax,HC.out.take _⟩⟩,rfl⟩
end
section
open Go.RowKit Ig
def sz (z:Int):Nat:=if z=0 then 0 else z.natAbs.log2+1
theorem HK (z:Int):z.natAbs<2^sz z:=by
 unfold sz;split
 ·simp [*]
 ·exact Nat.lt_log2_self
theorem Xx (z:Int) (k:Nat):sz z≤k↔z.natAbs<2^k:=by
 constructor
 ·intro h;exact Nat.lt_of_lt_of_le (HK z) (Nat.pow_le_pow_right (by decide) h)
 ·intro h;unfold sz;split
  ·exact Nat.zero_le _
  ·rename_i hz
   have:z.natAbs.log2<k:=(Nat.log2_lt (by omega)).2 h
   omega
theorem Zm (a b:Int):sz (a*b)≤sz a+sz b:=by
 rw [Xx,Int.natAbs_mul,Nat.pow_add]
 have h1:=HK a;have h2:=HK b
 calc a.natAbs*b.natAbs≤a.natAbs*2^sz b:=Nat.mul_le_mul_left _ (Nat.le_of_lt h2)
  _<2^sz a*2^sz b:=Nat.mul_lt_mul_of_pos_right h1 (Nat.pow_pos (by decide))
theorem Mv (a b:Int):sz (a+b)≤max (sz a) (sz b)+1:=by
 rw [Xx,Nat.pow_succ]
 have h1:=(Xx a (max (sz a) (sz b))).1 (Nat.le_max_left _ _)
 have h2:=(Xx b (max (sz a) (sz b))).1 (Nat.le_max_right _ _)
 omega
theorem KO {a b:Int} (h:a.natAbs≤b.natAbs):sz a≤sz b:=by
 rw [Xx];exact Nat.lt_of_le_of_lt h (HK b)
theorem YF (a:Int):sz (-a)=sz a:=by unfold sz;simp
theorem E2 (a:Int):sz (Jg a)=sz a:=by unfold Jg;split<;>simp [YF]
theorem yA {l:List Int} (h:DG W l) (hn:NZ l):l.length≤sz (dv W l):=by
 by_cases hl:l=[]
 ·subst hl;simp
 ·have h1:=B0 Jk h hn hl
  have h2:=HK (dv W l)
  have h0:=Qx Jk h
  have h3:(2:Int)^(l.length - 1)≤W^(l.length - 1):=by
   generalize l.length - 1=k
   induction k with
   |zero=>simp
   |succ k ih=>rw [Int.pow_succ,Int.pow_succ];exact Int.mul_le_mul ih (by decide) (by decide) (Int.le_of_lt (pow_pos Jk k))
  have h4:(2:Int)^(l.length - 1)<2^sz (dv W l):=by
   have:((dv W l).natAbs:Int)<((2^sz (dv W l):Nat):Int):=by omega
   rw [Int.natCast_pow] at this
   have e:((dv W l).natAbs:Int)=dv W l:=by omega
   rw [e] at this
   have e2:((2:Nat):Int)=2:=rfl
   rw [e2] at this;omega
  have h5:2^(l.length - 1)<2^sz (dv W l):=by
   have:((2^(l.length - 1):Nat):Int)<((2^sz (dv W l):Nat):Int):=by
    rw [Int.natCast_pow,Int.natCast_pow];exact h4
   omega
  have:=(Nat.pow_lt_pow_iff_right (by decide:1<2)).1 h5
  omega
theorem TN (v:Value) (z:Int) (w:World) (hv:XT w v z) :
  Calls Tryz.prog 171 #[v] w fun e w'=>e = .returned (.int .i64 (Eg z))∧Ext w w':=by
 obtain ⟨s,q,n,cap,rfl,hp⟩:=hv
 have hs:Eg z=if s<0 then -1 else if s=0 then 0 else 1:=by
  rcases hp with ⟨_,_,_,rfl,_⟩ | ⟨b,off,l,_,_,_,_,_,_,_,_,h,hz,hb⟩
  ·rfl
  ·unfold Eg;rcases h with rfl | rfl
   ·rw [Int.one_mul] at hz;rw [if_neg (by omega),if_neg (by omega)];rfl
   ·rw [if_pos (by omega)];rfl
 have HS:=Lib.hid hs
 clear hs hp
 rcases Int.lt_trichotomy s 0 with g | g | g
 all_goals
  go_enter Tryz.func171,Tryz.ntmps171
  go_wp2
  go_ret
  exact⟨by rw [HS.out];simp [g]<;>omega,(Ext.refl _).alloc _⟩
theorem YZ.isNone {w:World} {s:Int} {q:Option Addr} {n cap:Nat} {z:Int} (h:YZ w s q n cap z) :
  (q=none∧n=0∧cap=0∧s=z∧-9223372036854775808≤z∧z≤9223372036854775807)∨(∃ b off,q=some ⟨b,off,none⟩):=by
 rcases h with h | ⟨b,off,_,h,_⟩
 ·exact .inl h
 ·exact .inr ⟨b,off,h⟩
abbrev IZ:Array Value:=#[.int .i64 0,.slice none 0 0]
theorem LN (s:Int) (w:World) (h0 : -9223372036854775807≤s) (h1:s≤9223372036854775807) :
  Calls Tryz.prog 172 #[.agg #[.int .i64 s,.slice none 0 0]] w fun e w'=>e = .returned (.agg #[.int .i64 (-s),.slice none 0 0])∧Ext w w':=by
 have hn:=fun w=>Lib.run_eql_slice_nil (P:=Tryz.prog) w 126 248 none 0 0 0 0 Tryz.underlying126
 have hm':(s != -9223372036854775808)=true:=by simp;omega
 go_enter Tryz.func172,Tryz.ntmps172
 go_wp2
 exact bodyPost_ret (v:=.agg #[.int .i64 (-s),.slice none 0 0]) (by simp [results,Tryz.results172,go_sem]) rfl ⟨rfl,((Ext.refl _).alloc _).alloc _⟩
theorem YZ.kp {w w':World} (h:Kp w w') {s:Int} {q:Option Addr} {n cap:Nat} {z:Int} (hv:YZ w s q n cap z):YZ w' s q n cap z:=by
 rcases hv with hv | ⟨b,off,l,h1,h2,h3,h4,h5,h6⟩
 ·exact .inl hv
 ·exact .inr ⟨b,off,l,h1,h2,h3,h4,h5.kp h (by decide),h6⟩
theorem Tx:¬ DT 128:=by decide
theorem Bx.G2 {w:World} {R T:Nat} {c0 c1:Value} (h:Bx w R T [c0,c1]) (v0 v1:Value):Bx ((w.setCell ⟨R,0,none⟩ v0).setCell ⟨R,1,none⟩ v1) R T [v0,v1]:=by
 have:=(h.set 0 v0).set 1 v1;simpa using this
theorem Kp.G2 {a w:World} (h:Kp a w) {R T:Nat} (hT:Kd w R T) (hD:¬ DT T) (v0 v1:Value):Kp a ((w.setCell ⟨R,0,none⟩ v0).setCell ⟨R,1,none⟩ v1) :=
 (h.set hT hD 0 v0).set (hT.set _ _ _) hD 1 v1
theorem P8 (s:Int) (q:Option Addr) (n cap:Nat) (z:Int) (w:World) (hv:YZ w s q n cap z) (hq:q.isNone=false∨(s != -9223372036854775808)=false) :
  Calls Tryz.prog 172 #[.agg #[.int .i64 s,.slice q n cap]] w fun e w'=>ZK w (fun v w'=>XT w' v (-z)) e w':=by
 have hn:=fun w=>Lib.run_eql_slice_nil (P:=Tryz.prog) w 126 248 q n cap 0 0 Tryz.underlying126
 have hz0:Hid (sg (!decide (z<0)) (Jg z) = -z):=by
  show sg (!decide (z<0)) (Jg z) = -z
  unfold sg Jg;by_cases h:z<0<;>simp [h]
 have HV:Hid (XT w (.agg #[.int .i64 s,.slice q n cap]) z):=⟨_,_,_,_,rfl,hv⟩
 have hB:Bx ((w.alloc (.cells #[.int .i64 s,.slice q n cap] 128)).alloc (.cells IZ 128)) (w.heap.size+1) 128 IZ.toList:=by
  have:=Bx.new (w.alloc (.cells #[.int .i64 s,.slice q n cap] 128)) 128 IZ
  simpa using this
 have HB:=Lib.hid hB
 clear hB hv
 cases hqn:q.isNone
 all_goals
  rw [hqn] at hq
  simp only [reduceCtorEq,true_or,false_or] at hq
  rw [hqn] at hn
  clear hqn
  go_enter Tryz.func172,Tryz.ntmps172
  go_wp2_with fail
  refine(Ye _ z _ (HV.out.ext (((Ext.refl _).alloc _).alloc _))).mono ?_
  rintro e w1 ⟨_,rfl,⟨p,l,rfl,hsl,hd,hnz,hval⟩,hx⟩
  go_wp2_with fail
  refine(VS _ p l _ hsl hd hnz).mono ?_
  rw [hval,hz0.out]
  rintro e w2 ⟨_,rfl,⟨s',q',n',cap',rfl,hp'⟩,hx2⟩
  have hB2:=(HB.out.ext hx).ext hx2
  obtain ⟨c0,c1,f0,f1⟩:=hB2.two
  have HB2:=Lib.hid hB2
  clear hval hB2
  go_wp2
  refine bodyPost_ret (v:=.agg #[.int .i64 s',.slice q' n' cap']) (by simp [results,Tryz.results172,go_sem,c0,c1]) rfl ⟨_,rfl,⟨_,_,_,_,rfl,hp'.kp ((Kp.refl _).G2 HB2.out.Nf Tx _ _)⟩,?_⟩
  exact((((((Ext.refl w).alloc _).alloc _).trans hx).trans hx2).Xn (by simp) _).Xn (by simp) _
theorem SA (v:Value) (z:Int) (w:World) (hv:XT w v z) :
  Calls Tryz.prog 172 #[v] w fun e w'=>ZK w (fun v w'=>XT w' v (-z)) e w':=by
 obtain ⟨s,q,n,cap,rfl,hp⟩:=hv
 rcases hp.isNone with ⟨rfl,rfl,rfl,rfl,h0,h1⟩ | ⟨b,off,rfl⟩
 ·by_cases hm:s = -9223372036854775808
  ·exact P8 _ _ _ _ _ w hp (.inr (by simpa using hm))
  ·exact(LN s w (by omega) h1).mono fun e w' ⟨he,hx⟩=>⟨_,he,XT.small _ (by omega) (by omega),hx⟩
 ·exact P8 _ _ _ _ _ w hp (.inl rfl)
end
end Go.Proofs.YtknegjaeoffnbaaGreatDoor
namespace Ig
def Qf (l:List Int) (k:Nat):Int:=if h:k<l.length then l[k] else 0
theorem ZR {l:List Int} {k:Nat} (h:k<l.length):Qf l k=l[k]:=dif_pos h
theorem H4 {l:List Int} {k:Nat} (h:l.length≤k):Qf l k=0:=dif_neg (by omega)
theorem DG.Qf {b:Int} (hb:0<b) {l:List Int} (h:DG b l) (k:Nat):0≤Qf l k∧Qf l k<b:=by
 unfold Ig.Qf;split
 ·exact h _ (List.getElem_mem _)
 ·exact⟨Int.le_refl _,hb⟩
theorem VU (b:Int) (l:List Int) (k:Nat):dv b (l.take (k+1))=dv b (l.take k)+b^k*Qf l k:=by
 by_cases h:k<l.length
 ·rw [ZR h,Wg b l k h]
 ·rw [H4 (by omega),List.take_of_length_le (by omega),List.take_of_length_le (by omega)];simp
theorem Vs {l:List Int} {p:Nat} (h:p<l.length) (v:Int) (r:Nat):Qf (l.set p v) r=if r=p then v else Qf l r:=by
 unfold Qf
 by_cases hr:r<l.length
 ·rw [dif_pos (by simpa using hr),dif_pos hr,List.getElem_set]
  by_cases e:p=r
  ·subst e;simp
  ·rw [if_neg e,if_neg (fun e'=>e e'.symm)]
 ·rw [dif_neg (by simpa using hr),dif_neg hr,if_neg (by omega)]
theorem GL (b:Int) {l:List Int} {p:Nat} (h:p<l.length) (v:Int):dv b (l.set p v)=dv b l+b^p*(v - Qf l p):=by
 have h1:=KV b (l.set p v) (p+1) (by simp;omega)
 have h2:=KV b l (p+1) (by omega)
 have e1:(l.set p v).drop (p+1)=l.drop (p+1):=by rw [List.drop_set_of_lt (by omega)]
 have e2:(l.set p v).take (p+1)=l.take p++[v]:=by
  rw [V6 _ _ (by simpa using h)];simp [List.take_set_of_le]
 rw [h1,h2,e1,e2,XV,Wg b l p h,ZR h,List.length_take,Nat.min_eq_left (by omega)]
 grind
theorem J8 {l:List Int} {k:Nat} (h:k<l.length):l.drop k=Qf l k::l.drop (k+1):=by rw [List.drop_eq_getElem_cons h,ZR h]
theorem UI {D V2 v' U3 u' t:Int} (hD:0<D) (hv1:v'<D) (hu0:0≤u')
  (ht0:0≤t) (ht:t*V2≤U3) (htv:t≤V2) (_hv0:0≤v'):(t - 1)*(V2*D+v')≤U3*D+u':=by
 have h1:t*V2*D≤U3*D:=Int.mul_le_mul_of_nonneg_right ht (by omega)
 have h2:t*v'≤t*D:=Int.mul_le_mul_of_nonneg_left (by omega) ht0
 have h3:t*D≤V2*D:=Int.mul_le_mul_of_nonneg_right htv (by omega)
 have e:(t - 1)*(V2*D+v')=t*V2*D+t*v' - V2*D - v':=by grind
 omega
theorem Na {D V2 v' U3 u' t:Int} (hv0:0≤v') (hu1:u'<D) (hD:0<D)
  (ht0:0≤t) (ht:U3<t*V2):U3*D+u'<t*(V2*D+v'):=by
 have h1:(U3+1)*D≤t*V2*D:=Int.mul_le_mul_of_nonneg_right (by omega) (by omega)
 have h2:0≤t*v':=Int.mul_nonneg ht0 hv0
 have e:t*(V2*D+v')=t*V2*D+t*v':=by grind
 have e2:(U3+1)*D=U3*D+D:=by grind
 omega
theorem Xz {u v q:Int} (hv:0<v) (h1:q*v≤u) (h2:u<(q+1)*v):u / v=q:=by
 have e:(q+1)*v=q*v+v:=by grind
 have:u=(u - q*v)+q*v:=by omega
 rw [this,Int.add_mul_ediv_right _ _ (by omega),Int.ediv_eq_zero_of_lt (by omega) (by omega)];omega
theorem Zk {u v q:Int} (h1:q*v≤u) (h2:u<(q+1)*v):u%v=u - q*v:=by
 have e:(q+1)*v=q*v+v:=by grind
 have:u=(u - q*v)+q*v:=by omega
 rw [this,Int.add_mul_emod_self_right,Int.emod_eq_of_lt (by omega) (by omega)];omega
section
variable {b:Int} (hb:1<b)
include hb
theorem Z2 {l:List Int} {n:Nat} (hl:DG b l) (h:l.length=n+3) :
  dv b l=((Qf l (n+2)*b+Qf l (n+1))*b+Qf l n)*b^n+dv b (l.take n)∧0≤dv b (l.take n)∧dv b (l.take n)<b^n:=by
 have h1:=VU b l n
 have h2:=VU b l (n+1)
 have h3:=VU b l (n+2)
 rw [List.take_of_length_le (by omega:l.length≤n+2+1)] at h3
 have h4:=Z4 (by omega) (hl.take n)
 rw [List.length_take,Nat.min_eq_left (by omega)] at h4
 refine⟨?_,Qx (by omega) (hl.take n),h4⟩
 rw [h3,h2,h1,Int.pow_succ,Int.pow_succ];grind
theorem KD {l:List Int} {n:Nat} (hl:DG b l) (h:l.length=n+2) :
  dv b l=(Qf l (n+1)*b+Qf l n)*b^n+dv b (l.take n)∧0≤dv b (l.take n)∧dv b (l.take n)<b^n:=by
 have h1:=VU b l n
 have h2:=VU b l (n+1)
 rw [List.take_of_length_le (by omega:l.length≤n+1+1)] at h2
 have h4:=Z4 (by omega) (hl.take n)
 rw [List.length_take,Nat.min_eq_left (by omega)] at h4
 refine⟨?_,Qx (by omega) (hl.take n),h4⟩
 rw [h2,h1,Int.pow_succ];grind
omit hb
structure Vc (b:Int) (u v:List Int) (n:Nat):Prop where
 hu:DG b u
 hv:DG b v
 lu:u.length=n+3
 lv:v.length=n+2
 nz:0<Qf v (n+1)
 lt:dv b u<b*dv b v
include hb
theorem Vc.top {u v:List Int} {n:Nat} (h:Vc b u v n):Qf u (n+2)≤Qf v (n+1):=by
 obtain ⟨a1,a2,a3⟩:=Z2 hb h.hu h.lu
 obtain ⟨b1,b2,b3⟩:=KD hb h.hv h.lv
 have hlt:=h.lt
 have hb0:0<b:=by omega
 have d1:=h.hu.Qf hb0 n
 have d2:=h.hu.Qf hb0 (n+1)
 have d3:=h.hv.Qf hb0 n
 have hp:=pow_pos hb0 n
 refine Int.not_lt.1 fun hc=>?_
 have e1:(Qf v (n+1)+1)*(b*b*b^n)≤Qf u (n+2)*(b*b*b^n):=Int.mul_le_mul_of_nonneg_right (by omega) (Int.mul_nonneg (Int.mul_nonneg (by omega) (by omega)) (by omega))
 have e2:0≤Qf u (n+1)*(b*b^n):=Int.mul_nonneg d2.1 (Int.mul_nonneg (by omega) (by omega))
 have e3:0≤Qf u n*b^n:=Int.mul_nonneg d1.1 (by omega)
 have e4:(Qf v n+1)*b^n≤b*b^n:=Int.mul_le_mul_of_nonneg_right (by omega) (by omega)
 have e5:b*((Qf v n+1)*b^n)≤b*(b*b^n):=Int.mul_le_mul_of_nonneg_left e4 (by omega)
 have e6:b*dv b (v.take n)≤b*b^n:=Int.mul_le_mul_of_nonneg_left (by omega) (by omega)
 have e7:b*(dv b (v.take n)+1)≤b*b^n:=Int.mul_le_mul_of_nonneg_left (by omega) (by omega)
 rw [a1,b1] at hlt
 generalize b^n=D at *
 generalize dv b (v.take n)=v' at *
 generalize dv b (u.take n)=u' at *
 generalize Qf u (n+2)=u0 at *
 generalize Qf u (n+1)=u1 at *
 generalize Qf u n=u2 at *
 generalize Qf v (n+1)=v1 at *
 generalize Qf v n=v2 at *
 grind
end
end Ig
namespace Go.Proofs.YtknegjaeoffnbaaGreatDoor
section
open Go.RowKit Ig
def XD (x y c:Int):Int:=(x+y+c)%W
def Xe (x y c:Int):Int:=(x+y+c) / W
def ZJ (x y c:Int):Int:=(x - y - c)%W
def Ks (x y c:Int):Int:=if x<y+c then 1 else 0
theorem Wn {x y c:Int} (hx:0≤x∧x<W) (hy:0≤y∧y<W) (hc:0≤c∧c≤1) :
  XD x y c+W*Xe x y c=x+y+c∧(0≤XD x y c∧XD x y c<W)∧0≤Xe x y c∧Xe x y c≤1:=by
 unfold XD Xe;simp only [Wo] at *;omega
theorem BL {x y c:Int} (hx:0≤x∧x<W) (hy:0≤y∧y<W) (hc:0≤c∧c≤1) :
  ZJ x y c - W*Ks x y c=x - y - c∧(0≤ZJ x y c∧ZJ x y c<W)∧0≤Ks x y c∧Ks x y c≤1:=by
 unfold ZJ Ks;simp only [Wo] at *;split<;>omega
theorem Yc (x y c:Int) (hx:0≤x) (hy:0≤y) (hc:0≤c) (hc1:c≤1) (w:World) :
  (callFunc 282 #[.int .u64 x,.int .u64 y,.int .u64 c]).run Tryz.prog w = .ok (.value (.tuple #[.int .u64 (XD x y c),.int .u64 (Xe x y c)])) w:=by
 rw [run_callFunc_extern (fn:=Tryz.f282) (by kernel_rfl) (by kernel_rfl) (by kernel_rfl) (by kernel_rfl) (e:=add64Entry) (by kernel_rfl),run_add64 x y c hx hy hc hc1]
 rfl
def Mx:Array Value→Sem Value:=fun args=>do
 let (x,y,b) ← Extern.MathBitsCarry.three "Sub64" args
 pure (Extern.MathBitsCarry.pair ((x+Extern.MathBitsCarry.m64 - y - b)%Extern.MathBitsCarry.m64) (if x<y+b then 1 else 0))
theorem I2 (x y b:Nat) (hb:b≤1) (w:World) :
  (Mx #[.int .u64 x,.int .u64 y,.int .u64 b]).run Tryz.prog w =
   .ok (.tuple #[.int .u64 (((x+18446744073709551616 - y - b)%18446744073709551616:Nat):Int),.int .u64 ((if x<y+b then 1 else 0:Nat):Int)]) w:=by
 have:b=0∨b=1:=by omega
 rcases this with rfl | rfl<;>rfl
theorem Gf (x y c:Int) (hx:0≤x∧x<W) (hy:0≤y∧y<W) (hc:0≤c∧c≤1) (w:World) :
  (callFunc 289 #[.int .u64 x,.int .u64 y,.int .u64 c]).run Tryz.prog w = .ok (.value (.tuple #[.int .u64 (ZJ x y c),.int .u64 (Ks x y c)])) w:=by
 obtain ⟨x,rfl⟩:=Int.eq_ofNat_of_zero_le hx.1
 obtain ⟨y,rfl⟩:=Int.eq_ofNat_of_zero_le hy.1
 obtain ⟨c,rfl⟩:=Int.eq_ofNat_of_zero_le hc.1
 rw [run_callFunc_extern (fn:=Tryz.f289) (by kernel_rfl) (by kernel_rfl) (by kernel_rfl) (by kernel_rfl) (e:=Mx) (by kernel_rfl),I2 x y c (by omega)]
 simp only [Result.andThen,ZJ,Ks,Wo] at *
 have e1:(((x+18446744073709551616 - y - c)%18446744073709551616:Nat):Int)=((x:Int) - y - c)%18446744073709551616:=by omega
 have e2:((if x<y+c then 1 else 0:Nat):Int)=if(x:Int)<y+c then 1 else 0:=by split<;>split<;>omega
 rw [e1,e2]
theorem Mz {α:Type} (ds:List α) (z x:α) (m:Nat):(ds++List.replicate (m+1) z).set ds.length x=(ds++[x])++List.replicate m z:=by
 rw [List.set_append_right _ _ (Nat.le_refl _),Nat.sub_self,List.replicate_succ,List.set_cons_zero,List.append_assoc];rfl
theorem Dm {α:Type} [Inhabited α] (ds:List α) (z:α) (m k:Nat) (hk:k=ds.length):(ds++List.replicate (m+1) z).getD k default=z:=by
 subst hk;simp [List.getD,List.replicate_succ]
theorem Jb {l:List Int} (h:DG W l) (k:Nat):0≤Qf l k∧Qf l k<W:=h.Qf Jk k
theorem J3 (l:List Int) (k:Nat):dv W (l.take (k+1))=dv W (l.take k)+W^k*Qf l k:=VU W l k
theorem Zh {l:List Int} {k:Nat} (h:k<l.length):l.getD k default=Qf l k:=by rw [Ni h,ZR h]
def D7 (lx ly:List Int) (k:Nat) (ds:List Int) (c:Int):Prop :=
 ds.length=k∧DG W ds∧(0≤c∧c≤1)∧dv W ds+W^k*c=dv W (lx.take k)+dv W (ly.take k)
theorem D7.step {lx ly ds:List Int} {k:Nat} {c:Int} (h:D7 lx ly k ds c) (hx:DG W lx) (hy:DG W ly) :
  D7 lx ly (k+1) (ds++[XD (Qf lx k) (Qf ly k) c]) (Xe (Qf lx k) (Qf ly k) c):=by
 obtain ⟨h1,h2,h3,h4⟩:=h
 obtain ⟨a1,a2,a3⟩:=Wn (Jb hx k) (Jb hy k) h3
 refine⟨by simp [h1],h2.append (DG.cons a2.1 a2.2 (DG.nil _)),a3,?_⟩
 rw [XV,h1,J3,J3,Int.pow_succ]
 generalize W^k=p at *
 generalize XD (Qf lx k) (Qf ly k) c=lo at *
 generalize Xe (Qf lx k) (Qf ly k) c=hi at *
 generalize Qf lx k=a at *
 generalize Qf ly k=b at *
 have e:p*(lo+W*hi)=p*(a+b+c):=by rw [a1]
 grind
def Sq (lx ly:List Int) (k:Nat) (ds:List Int) (c:Int):Prop :=
 ds.length=k∧DG W ds∧(0≤c∧c≤1)∧dv W ds - W^k*c=dv W (lx.take k) - dv W (ly.take k)
theorem Sq.step {lx ly ds:List Int} {k:Nat} {c:Int} (h:Sq lx ly k ds c) (hx:DG W lx) (hy:DG W ly) :
  Sq lx ly (k+1) (ds++[ZJ (Qf lx k) (Qf ly k) c]) (Ks (Qf lx k) (Qf ly k) c):=by
 obtain ⟨h1,h2,h3,h4⟩:=h
 obtain ⟨a1,a2,a3⟩:=BL (Jb hx k) (Jb hy k) h3
 refine⟨by simp [h1],h2.append (DG.cons a2.1 a2.2 (DG.nil _)),a3,?_⟩
 rw [XV,h1,J3,J3,Int.pow_succ]
 generalize W^k=p at *
 generalize ZJ (Qf lx k) (Qf ly k) c=lo at *
 generalize Ks (Qf lx k) (Qf ly k) c=hi at *
 generalize Qf lx k=a at *
 generalize Qf ly k=b at *
 have e:p*(lo - W*hi)=p*(a - b - c):=by rw [a1]
 grind
theorem Tryz.jn:(Tryz.prog.info? 248).map (fun i=>(i.zero,i.size,i.bytes))=some (some (.int .u64 0),1,8):=by kernel_rfl
theorem Z7 (n:Nat) (hn:n≤1000000000000) (w:World) :
  (Instr.makeSlice 126 (.int .i64 (n:Int)) (.int .i64 (n:Int))).run Tryz.prog w = .ok (.slice (some ⟨w.heap.size,0,none⟩) n n) (w.alloc (.cells (madeCells #[.int .u64 0] n) 248)):=by
 obtain ⟨i0,hi,hz0,hz1,hz2⟩:=info_parts Tryz.jn
 have:=run_make (P:=Tryz.prog) w 126 248 i0 (.int .u64 0) Tryz.underlying126 hi hz0 .i64 .i64 n n (by omega) (by omega) (by rw [hz2];omega) (by omega)
 rw [this,hz1];simp [Value.cells]
end
section
open Go.RowKit Ig
theorem Hg (sw:Bool) (q q':Option Addr) (cap cap':Nat) (lx ly:List Int) (w:World) (hx:DG W lx) (hy:DG W ly) (hcx:Cells w q Jd lx) (hcy:Cells w q' Jd ly) (hlen:lx.length≤100000000000) (hle:ly.length≤lx.length) (hsw:sw=true→ly.length<lx.length) :
  Calls Tryz.prog 254 (if sw then #[.slice q' ly.length cap',.slice q lx.length cap] else #[.slice q lx.length cap,.slice q' ly.length cap']) w fun e w' =>
   ZK w (fun v w'=>∃ l,SL w' v Jd l∧DG W l∧NZ l∧dv W l=dv W lx+dv W ly) e w':=by
 have HX:=Lib.hid hcx;clear hcx
 have HY:=Lib.hid hcy;clear hcy
 have hmk:=fun w=>Z7 (lx.length+1) (by omega) w
 have ec:((lx.length+1:Nat):Int)=(lx.length:Int)+1:=by omega
 simp only [ec] at hmk
 cases sw
 all_goals
  simp only [Bool.false_eq_true,if_false,if_true,forall_const,false_implies] at hsw ⊢
  go_enter Tryz.func254,Tryz.ntmps254
  go_wp2
  go_loopw [22,6] (fun i c wr=>∃ (k:Nat) (ds:List Int) (cc:Int),k≤lx.length∧i = .int .i64 k∧c = .int .u64 cc∧D7 lx ly k ds cc∧YI wr w.heap.size 248 Jd (ds++List.replicate (lx.length+1 - k) 0)∧Ext w wr)
   (fun i _ _=>lx.length - (intOf i).toNat)
  case atStart=>exact⟨0,[],0,Nat.zero_le _,rfl,rfl,⟨rfl,DG.nil _,by decide,by simp⟩,YI.made w _ Jd 0 _ _ rfl,(Ext.refl _).alloc _⟩
  case round =>
   obtain ⟨k,ds,cc,hk,rfl,rfl,hI,hB,hE⟩:=hrel
   have hst:=hI.step hx hy
   obtain ⟨hd1,hd2,hd3,hd4⟩:=hI
   have hd1':=Lib.hid hd1;clear hd1
   have hd4':=Lib.hid hd4;clear hd4
   by_cases hlt:k<lx.length
   ·obtain ⟨b,off,rfl,hb,hc⟩:=HX.out k hlt
    rw [Zh hlt] at hc
    have hc:=hE.cell hc
    simp only [Jd] at hc
    have e1:lx.length+1 - k=(lx.length - k)+1:=by omega
    rw [e1] at hB
    have hcell:=hB.cell (i:=k) (by simp [hd1'.out])
    rw [Dm _ _ _ _ hd1'.out.symm] at hcell
    simp only [Jd] at hcell
    have hfr:=hB.frozen k
    have hBs:=hB.set k (XD (Qf lx k) (Qf ly k) cc)
    rw [← hd1'.out,Mz,hd1'.out] at hBs
    have HB:=Lib.hid hB;clear hB
    have HBs:=Lib.hid hBs;clear hBs
    have HS:=Lib.hid hst;clear hst
    have hx0:=(Jb hx k).1
    have hy0:=(Jb hy k).1
    by_cases hlt2:k<ly.length
    ·obtain ⟨b2,off2,rfl,hb2,hc2⟩:=HY.out k hlt2
     rw [Zh hlt2] at hc2
     have hc2:=hE.cell hc2
     simp only [Jd] at hc2
     have ha:=fun w=>Yc (Qf lx k) (Qf ly k) cc hx0 hy0 hd3.1 hd3.2 w
     go_wp2
     go_roundw
     case rel=>exact⟨k+1,_,_,by omega,by go_num,rfl,HS.out,by rw [show lx.length+1 - (k+1)=lx.length - k from by omega];exact HBs.out,Below.setCell hE (by simp) _⟩
     case measure=>simp [intOf];omega
    ·have H0:=Lib.hid (H4 (l:=ly) (k:=k) (by omega))
     have ha:=fun w=>Yc (Qf lx k) 0 cc hx0 (Int.le_refl _) hd3.1 hd3.2 w
     go_wp2
     go_roundw
     case rel=>exact⟨k+1,_,_,by omega,by go_num,rfl,by have:=HS.out;rw [H0.out] at this;exact this,by rw [show lx.length+1 - (k+1)=lx.length - k from by omega];have:=HBs.out;rw [H0.out] at this;exact this,Below.setCell hE (by simp) _⟩
     case measure=>simp [intOf];omega
   ·have hk':k=lx.length:=by omega
    subst hk'
    have e1:lx.length+1 - lx.length=0+1:=by omega
    rw [e1] at hB
    have hcell:=hB.cell (i:=lx.length) (by simp [hd1'.out])
    rw [Dm _ _ _ _ hd1'.out.symm] at hcell
    simp only [Jd] at hcell
    have hfr:=hB.frozen lx.length
    have hBs:=hB.set lx.length cc
    rw [← hd1'.out,Mz,hd1'.out] at hBs
    simp only [List.replicate_zero,List.append_nil] at hBs
    have hSL:=SL.GG hBs (lx.length+1) (by simp [hd1'.out]) (by simp [hd1'.out];omega)
    have el:(ds++[cc]).length=lx.length+1:=by simp [hd1'.out]
    rw [List.take_of_length_le (by omega),el] at hSL
    have hEs:Ext w _:=Below.setCell hE (p:=⟨w.heap.size,lx.length,none⟩) (by simp) (Jd cc)
    have hfin:DG W (ds++[cc])∧dv W (ds++[cc])=dv W lx+dv W ly:=by
     refine⟨hd2.append (DG.cons hd3.1 (by have:=Wo;omega) (DG.nil _)),?_⟩
     rw [XV,hd1'.out,hd4'.out,List.take_of_length_le (Nat.le_refl _),List.take_of_length_le hle]
    have HB:=Lib.hid hB;clear hB
    have HBs:=Lib.hid hBs;clear hBs
    have HSL:=Lib.hid hSL;clear hSL
    have HF:=Lib.hid hfin;clear hfin
    have HES:=Lib.hid hEs;clear hEs
    clear el e1 hst
    go_wp2_with (go_at_call 283;refine(KN _ _ _ HSL.out).mono ?_;rintro e w' ⟨⟨v',rfl,hv⟩,rfl⟩)
    go_ret
    exact⟨_,rfl,⟨_,hv,HF.out.1.Q2,Xf _,by rw [J7,HF.out.2]⟩,HES.out⟩
theorem Sm (v v':Value) (lx ly:List Int) (w:World) (hx:DG W lx) (hy:DG W ly) (hs:SL w v Jd lx) (hs':SL w v' Jd ly) (h1:lx.length≤100000000000) (h2:ly.length≤100000000000) :
  Calls Tryz.prog 254 #[v,v'] w fun e w'=>ZK w (fun v w'=>∃ l,SL w' v Jd l∧DG W l∧NZ l∧dv W l=dv W lx+dv W ly) e w':=by
 obtain ⟨q,cap,rfl,hcap,hmax,hc⟩:=hs
 obtain ⟨q',cap',rfl,hcap',hmax',hc'⟩:=hs'
 by_cases h:lx.length<ly.length
 ·have:=Hg true q' q cap' cap ly lx w hy hx hc' hc h2 (by omega) (fun _=>h)
  rw [Int.add_comm] at this;exact this
 ·exact Hg false q q' cap cap' lx ly w hx hy hc hc' h1 (by omega) (fun h=>by cases h)
theorem BM (v v':Value) (lx ly:List Int) (w:World) (hx:DG W lx) (hy:DG W ly) (hs:SL w v Jd lx) (hs':SL w v' Jd ly) (h1:lx.length≤100000000000) (hle:ly.length≤lx.length) (hle2:dv W ly≤dv W lx) :
  Calls Tryz.prog 256 #[v,v'] w fun e w'=>ZK w (fun v w'=>∃ l,SL w' v Jd l∧DG W l∧NZ l∧dv W l=dv W lx - dv W ly) e w':=by
 obtain ⟨q,cap,rfl,hcap,hmax,hcx⟩:=hs
 obtain ⟨q',cap',rfl,hcap',hmax',hcy⟩:=hs'
 have HX:=Lib.hid hcx;clear hcx
 have HY:=Lib.hid hcy;clear hcy
 have HLE:=Lib.hid hle2;clear hle2
 have hmk:=fun w=>Z7 lx.length (by omega) w
 go_enter Tryz.func256,Tryz.ntmps256
 go_wp2
 go_loopw [14,6] (fun i c wr=>∃ (k:Nat) (ds:List Int) (cc:Int),k≤lx.length∧i = .int .i64 k∧c = .int .u64 cc∧Sq lx ly k ds cc∧YI wr w.heap.size 248 Jd (ds++List.replicate (lx.length - k) 0)∧Ext w wr)
  (fun i _ _=>lx.length - (intOf i).toNat)
 case atStart=>exact⟨0,[],0,Nat.zero_le _,rfl,rfl,⟨rfl,DG.nil _,by decide,by simp⟩,YI.made w _ Jd 0 _ _ rfl,(Ext.refl _).alloc _⟩
 case round =>
  obtain ⟨k,ds,cc,hk,rfl,rfl,hI,hB,hE⟩:=hrel
  have hst:=hI.step hx hy
  obtain ⟨hd1,hd2,hd3,hd4⟩:=hI
  have hd1':=Lib.hid hd1;clear hd1
  have hd4':=Lib.hid hd4;clear hd4
  by_cases hlt:k<lx.length
  ·obtain ⟨b,off,rfl,hb,hc⟩:=HX.out k hlt
   rw [Zh hlt] at hc
   have hc:=hE.cell hc
   simp only [Jd] at hc
   have e1:lx.length - k=(lx.length - (k+1))+1:=by omega
   rw [e1] at hB
   have hcell:=hB.cell (i:=k) (by simp [hd1'.out])
   rw [Dm _ _ _ _ hd1'.out.symm] at hcell
   simp only [Jd] at hcell
   have hfr:=hB.frozen k
   have hBs:=hB.set k (ZJ (Qf lx k) (Qf ly k) cc)
   rw [← hd1'.out,Mz,hd1'.out] at hBs
   have HB:=Lib.hid hB;clear hB
   have HBs:=Lib.hid hBs;clear hBs
   have HS:=Lib.hid hst;clear hst
   have hx0:=Jb hx k
   have hy0:=Jb hy k
   clear e1
   by_cases hlt2:k<ly.length
   ·obtain ⟨b2,off2,rfl,hb2,hc2⟩:=HY.out k hlt2
    rw [Zh hlt2] at hc2
    have hc2:=hE.cell hc2
    simp only [Jd] at hc2
    have ha:=fun w=>Gf (Qf lx k) (Qf ly k) cc hx0 hy0 hd3 w
    go_wp2
    go_roundw
    case rel=>exact⟨k+1,_,_,by omega,by go_num,rfl,HS.out,HBs.out,Below.setCell hE (by simp) _⟩
    case measure=>simp [intOf];omega
   ·have H0:=Lib.hid (H4 (l:=ly) (k:=k) (by omega))
    have ha:=fun w=>Gf (Qf lx k) 0 cc hx0 ⟨Int.le_refl _,Jk⟩ hd3 w
    go_wp2
    go_roundw
    case rel=>exact⟨k+1,_,_,by omega,by go_num,rfl,by have:=HS.out;rw [H0.out] at this;exact this,by have:=HBs.out;rw [H0.out] at this;exact this,Below.setCell hE (by simp) _⟩
    case measure=>simp [intOf];omega
  ·have hk':k=lx.length:=by omega
   subst hk'
   rw [Nat.sub_self,List.replicate_zero,List.append_nil] at hB
   have hSL:=SL.GG hB lx.length (by simp [hd1'.out]) (by simp [hd1'.out];omega)
   rw [List.take_of_length_le (by simp [hd1'.out]),hd1'.out] at hSL
   have hfin:dv W ds=dv W lx - dv W ly:=by
    have h4:=hd4'.out
    rw [List.take_of_length_le (Nat.le_refl _),List.take_of_length_le hle] at h4
    have h5:=Z4 Jk hd2
    have h6:=Qx Jk hd2
    have h8:=HLE.out
    rw [hd1'.out] at h5
    have h7:cc=0∨cc=1:=by omega
    rcases h7 with rfl | rfl<;>omega
   have HB:=Lib.hid hB;clear hB
   have HSL:=Lib.hid hSL;clear hSL
   have HF:=Lib.hid hfin;clear hfin
   clear hst
   go_wp2_with (go_at_call 283;refine(KN _ _ _ HSL.out).mono ?_;rintro e w' ⟨⟨v',rfl,hv⟩,rfl⟩)
   go_ret
   exact⟨_,rfl,⟨_,hv,hd2.Q2,Xf _,by rw [J7,HF.out]⟩,hE⟩
theorem Vu {x y:Int} (h:x<y):ZU x y = -1:=if_pos h
theorem Gq {x y:Int} (h:y<x):ZU x y=1:=by unfold ZU;rw [if_neg (by omega),if_neg (by omega)]
theorem MI (x:Int):ZU x x=0:=by unfold ZU;rw [if_neg (by omega),if_pos rfl]
theorem ZT (v v':Value) (lx ly:List Int) (w:World) (hx:DG W lx) (hy:DG W ly) (nx:NZ lx) (ny:NZ ly) (hs:SL w v Jd lx) (hs':SL w v' Jd ly) :
  Calls Tryz.prog 255 #[v,v'] w fun e w'=>e = .returned (.int .i64 (ZU (dv W lx) (dv W ly)))∧Ext w w':=by
 obtain ⟨q,cap,rfl,hcap,hmax,hcx⟩:=hs
 obtain ⟨q',cap',rfl,hcap',hmax',hcy⟩:=hs'
 have HX:=Lib.hid hcx;clear hcx
 have HY:=Lib.hid hcy;clear hcy
 rcases Nat.lt_trichotomy lx.length ly.length with h | h | h
 ·have HL:=Lib.hid (Vu (Xb Ew hx hy ny h))
  go_enter Tryz.func255,Tryz.ntmps255
  go_wp2
  go_ret
  exact⟨by rw [HL.out];rfl,Ext.refl _⟩
 ·go_enter Tryz.func255,Tryz.ntmps255
  have hb:((lx.length:Int) != (ly.length:Int))=false:=by simp [h]
  have HLL:=Lib.hid h;clear h
  go_wp2
  go_loopw [5] (fun i wr=>∃ k:Nat,k≤lx.length∧i = .int .i64 ((k:Int) - 1)∧lx.drop k=ly.drop k∧Ext w wr) (fun i _=>(intOf i+1).toNat)
  case atStart=>exact⟨lx.length,Nat.le_refl _,rfl,by rw [List.drop_eq_nil_of_le (Nat.le_refl _),List.drop_eq_nil_of_le (by rw [HLL.out];exact Nat.le_refl _)],Ext.refl _⟩
  case round =>
   obtain ⟨k,hk,rfl,hd,hE⟩:=hrel
   have HD:=Lib.hid hd;clear hd
   cases k with
   |zero =>
    have HF:Hid (ZU (dv W lx) (dv W ly)=0):=by
     have:=HD.out;rw [List.drop_zero,List.drop_zero] at this;rw [this];exact MI _
    go_wp2
    go_ret
    exact⟨by rw [HF.out];rfl,hE⟩
   |succ k =>
    have e1:((k+1:Nat):Int) - 1=(k:Int):=by omega
    rw [e1]
    have hk2:k<ly.length:=by have:=HLL.out;omega
    obtain ⟨b,off,rfl,hb1,hc⟩:=HX.out k (by omega)
    obtain ⟨b2,off2,rfl,hb2,hc2⟩:=HY.out k hk2
    rw [Ni (by omega)] at hc hc2
    have hc:=hE.cell hc
    have hc2:=hE.cell hc2
    simp only [Jd] at hc hc2
    have HLT:=Lib.hid (Sf Jk hx hy HLL.out k (by omega) HD.out)
    have HGT:=Lib.hid (Sf Jk hy hx HLL.out.symm k hk2 HD.out.symm)
    have HEQ:Hid (lx[k]=ly[k]→lx.drop k=ly.drop k):=by
     intro e;rw [List.drop_eq_getElem_cons (by omega),List.drop_eq_getElem_cons hk2,e,HD.out]
    generalize lx[k]=x at *
    generalize ly[k]=y at *
    clear e1
    rcases Int.lt_trichotomy x y with g | g | g
    ·have hne:(x != y)=true:=by simp;omega
     have HL:=Lib.hid (Vu (HLT.out g))
     go_wp2
     go_quiet (fail)
     go_wp2
     go_quiet (fail)
     go_wp2
     go_ret
     exact⟨by rw [HL.out];rfl,(hE.drewN _).drewN _⟩
    ·have hne:(x != y)=false:=by simp;omega
     go_wp2
     go_quiet (fail)
     go_wp2
     go_roundw
     case rel=>exact⟨k,by omega,by go_num,HEQ.out g,hE.drewN _⟩
     case measure=>simp [intOf]
    ·have hne:(x != y)=true:=by simp;omega
     have HL:=Lib.hid (Gq (HGT.out g))
     go_wp2
     go_quiet (fail)
     go_wp2
     go_quiet (fail)
     go_wp2
     go_ret
     exact⟨by rw [HL.out];rfl,(hE.drewN _).drewN _⟩
 ·have HL:=Lib.hid (Gq (Xb Ew hy hx nx h))
  go_enter Tryz.func255,Tryz.ntmps255
  go_wp2
  go_ret
  exact⟨by rw [HL.out];rfl,Ext.refl _⟩
end
end Go.Proofs.YtknegjaeoffnbaaGreatDoor
namespace Go.Proofs
open Go.Shelf
def Tryz.EI:Go.Shelf.Ren:=⟨fun | 169=>281 | n=>n,fun | 70=>281 | 9=>9 | 0=>0 | 72=>284 | 37=>282 | 127=>307 | 3=>3 | 5=>5 | n=>n,fun | n=>n⟩
theorem Tryz.jd:Go.Proofs.Lays.n169 Tryz.prog Tryz.EI:={
 mixed:=by kernel_rfl
 f169:=Tryz.func281.trans (congrArg some (by kernel_rfl))
 t0:=Tryz.underlying0
 a0:=Tryz.isAgg0
 z0:=Tryz.sizeOf0
 v0:=Tryz.zeroValue0
 t3:=Tryz.underlying3
 a3:=Tryz.isAgg3
 z3:=Tryz.sizeOf3
 v3:=Tryz.zeroValue3
 t9:=Tryz.underlying9
 a9:=Tryz.isAgg9
 z9:=Tryz.sizeOf9
 v9:=Tryz.zeroValue9
 t37:=Tryz.underlying282
 a37:=Tryz.isAgg282
 z37:=Tryz.sizeOf282
 v37:=Tryz.zeroValue282
 t70:=Tryz.underlying281
 a70:=Tryz.isAgg281
 z70:=Tryz.sizeOf281
 v70:=Tryz.zeroValue281
 t72:=Tryz.underlying284
 a72:=Tryz.isAgg284
 z72:=Tryz.sizeOf284
 v72:=Tryz.zeroValue284
 t127:=Tryz.underlying307
 a127:=Tryz.isAgg307
 z127:=Tryz.sizeOf307
 v127:=Tryz.zeroValue307 }
theorem Tryz.DO:Builder.Extra Tryz.prog Tryz.EI:={
 sizeBuilder:=by kernel_rfl
 liesBuilder:=by kernel_rfl
 t5:=Tryz.underlying5
 a5:=Tryz.isAgg5
 z5:=Tryz.sizeOf5
 v5:=Tryz.zeroValue5
 infoByte:=by kernel_rfl
 cellsByte:=by kernel_rfl
 sizeByte:=by kernel_rfl
 neB5:=by decide }
open Go.RowKit in
theorem Tryz.Builder_String_any (B b:Nat) (l:List UInt8) (w:World) (h:Lib.IsBuilder 284 5 B b (Lib.byteCells l) w) (hBw:B≤w.heap.size) :
  Calls Tryz.prog 281 #[.pointer (some ⟨b,0,none⟩)] w fun e w'=>e = .returned (.string ⟨l.toArray⟩)∧Below B w w':=Any.Builder_String_any Tryz.jd Tryz.DO B b l w h hBw
def Tryz.UE:Go.Shelf.Ren:=⟨fun | 125=>214 | 128=>265 | 129=>266 | n=>n,fun | 46=>232 | 3=>3 | 51=>269 | 53=>248 | 4=>4 | 5=>5 | 9=>9 | n=>n,fun | n=>n⟩
theorem Tryz.jh:Go.Proofs.Lays.n125 Tryz.prog Tryz.UE:={
 mixed:=by kernel_rfl
 f125:=Tryz.func214.trans (congrArg some (by kernel_rfl))
 f128:=Tryz.func265.trans (congrArg some (by kernel_rfl))
 f129:=Tryz.func266.trans (congrArg some (by kernel_rfl))
 t3:=Tryz.underlying3
 a3:=Tryz.isAgg3
 z3:=Tryz.sizeOf3
 v3:=Tryz.zeroValue3
 t4:=Tryz.underlying4
 a4:=Tryz.isAgg4
 z4:=Tryz.sizeOf4
 v4:=Tryz.zeroValue4
 t5:=Tryz.underlying5
 a5:=Tryz.isAgg5
 z5:=Tryz.sizeOf5
 v5:=Tryz.zeroValue5
 t9:=Tryz.underlying9
 a9:=Tryz.isAgg9
 z9:=Tryz.sizeOf9
 v9:=Tryz.zeroValue9
 t46:=Tryz.underlying232
 a46:=Tryz.isAgg232
 z46:=Tryz.sizeOf232
 v46:=Tryz.zeroValue232
 t51:=Tryz.underlying269
 a51:=Tryz.isAgg269
 z51:=Tryz.sizeOf269
 v51:=Tryz.zeroValue269
 t53:=Tryz.underlying248
 a53:=Tryz.isAgg248
 z53:=Tryz.sizeOf248
 v53:=Tryz.zeroValue248 }
theorem Tryz.bits_Len (x:Int) (w:World) (h0:0≤x) (h1:x≤18446744073709551615) :
  Calls Tryz.prog 214 #[.int .u64 x] w fun e w'=>e = .returned (.int .i64 (Lib.bitLen x.toNat))∧w'=w:=Any.bits_Len Tryz.jh x w h0 h1
def Tryz.UC:Go.Shelf.Ren:=⟨fun | 134=>285 | 129=>266 | n=>n,fun | 53=>248 | 3=>3 | 4=>4 | 46=>232 | 5=>5 | 9=>9 | n=>n,fun | n=>n⟩
theorem Tryz.jf:Go.Proofs.Lays.n134 Tryz.prog Tryz.UC:={
 mixed:=by kernel_rfl
 f129:=Tryz.func266.trans (congrArg some (by kernel_rfl))
 f134:=Tryz.func285.trans (congrArg some (by kernel_rfl))
 t3:=Tryz.underlying3
 a3:=Tryz.isAgg3
 z3:=Tryz.sizeOf3
 v3:=Tryz.zeroValue3
 t4:=Tryz.underlying4
 a4:=Tryz.isAgg4
 z4:=Tryz.sizeOf4
 v4:=Tryz.zeroValue4
 t5:=Tryz.underlying5
 a5:=Tryz.isAgg5
 z5:=Tryz.sizeOf5
 v5:=Tryz.zeroValue5
 t9:=Tryz.underlying9
 a9:=Tryz.isAgg9
 z9:=Tryz.sizeOf9
 v9:=Tryz.zeroValue9
 t46:=Tryz.underlying232
 a46:=Tryz.isAgg232
 z46:=Tryz.sizeOf232
 v46:=Tryz.zeroValue232
 t53:=Tryz.underlying248
 a53:=Tryz.isAgg248
 z53:=Tryz.sizeOf248
 v53:=Tryz.zeroValue248 }
theorem Tryz.bits_LeadingZeros64 (x:Int) (w:World) (h0:0≤x) (h1:x≤18446744073709551615) :
  Calls Tryz.prog 285 #[.int .u64 x] w fun e w'=>e = .returned (.int .i64 (64 - (Lib.bitLen x.toNat:Int)))∧w'=w:=Any.bits_LeadingZeros64 Tryz.jf x w h0 h1
def Tryz.UG:Go.Shelf.Ren:=⟨fun | 103=>161 | 210=>227 | 206=>271 | n=>n,fun | 9=>9 | 4=>4 | 24=>190 | 3=>3 | n=>n,fun | n=>n⟩
theorem Tryz.jl:Go.Proofs.Lays.n103 Tryz.prog Tryz.UG:={
 mixed:=by kernel_rfl
 f103:=Tryz.func161.trans (congrArg some (by kernel_rfl))
 f206:=Tryz.func271.trans (congrArg some (by kernel_rfl))
 f210:=Tryz.func227.trans (congrArg some (by kernel_rfl))
 t3:=Tryz.underlying3
 a3:=Tryz.isAgg3
 z3:=Tryz.sizeOf3
 v3:=Tryz.zeroValue3
 t4:=Tryz.underlying4
 a4:=Tryz.isAgg4
 z4:=Tryz.sizeOf4
 v4:=Tryz.zeroValue4
 t9:=Tryz.underlying9
 a9:=Tryz.isAgg9
 z9:=Tryz.sizeOf9
 v9:=Tryz.zeroValue9
 t24:=Tryz.underlying190
 a24:=Tryz.isAgg190
 z24:=Tryz.sizeOf190
 v24:=Tryz.zeroValue190 }
open Go.RowKit in
theorem Tryz.strings_CutPrefix (s p:ByteArray) (w:World) :
  Calls Tryz.prog 161 #[.string s,.string p] w fun e w'=>e = .returned (.tuple #[.string ⟨(Lib.trimPrefix s.data.toList p.data.toList).toArray⟩,.bool (Lib.hasPrefix s.data.toList p.data.toList)])∧w'=w:=Any.strings_CutPrefix Tryz.jl s p w
def Tryz.xp:Go.Shelf.Ren:=⟨fun | 215=>267 | n=>n,fun | 3=>3 | 4=>4 | n=>n,fun | n=>n⟩
def Tryz.UF:Go.Shelf.Ren:=⟨fun | 122=>216 | 215=>267 | n=>n,fun | 3=>3 | 4=>4 | n=>n,fun | n=>n⟩
theorem Tryz.ji:Go.Proofs.Lays.n122 Tryz.prog Tryz.UF:={
 mixed:=by kernel_rfl
 f122:=Tryz.func216.trans (congrArg some (by kernel_rfl))
 f215:=Tryz.func267.trans (congrArg some (by kernel_rfl))
 t3:=Tryz.underlying3
 a3:=Tryz.isAgg3
 z3:=Tryz.sizeOf3
 v3:=Tryz.zeroValue3
 t4:=Tryz.underlying4
 a4:=Tryz.isAgg4
 z4:=Tryz.sizeOf4
 v4:=Tryz.zeroValue4 }
open Go.RowKit in
theorem Tryz.cmp_Compare_int (x y:Int) (w:World) :
  Calls Tryz.prog 216 #[.int .i64 x,.int .i64 y] w fun e w'=>e = .returned (.int .i64 (Lib.compareInt x y))∧w'=w:=Any.cmp_Compare_int Tryz.ji x y w
def Tryz.UA:Go.Shelf.Ren:=⟨fun | 172=>231 | 244=>273 | 245=>274 | 247=>300 | 279=>301 | 280=>302 | 281=>303 | 282=>304 | 287=>314 | 316=>315 | 171=>277 | 205=>316 | 321=>325 | 322=>326 | 243=>305 | 246=>317 | 283=>318 | 284=>319 | 285=>320 | 286=>321 | 129=>266 | 317=>327 | 318=>328 | 319=>329 | 320=>330 | 337=>332 | 338=>333 | n=>n,fun | 9=>9 | 3=>3 | 75=>239 | 76=>240 | 4=>4 | 5=>5 | 167=>298 | 37=>282 | 0=>0 | 85=>299 | 2=>2 | 168=>301 | 53=>248 | 175=>313 | 46=>232 | 210=>317 | 127=>307 | 145=>330 | 143=>328 | 21=>21 | 171=>320 | 173=>322 | 212=>332 | 51=>269 | 20=>20 | 213=>333 | 232=>335 | 233=>336 | 80=>247 | n=>n,fun | 15=>3 | 16=>4 | 17=>5 | 18=>6 | 19=>7 | n=>n⟩
theorem Tryz.jc:Go.Proofs.Lays.n172 Tryz.prog Tryz.UA:={
 mixed:=by kernel_rfl
 f129:=Tryz.func266.trans (congrArg some (by kernel_rfl))
 f171:=Tryz.func277.trans (congrArg some (by kernel_rfl))
 f172:=Tryz.func231.trans (congrArg some (by kernel_rfl))
 f205:=Tryz.func316.trans (congrArg some (by kernel_rfl))
 f243:=Tryz.func305.trans (congrArg some (by kernel_rfl))
 f244:=Tryz.func273.trans (congrArg some (by kernel_rfl))
 f245:=Tryz.func274.trans (congrArg some (by kernel_rfl))
 f246:=Tryz.func317.trans (congrArg some (by kernel_rfl))
 f247:=Tryz.func300.trans (congrArg some (by kernel_rfl))
 f279:=Tryz.func301.trans (congrArg some (by kernel_rfl))
 f280:=Tryz.func302.trans (congrArg some (by kernel_rfl))
 f281:=Tryz.func303.trans (congrArg some (by kernel_rfl))
 f282:=Tryz.func304.trans (congrArg some (by kernel_rfl))
 f283:=Tryz.func318.trans (congrArg some (by kernel_rfl))
 f284:=Tryz.func319.trans (congrArg some (by kernel_rfl))
 f285:=Tryz.func320.trans (congrArg some (by kernel_rfl))
 f286:=Tryz.func321.trans (congrArg some (by kernel_rfl))
 f287:=Tryz.func314.trans (congrArg some (by kernel_rfl))
 f316:=Tryz.func315.trans (congrArg some (by kernel_rfl))
 f317:=Tryz.func327.trans (congrArg some (by kernel_rfl))
 f318:=Tryz.func328.trans (congrArg some (by kernel_rfl))
 f319:=Tryz.func329.trans (congrArg some (by kernel_rfl))
 f320:=Tryz.func330.trans (congrArg some (by kernel_rfl))
 f321:=Tryz.func325.trans (congrArg some (by kernel_rfl))
 f322:=Tryz.func326.trans (congrArg some (by kernel_rfl))
 f337:=Tryz.func332.trans (congrArg some (by kernel_rfl))
 f338:=Tryz.func333.trans (congrArg some (by kernel_rfl))
 t0:=Tryz.underlying0
 a0:=Tryz.isAgg0
 z0:=Tryz.sizeOf0
 v0:=Tryz.zeroValue0
 t2:=Tryz.underlying2
 a2:=Tryz.isAgg2
 z2:=Tryz.sizeOf2
 v2:=Tryz.zeroValue2
 t3:=Tryz.underlying3
 a3:=Tryz.isAgg3
 z3:=Tryz.sizeOf3
 v3:=Tryz.zeroValue3
 t4:=Tryz.underlying4
 a4:=Tryz.isAgg4
 z4:=Tryz.sizeOf4
 v4:=Tryz.zeroValue4
 t5:=Tryz.underlying5
 a5:=Tryz.isAgg5
 z5:=Tryz.sizeOf5
 v5:=Tryz.zeroValue5
 t9:=Tryz.underlying9
 a9:=Tryz.isAgg9
 z9:=Tryz.sizeOf9
 v9:=Tryz.zeroValue9
 t20:=Tryz.underlying20
 a20:=Tryz.isAgg20
 z20:=Tryz.sizeOf20
 v20:=Tryz.zeroValue20
 t21:=Tryz.underlying21
 a21:=Tryz.isAgg21
 z21:=Tryz.sizeOf21
 v21:=Tryz.zeroValue21
 t37:=Tryz.underlying282
 a37:=Tryz.isAgg282
 z37:=Tryz.sizeOf282
 v37:=Tryz.zeroValue282
 t46:=Tryz.underlying232
 a46:=Tryz.isAgg232
 z46:=Tryz.sizeOf232
 v46:=Tryz.zeroValue232
 t51:=Tryz.underlying269
 a51:=Tryz.isAgg269
 z51:=Tryz.sizeOf269
 v51:=Tryz.zeroValue269
 t53:=Tryz.underlying248
 a53:=Tryz.isAgg248
 z53:=Tryz.sizeOf248
 v53:=Tryz.zeroValue248
 t75:=Tryz.underlying239
 a75:=Tryz.isAgg239
 z75:=Tryz.sizeOf239
 v75:=Tryz.zeroValue239
 t76:=Tryz.underlying240
 a76:=Tryz.isAgg240
 z76:=Tryz.sizeOf240
 v76:=Tryz.zeroValue240
 t85:=Tryz.underlying299
 a85:=Tryz.isAgg299
 z85:=Tryz.sizeOf299
 v85:=Tryz.zeroValue299
 t127:=Tryz.underlying307
 a127:=Tryz.isAgg307
 z127:=Tryz.sizeOf307
 v127:=Tryz.zeroValue307
 t143:=Tryz.underlying328
 a143:=Tryz.isAgg328
 z143:=Tryz.sizeOf328
 v143:=Tryz.zeroValue328
 t145:=Tryz.underlying330
 a145:=Tryz.isAgg330
 z145:=Tryz.sizeOf330
 v145:=Tryz.zeroValue330
 t167:=Tryz.underlying298
 a167:=Tryz.isAgg298
 z167:=Tryz.sizeOf298
 v167:=Tryz.zeroValue298
 t168:=Tryz.underlying301
 a168:=Tryz.isAgg301
 z168:=Tryz.sizeOf301
 v168:=Tryz.zeroValue301
 t171:=Tryz.underlying320
 a171:=Tryz.isAgg320
 z171:=Tryz.sizeOf320
 v171:=Tryz.zeroValue320
 t173:=Tryz.underlying322
 a173:=Tryz.isAgg322
 z173:=Tryz.sizeOf322
 v173:=Tryz.zeroValue322
 t175:=Tryz.underlying313
 a175:=Tryz.isAgg313
 z175:=Tryz.sizeOf313
 v175:=Tryz.zeroValue313
 t210:=Tryz.underlying317
 a210:=Tryz.isAgg317
 z210:=Tryz.sizeOf317
 v210:=Tryz.zeroValue317
 t212:=Tryz.underlying332
 a212:=Tryz.isAgg332
 z212:=Tryz.sizeOf332
 v212:=Tryz.zeroValue332
 t213:=Tryz.underlying333
 a213:=Tryz.isAgg333
 z213:=Tryz.sizeOf333
 t232:=Tryz.underlying335
 a232:=Tryz.isAgg335
 z232:=Tryz.sizeOf335
 v232:=Tryz.zeroValue335
 t233:=Tryz.underlying336
 a233:=Tryz.isAgg336
 z233:=Tryz.sizeOf336
 v233:=Tryz.zeroValue336
 g15:=by kernel_rfl
 g16:=by kernel_rfl
 g17:=by kernel_rfl
 g18:=by kernel_rfl
 g19:=by kernel_rfl }
open Go.RowKit in
theorem Tryz.strconv_Atoi (s:ByteArray) (n:Int) (hl:s.size≤18) (h:Lib.atoi s.data.toList=some n) (w:World) :
  Calls Tryz.prog 231 #[.string s] w fun e w'=>e = .returned (.tuple #[.int .i64 n,.nilIface])∧∃ t,w'=Lib.bytesWorld w 5 t:=Any.strconv_Atoi Tryz.jc s n hl h w
def Tryz.UD:Go.Shelf.Ren:=⟨fun | 129=>266 | n=>n,fun | 53=>248 | 3=>3 | 4=>4 | 46=>232 | 5=>5 | 9=>9 | n=>n,fun | n=>n⟩
theorem Tryz.jg:Go.Proofs.Lays.n129 Tryz.prog Tryz.UD:={
 mixed:=by kernel_rfl
 f129:=Tryz.func266.trans (congrArg some (by kernel_rfl))
 t3:=Tryz.underlying3
 a3:=Tryz.isAgg3
 z3:=Tryz.sizeOf3
 v3:=Tryz.zeroValue3
 t4:=Tryz.underlying4
 a4:=Tryz.isAgg4
 z4:=Tryz.sizeOf4
 v4:=Tryz.zeroValue4
 t5:=Tryz.underlying5
 a5:=Tryz.isAgg5
 z5:=Tryz.sizeOf5
 v5:=Tryz.zeroValue5
 t9:=Tryz.underlying9
 a9:=Tryz.isAgg9
 z9:=Tryz.sizeOf9
 v9:=Tryz.zeroValue9
 t46:=Tryz.underlying232
 a46:=Tryz.isAgg232
 z46:=Tryz.sizeOf232
 v46:=Tryz.zeroValue232
 t53:=Tryz.underlying248
 a53:=Tryz.isAgg248
 z53:=Tryz.sizeOf248
 v53:=Tryz.zeroValue248 }
theorem Tryz.bits_Len64 (x:Int) (w:World) (h0:0≤x) (h1:x≤18446744073709551615) :
  Calls Tryz.prog 266 #[.int .u64 x] w fun e w'=>e = .returned (.int .i64 (Lib.bitLen x.toNat))∧w'=w:=Any.bits_Len64 Tryz.jg x w h0 h1
def Tryz.T8:Go.Shelf.Ren:=⟨fun | 283=>318 | n=>n,fun | 3=>3 | 9=>9 | 4=>4 | n=>n,fun | n=>n⟩
theorem Tryz.ja:Go.Proofs.Lays.n283 Tryz.prog Tryz.T8:={
 mixed:=by kernel_rfl
 f283:=Tryz.func318.trans (congrArg some (by kernel_rfl))
 t3:=Tryz.underlying3
 a3:=Tryz.isAgg3
 z3:=Tryz.sizeOf3
 v3:=Tryz.zeroValue3
 t4:=Tryz.underlying4
 a4:=Tryz.isAgg4
 z4:=Tryz.sizeOf4
 v4:=Tryz.zeroValue4
 t9:=Tryz.underlying9
 a9:=Tryz.isAgg9
 z9:=Tryz.sizeOf9
 v9:=Tryz.zeroValue9 }
open Go.Lib in
theorem Tryz.internal_strconv_small (i:Nat) (h:i<100) (w:World) :
  Calls Tryz.prog 318 #[.int .i64 i] w fun e w'=>e = .returned (.string ⟨(Lib.decDigits i).toArray⟩)∧w'=w:=Any.internal_strconv_small Tryz.ja i h w
def Tryz.SG:Go.Shelf.Ren:=⟨fun | 284=>319 | 129=>266 | 317=>327 | 318=>328 | n=>n,fun | 53=>248 | 3=>3 | 212=>332 | 0=>0 | 4=>4 | 46=>232 | 5=>5 | 9=>9 | n=>n,fun | 17=>5 | n=>n⟩
theorem Tryz.Cs:Go.Proofs.LaysM.n284 Tryz.prog Tryz.SG:={
 mixed:=by kernel_rfl
 f129:=Tryz.func266.trans (congrArg some (by kernel_rfl))
 f284:=Tryz.func319.trans (congrArg some (by kernel_rfl))
 f317:=Tryz.func327.trans (congrArg some (by kernel_rfl))
 f318:=Tryz.func328.trans (congrArg some (by kernel_rfl))
 t0:=Tryz.underlying0
 a0:=Tryz.isAgg0
 z0:=Tryz.sizeOf0
 v0:=Tryz.zeroValue0
 t3:=Tryz.underlying3
 a3:=Tryz.isAgg3
 z3:=Tryz.sizeOf3
 v3:=Tryz.zeroValue3
 t4:=Tryz.underlying4
 a4:=Tryz.isAgg4
 z4:=Tryz.sizeOf4
 v4:=Tryz.zeroValue4
 t5:=Tryz.underlying5
 a5:=Tryz.isAgg5
 z5:=Tryz.sizeOf5
 v5:=Tryz.zeroValue5
 t9:=Tryz.underlying9
 a9:=Tryz.isAgg9
 z9:=Tryz.sizeOf9
 v9:=Tryz.zeroValue9
 t46:=Tryz.underlying232
 a46:=Tryz.isAgg232
 z46:=Tryz.sizeOf232
 v46:=Tryz.zeroValue232
 t53:=Tryz.underlying248
 a53:=Tryz.isAgg248
 z53:=Tryz.sizeOf248
 v53:=Tryz.zeroValue248
 t212:=Tryz.underlying332
 a212:=Tryz.isAgg332
 z212:=Tryz.sizeOf332
 v212:=Tryz.zeroValue332
 g17:=by kernel_rfl
 i0:=by kernel_rfl
 i3:=by kernel_rfl
 i4:=by kernel_rfl
 i5:=by kernel_rfl
 i9:=by kernel_rfl
 i46:=by kernel_rfl
 i53:=by kernel_rfl
 i212:=by kernel_rfl
 m17:=by kernel_rfl }
open Go.Lib in
theorem Tryz.internal_strconv_numDigits (u:Nat) (h1:1≤u) (h2:u<18446744073709551616) (w:World) (htab:Lib.TabIs Tryz.prog w "internal/strconv.uint64pow10" .u64 Lib.pow10Tab) :
  Calls Tryz.prog 319 #[.int .u64 u] w fun e w'=>e = .returned (.int .i64 (Lib.nDigits u))∧w'=w:=Any.internal_strconv_numDigits Tryz.Cs u h1 h2 w htab
def Tryz.T7:Go.Shelf.Ren:=⟨fun | 285=>320 | n=>n,fun | 37=>282 | 53=>248 | 3=>3 | 4=>4 | 51=>269 | 9=>9 | 5=>5 | 0=>0 | n=>n,fun | n=>n⟩
theorem Tryz.jZ:Go.Proofs.Lays.n285 Tryz.prog Tryz.T7:={
 mixed:=by kernel_rfl
 f285:=Tryz.func320.trans (congrArg some (by kernel_rfl))
 t0:=Tryz.underlying0
 a0:=Tryz.isAgg0
 z0:=Tryz.sizeOf0
 v0:=Tryz.zeroValue0
 t3:=Tryz.underlying3
 a3:=Tryz.isAgg3
 z3:=Tryz.sizeOf3
 v3:=Tryz.zeroValue3
 t4:=Tryz.underlying4
 a4:=Tryz.isAgg4
 z4:=Tryz.sizeOf4
 v4:=Tryz.zeroValue4
 t5:=Tryz.underlying5
 a5:=Tryz.isAgg5
 z5:=Tryz.sizeOf5
 v5:=Tryz.zeroValue5
 t9:=Tryz.underlying9
 a9:=Tryz.isAgg9
 z9:=Tryz.sizeOf9
 v9:=Tryz.zeroValue9
 t37:=Tryz.underlying282
 a37:=Tryz.isAgg282
 z37:=Tryz.sizeOf282
 v37:=Tryz.zeroValue282
 t51:=Tryz.underlying269
 a51:=Tryz.isAgg269
 z51:=Tryz.sizeOf269
 v51:=Tryz.zeroValue269
 t53:=Tryz.underlying248
 a53:=Tryz.isAgg248
 z53:=Tryz.sizeOf248
 v53:=Tryz.zeroValue248 }
open Go.RowKit Go.Sort Go.Lib in
theorem Tryz.internal_strconv_formatBase10 (DH off cap:Nat) (u:Nat) (d:Array UInt8) (w:World) (hH:Holds (fun(b:UInt8)=>Value.int .u8 (b.toNat:Int)) w DH off d) (hu:u<10^d.size) (hu64:u<18446744073709551616) (hsz:d.size<4611686018427387904) :
  Calls Tryz.prog 320 #[.slice (some ⟨DH,off,none⟩) d.size cap,.int .u64 u] w fun e w' =>
   e = .returned (.tuple #[])∧∃ (n v':Nat) (dk:Array UInt8),w'=(putRow (fun(b:UInt8)=>Value.int .u8 (b.toNat:Int)) w DH off dk).drewN n∧FmtInv d.size u 0 v' dk:=Any.internal_strconv_formatBase10 Tryz.jZ DH off cap u d w hH hu hu64 hsz
def Tryz.SH:Go.Shelf.Ren:=⟨fun | 171=>277 | 243=>305 | 246=>317 | 283=>318 | 284=>319 | 285=>320 | 286=>321 | 129=>266 | 317=>327 | 318=>328 | 319=>329 | 320=>330 | 337=>332 | 338=>333 | n=>n,fun | 3=>3 | 9=>9 | 2=>2 | 4=>4 | 171=>320 | 0=>0 | 53=>248 | 37=>282 | 5=>5 | 173=>322 | 212=>332 | 51=>269 | 20=>20 | 213=>333 | 46=>232 | 232=>335 | 233=>336 | n=>n,fun | 17=>5 | 18=>6 | 19=>7 | n=>n⟩
theorem Tryz.Ct:Go.Proofs.LaysM.n171 Tryz.prog Tryz.SH:={
 mixed:=by kernel_rfl
 f129:=Tryz.func266.trans (congrArg some (by kernel_rfl))
 f171:=Tryz.func277.trans (congrArg some (by kernel_rfl))
 f243:=Tryz.func305.trans (congrArg some (by kernel_rfl))
 f246:=Tryz.func317.trans (congrArg some (by kernel_rfl))
 f283:=Tryz.func318.trans (congrArg some (by kernel_rfl))
 f284:=Tryz.func319.trans (congrArg some (by kernel_rfl))
 f285:=Tryz.func320.trans (congrArg some (by kernel_rfl))
 f286:=Tryz.func321.trans (congrArg some (by kernel_rfl))
 f317:=Tryz.func327.trans (congrArg some (by kernel_rfl))
 f318:=Tryz.func328.trans (congrArg some (by kernel_rfl))
 f319:=Tryz.func329.trans (congrArg some (by kernel_rfl))
 f320:=Tryz.func330.trans (congrArg some (by kernel_rfl))
 f337:=Tryz.func332.trans (congrArg some (by kernel_rfl))
 f338:=Tryz.func333.trans (congrArg some (by kernel_rfl))
 t0:=Tryz.underlying0
 a0:=Tryz.isAgg0
 z0:=Tryz.sizeOf0
 v0:=Tryz.zeroValue0
 t2:=Tryz.underlying2
 a2:=Tryz.isAgg2
 z2:=Tryz.sizeOf2
 v2:=Tryz.zeroValue2
 t3:=Tryz.underlying3
 a3:=Tryz.isAgg3
 z3:=Tryz.sizeOf3
 v3:=Tryz.zeroValue3
 t4:=Tryz.underlying4
 a4:=Tryz.isAgg4
 z4:=Tryz.sizeOf4
 v4:=Tryz.zeroValue4
 t5:=Tryz.underlying5
 a5:=Tryz.isAgg5
 z5:=Tryz.sizeOf5
 v5:=Tryz.zeroValue5
 t9:=Tryz.underlying9
 a9:=Tryz.isAgg9
 z9:=Tryz.sizeOf9
 v9:=Tryz.zeroValue9
 t20:=Tryz.underlying20
 a20:=Tryz.isAgg20
 z20:=Tryz.sizeOf20
 v20:=Tryz.zeroValue20
 t37:=Tryz.underlying282
 a37:=Tryz.isAgg282
 z37:=Tryz.sizeOf282
 v37:=Tryz.zeroValue282
 t46:=Tryz.underlying232
 a46:=Tryz.isAgg232
 z46:=Tryz.sizeOf232
 v46:=Tryz.zeroValue232
 t51:=Tryz.underlying269
 a51:=Tryz.isAgg269
 z51:=Tryz.sizeOf269
 v51:=Tryz.zeroValue269
 t53:=Tryz.underlying248
 a53:=Tryz.isAgg248
 z53:=Tryz.sizeOf248
 v53:=Tryz.zeroValue248
 t171:=Tryz.underlying320
 a171:=Tryz.isAgg320
 z171:=Tryz.sizeOf320
 v171:=Tryz.zeroValue320
 t173:=Tryz.underlying322
 a173:=Tryz.isAgg322
 z173:=Tryz.sizeOf322
 v173:=Tryz.zeroValue322
 t212:=Tryz.underlying332
 a212:=Tryz.isAgg332
 z212:=Tryz.sizeOf332
 v212:=Tryz.zeroValue332
 t213:=Tryz.underlying333
 a213:=Tryz.isAgg333
 z213:=Tryz.sizeOf333
 t232:=Tryz.underlying335
 a232:=Tryz.isAgg335
 z232:=Tryz.sizeOf335
 v232:=Tryz.zeroValue335
 t233:=Tryz.underlying336
 a233:=Tryz.isAgg336
 z233:=Tryz.sizeOf336
 v233:=Tryz.zeroValue336
 g17:=by kernel_rfl
 g18:=by kernel_rfl
 g19:=by kernel_rfl
 i0:=by kernel_rfl
 i2:=by kernel_rfl
 i3:=by kernel_rfl
 i4:=by kernel_rfl
 i5:=by kernel_rfl
 i9:=by kernel_rfl
 i20:=by kernel_rfl
 i37:=by kernel_rfl
 i46:=by kernel_rfl
 i51:=by kernel_rfl
 i53:=by kernel_rfl
 i171:=by kernel_rfl
 i173:=by kernel_rfl
 i212:=by kernel_rfl
 i232:=by kernel_rfl
 i233:=by kernel_rfl
 m17:=by kernel_rfl
 m18:=by kernel_rfl
 m19:=by kernel_rfl }
open Go.RowKit Go.Sort Go.Lib in
theorem Tryz.strconv_Itoa (n:Int) (h0 : -9223372036854775808≤n) (h1:n≤9223372036854775807) (w:World) (htab:Lib.TabIs Tryz.prog w "internal/strconv.uint64pow10" .u64 Lib.pow10Tab) :
  Calls Tryz.prog 277 #[.int .i64 n] w fun e w'=>e = .returned (.string ⟨(Lib.itoa n).toArray⟩)∧∃ k os,w'=grow (w.drewN k) os:=Any.strconv_Itoa Tryz.Ct n h0 h1 w htab
def Tryz.UB:Go.Shelf.Ren:=⟨fun | 145=>160 | 220=>226 | 219=>270 | 217=>296 | 225=>297 | 224=>298 | 267=>299 | 266=>312 | 314=>313 | n=>n,fun | 9=>9 | 4=>4 | 59=>188 | 3=>3 | 5=>5 | 46=>232 | 146=>311 | 51=>269 | n=>n,fun | 1=>0 | n=>n⟩
theorem Tryz.je:Go.Proofs.Lays.n145 Tryz.prog Tryz.UB:={
 mixed:=by kernel_rfl
 f145:=Tryz.func160.trans (congrArg some (by kernel_rfl))
 f217:=Tryz.func296.trans (congrArg some (by kernel_rfl))
 f219:=Tryz.func270.trans (congrArg some (by kernel_rfl))
 f220:=Tryz.func226.trans (congrArg some (by kernel_rfl))
 f224:=Tryz.func298.trans (congrArg some (by kernel_rfl))
 f225:=Tryz.func297.trans (congrArg some (by kernel_rfl))
 f266:=Tryz.func312.trans (congrArg some (by kernel_rfl))
 f267:=Tryz.func299.trans (congrArg some (by kernel_rfl))
 f314:=Tryz.func313.trans (congrArg some (by kernel_rfl))
 t3:=Tryz.underlying3
 a3:=Tryz.isAgg3
 z3:=Tryz.sizeOf3
 v3:=Tryz.zeroValue3
 t4:=Tryz.underlying4
 a4:=Tryz.isAgg4
 z4:=Tryz.sizeOf4
 v4:=Tryz.zeroValue4
 t5:=Tryz.underlying5
 a5:=Tryz.isAgg5
 z5:=Tryz.sizeOf5
 v5:=Tryz.zeroValue5
 t9:=Tryz.underlying9
 a9:=Tryz.isAgg9
 z9:=Tryz.sizeOf9
 v9:=Tryz.zeroValue9
 t46:=Tryz.underlying232
 a46:=Tryz.isAgg232
 z46:=Tryz.sizeOf232
 v46:=Tryz.zeroValue232
 t51:=Tryz.underlying269
 a51:=Tryz.isAgg269
 z51:=Tryz.sizeOf269
 v51:=Tryz.zeroValue269
 t59:=Tryz.underlying188
 a59:=Tryz.isAgg188
 z59:=Tryz.sizeOf188
 v59:=Tryz.zeroValue188
 t146:=Tryz.underlying311
 a146:=Tryz.isAgg311
 z146:=Tryz.sizeOf311
 v146:=Tryz.zeroValue311
 g1:=by kernel_rfl }
open Go.RowKit Go.Lib in
theorem Tryz.strings_Cut (s sep:ByteArray) (m:Int) (w:World) (hs:s.size<4294967281) (hm:w.cell? ⟨0,0,none⟩=some (.int .i64 m)) :
  Calls Tryz.prog 160 #[.string s,.string sep] w fun e w'=>e = .returned (.tuple #[.string ⟨(Lib.cut s.data.toList sep.data.toList).1.toArray⟩,.string ⟨(Lib.cut s.data.toList sep.data.toList).2.1.toArray⟩,.bool (Lib.cut s.data.toList sep.data.toList).2.2])∧∃ n,w'=w.drewN n:=Any.strings_Cut Tryz.je s sep m w hs hm
def Tryz.A3:Go.Shelf.Ren:=⟨fun | 99=>229 | 206=>271 | n=>n,fun | 9=>9 | 4=>4 | 3=>3 | n=>n,fun | n=>n⟩
theorem Tryz.yB:Go.Proofs.Lays.n99 Tryz.prog Tryz.A3:={
 mixed:=by kernel_rfl
 f99:=Tryz.func229.trans (congrArg some (by kernel_rfl))
 f206:=Tryz.func271.trans (congrArg some (by kernel_rfl))
 t3:=Tryz.underlying3
 a3:=Tryz.isAgg3
 z3:=Tryz.sizeOf3
 v3:=Tryz.zeroValue3
 t4:=Tryz.underlying4
 a4:=Tryz.isAgg4
 z4:=Tryz.sizeOf4
 v4:=Tryz.zeroValue4
 t9:=Tryz.underlying9
 a9:=Tryz.isAgg9
 z9:=Tryz.sizeOf9
 v9:=Tryz.zeroValue9 }
open Go.RowKit Go.Lib in
theorem Tryz.strings_HasPrefix (s p:ByteArray) (w:World) :
  Calls Tryz.prog 229 #[.string s,.string p] w fun e w'=>e = .returned (.bool (Lib.hasPrefix s.data.toList p.data.toList))∧w'=w:=Any.strings_HasPrefix Tryz.yB s p w
def Tryz.UH:Go.Shelf.Ren:=⟨fun | 101=>230 | 208=>272 | 206=>271 | n=>n,fun | 9=>9 | 4=>4 | 3=>3 | n=>n,fun | n=>n⟩
theorem Tryz.jm:Go.Proofs.Lays.n101 Tryz.prog Tryz.UH:={
 mixed:=by kernel_rfl
 f101:=Tryz.func230.trans (congrArg some (by kernel_rfl))
 f206:=Tryz.func271.trans (congrArg some (by kernel_rfl))
 f208:=Tryz.func272.trans (congrArg some (by kernel_rfl))
 t3:=Tryz.underlying3
 a3:=Tryz.isAgg3
 z3:=Tryz.sizeOf3
 v3:=Tryz.zeroValue3
 t4:=Tryz.underlying4
 a4:=Tryz.isAgg4
 z4:=Tryz.sizeOf4
 v4:=Tryz.zeroValue4
 t9:=Tryz.underlying9
 a9:=Tryz.isAgg9
 z9:=Tryz.sizeOf9
 v9:=Tryz.zeroValue9 }
open Go.RowKit Go.Lib in
theorem Tryz.strings_TrimPrefix (s p:ByteArray) (w:World) :
  Calls Tryz.prog 230 #[.string s,.string p] w fun e w'=>e = .returned (.string ⟨(Lib.trimPrefix s.data.toList p.data.toList).toArray⟩)∧w'=w:=Any.strings_TrimPrefix Tryz.jm s p w
def Tryz.T9:Go.Shelf.Ren:=⟨fun | 264=>244 | n=>n,fun | 53=>248 | 46=>232 | n=>n,fun | n=>n⟩
theorem Tryz.jb:Go.Proofs.Lays.n264 Tryz.prog Tryz.T9:={
 mixed:=by kernel_rfl
 f264:=Tryz.func244.trans (congrArg some (by kernel_rfl))
 t46:=Tryz.underlying232
 a46:=Tryz.isAgg232
 z46:=Tryz.sizeOf232
 v46:=Tryz.zeroValue232
 t53:=Tryz.underlying248
 a53:=Tryz.isAgg248
 z53:=Tryz.sizeOf248
 v53:=Tryz.zeroValue248 }
open Go.RowKit Go.Lib in
theorem Tryz.bits_Mul64 (x y:Nat) (hx:x<18446744073709551616) (hy:y<18446744073709551616) (w:World) :
  Calls Tryz.prog 244 #[.int .u64 x,.int .u64 y] w fun e w'=>e = .returned (.tuple #[.int .u64 ((x*y / 18446744073709551616:Nat):Int),.int .u64 ((x*y%18446744073709551616:Nat):Int)])∧w'=w:=Any.bits_Mul64 Tryz.jb x y hx hy w
def Tryz.EJ:Go.Shelf.Ren:=⟨fun | 105=>279 | 212=>307 | 99=>229 | 165=>308 | 166=>280 | 170=>309 | 169=>281 | 263=>322 | 264=>244 | 206=>271 | 240=>310 | 241=>323 | 276=>324 | 277=>331 | n=>n,fun | 9=>9 | 3=>3 | 4=>4 | 20=>20 | 0=>0 | 46=>232 | 109=>304 | 5=>5 | 72=>284 | 76=>240 | 51=>269 | 146=>311 | 53=>248 | 148=>249 | 70=>281 | 37=>282 | 75=>239 | 127=>307 | 164=>325 | 80=>247 | n=>n,fun | n=>n⟩
theorem Tryz.jk:Go.Proofs.Lays.n105 Tryz.prog Tryz.EJ:={
 mixed:=by kernel_rfl
 f99:=Tryz.func229.trans (congrArg some (by kernel_rfl))
 f105:=Tryz.func279.trans (congrArg some (by kernel_rfl))
 f165:=Tryz.func308.trans (congrArg some (by kernel_rfl))
 f166:=Tryz.func280.trans (congrArg some (by kernel_rfl))
 f169:=Tryz.func281.trans (congrArg some (by kernel_rfl))
 f170:=Tryz.func309.trans (congrArg some (by kernel_rfl))
 f206:=Tryz.func271.trans (congrArg some (by kernel_rfl))
 f212:=Tryz.func307.trans (congrArg some (by kernel_rfl))
 f240:=Tryz.func310.trans (congrArg some (by kernel_rfl))
 f241:=Tryz.func323.trans (congrArg some (by kernel_rfl))
 f263:=Tryz.func322.trans (congrArg some (by kernel_rfl))
 f264:=Tryz.func244.trans (congrArg some (by kernel_rfl))
 f276:=Tryz.func324.trans (congrArg some (by kernel_rfl))
 f277:=Tryz.func331.trans (congrArg some (by kernel_rfl))
 t0:=Tryz.underlying0
 a0:=Tryz.isAgg0
 z0:=Tryz.sizeOf0
 v0:=Tryz.zeroValue0
 t3:=Tryz.underlying3
 a3:=Tryz.isAgg3
 z3:=Tryz.sizeOf3
 v3:=Tryz.zeroValue3
 t4:=Tryz.underlying4
 a4:=Tryz.isAgg4
 z4:=Tryz.sizeOf4
 v4:=Tryz.zeroValue4
 t5:=Tryz.underlying5
 a5:=Tryz.isAgg5
 z5:=Tryz.sizeOf5
 v5:=Tryz.zeroValue5
 t9:=Tryz.underlying9
 a9:=Tryz.isAgg9
 z9:=Tryz.sizeOf9
 v9:=Tryz.zeroValue9
 t20:=Tryz.underlying20
 a20:=Tryz.isAgg20
 z20:=Tryz.sizeOf20
 v20:=Tryz.zeroValue20
 t37:=Tryz.underlying282
 a37:=Tryz.isAgg282
 z37:=Tryz.sizeOf282
 v37:=Tryz.zeroValue282
 t46:=Tryz.underlying232
 a46:=Tryz.isAgg232
 z46:=Tryz.sizeOf232
 v46:=Tryz.zeroValue232
 t51:=Tryz.underlying269
 a51:=Tryz.isAgg269
 z51:=Tryz.sizeOf269
 v51:=Tryz.zeroValue269
 t53:=Tryz.underlying248
 a53:=Tryz.isAgg248
 z53:=Tryz.sizeOf248
 v53:=Tryz.zeroValue248
 t70:=Tryz.underlying281
 a70:=Tryz.isAgg281
 z70:=Tryz.sizeOf281
 v70:=Tryz.zeroValue281
 t72:=Tryz.underlying284
 a72:=Tryz.isAgg284
 z72:=Tryz.sizeOf284
 v72:=Tryz.zeroValue284
 t75:=Tryz.underlying239
 a75:=Tryz.isAgg239
 z75:=Tryz.sizeOf239
 v75:=Tryz.zeroValue239
 t76:=Tryz.underlying240
 a76:=Tryz.isAgg240
 z76:=Tryz.sizeOf240
 v76:=Tryz.zeroValue240
 t109:=Tryz.underlying304
 a109:=Tryz.isAgg304
 z109:=Tryz.sizeOf304
 v109:=Tryz.zeroValue304
 t127:=Tryz.underlying307
 a127:=Tryz.isAgg307
 z127:=Tryz.sizeOf307
 v127:=Tryz.zeroValue307
 t146:=Tryz.underlying311
 a146:=Tryz.isAgg311
 z146:=Tryz.sizeOf311
 v146:=Tryz.zeroValue311
 t148:=Tryz.underlying249
 a148:=Tryz.isAgg249
 z148:=Tryz.sizeOf249
 v148:=Tryz.zeroValue249
 t164:=Tryz.underlying325
 a164:=Tryz.isAgg325
 z164:=Tryz.sizeOf325
 v164:=Tryz.zeroValue325 }
theorem Tryz.DP:Builder.Extra Tryz.prog Tryz.EJ:={
 sizeBuilder:=by kernel_rfl
 liesBuilder:=by kernel_rfl
 t5:=Tryz.underlying5
 a5:=Tryz.isAgg5
 z5:=Tryz.sizeOf5
 v5:=Tryz.zeroValue5
 infoByte:=by kernel_rfl
 cellsByte:=by kernel_rfl
 sizeByte:=by kernel_rfl
 neB5:=by decide }
open Go.RowKit Go.Lib in
theorem Tryz.strings_Repeat (s:ByteArray) (c:Nat) (w:World) (hc:c≤9223372036854775807) (hlen:s.size*c≤140737488355328) :
  Calls Tryz.prog 279 #[.string s,.int .i64 c] w fun e w'=>e = .returned (.string ⟨(Lib.repeatL s.data.toList c).toArray⟩)∧Below w.heap.size w w':=Any.strings_Repeat Tryz.jk Tryz.DP s c w hc hlen
end Go.Proofs
namespace Go.Proofs.YtknegjaeoffnbaaGreatDoor
section
open Go.RowKit
section
variable {P:Program} {N:Nat} {m:Sl} {S:World→Prop} {ty:TypeId} {T yT:TypeId} {x y:Operand} {a b:Nat} {k:IntKind}
theorem S9 (n:Int):IntKind.u64.wrap n=n%18446744073709551616:=IntKind.wrap_u64 n
theorem Ah (hx:ev m x=some (.int .u64 (a:Int))) (hy:ev m y=some (.int k (b:Int))) (z:Nat) (h:b≤64∧a*2^b%18446744073709551616=z):Qt P N m S (.binOp .shl T x y yT) ty (.int .u64 (z:Int)):=fun s w _ _ _ _ ha _=>by
 have h1:min b 64=b:=by omega
 have h2:¬ ((b:Int)<0):=by omega
 have h3:IntKind.u64.wrap ((a:Int)*2^b)=(z:Int):=by
  rw [S9,← h.2,Int.natCast_emod,Int.natCast_mul,Int.natCast_pow];rfl
 simp [execOp,ha.ev hx,ha.ev hy,eqGuard,binOp,Op.shift,IntKind.bits,h1,h2,h3]
theorem Rv (hx:ev m x=some (.int .u64 (a:Int))) (hy:ev m y=some (.int k (b:Int))) (z:Nat) (h:b≤64∧a / 2^b=z):Qt P N m S (.binOp .shr T x y yT) ty (.int .u64 (z:Int)):=fun s w _ _ _ _ ha _=>by
 have h1:min b 64=b:=by omega
 have h2:¬ ((b:Int)<0):=by omega
 have h3:(a:Int) / 2^b=(z:Int):=by
  rw [← h.2,Int.natCast_ediv,Int.natCast_pow];rfl
 simp [execOp,ha.ev hx,ha.ev hy,eqGuard,binOp,Op.shift,IntKind.bits,h1,h2]
 exact h3
theorem Vr (n:Nat) (h:n<18446744073709551616):(BitVec.ofInt 64 (n:Int)).toNat=n:=by
 rw [BitVec.toNat_ofInt]
 have h3:(((2^64:Nat):Int))=18446744073709551616:=by decide
 rw [h3];omega
theorem CB (hx:ev m x=some (.int .u64 (a:Int))) (hy:ev m y=some (.int .u64 ((4294967295:Nat):Int))) (z:Nat) (h:a<18446744073709551616∧a%4294967296=z):Qt P N m S (.binOp .and T x y yT) ty (.int .u64 (z:Int)):=fun s w _ _ _ _ ha _=>by
 have e:IntKind.u64.wrap (((BitVec.ofInt 64 (a:Int) &&& BitVec.ofInt 64 ((4294967295:Nat):Int)).toNat:Nat):Int)=(z:Int):=by
  rw [BitVec.toNat_and,Vr a h.1,Vr _ (by decide),show(4294967295:Nat)=2^32 - 1 by decide,Nat.and_two_pow_sub_one_eq_mod,S9]
  have:=h.2
  omega
 have e2:(do eqGuard .and T x y (.int .u64 (a:Int)) (.int .u64 ((4294967295:Nat):Int));binOp .and T (.int .u64 (a:Int)) (.int .u64 ((4294967295:Nat):Int)):Sem Value).run P w = .ok (.int .u64 (z:Int)) w:=by
  simp only [eqGuard,binOp,Op.intBits,Sem.run_bind,Sem.run_pure,Result.andThen_ok]
  rw [← e];rfl
 simp only [execOp,ha.ev hx,ha.ev hy]
 simp only [Sem.run_bind] at e2 ⊢
 rw [e2];rfl
theorem kE (hx:ev m x=some (.int .u64 (a:Int))) (hy:ev m y=some (.int .u64 (b:Int))) (z:Nat) (h:a<18446744073709551616∧(∃ c k,a=c*2^k∧b<2^k)∧b<18446744073709551616∧a+b=z):Qt P N m S (.binOp .or T x y yT) ty (.int .u64 (z:Int)):=fun s w _ _ _ _ ha _=>by
 obtain ⟨h1,⟨c,k,h2,h3⟩,h4,h5⟩:=h
 have e:IntKind.u64.wrap (((BitVec.ofInt 64 (a:Int) ||| BitVec.ofInt 64 (b:Int)).toNat:Nat):Int)=(z:Int):=by
  have h7:a ||| b=a+b:=by rw [h2,Nat.mul_comm,Nat.two_pow_add_eq_or_of_lt h3]
  have h8:a ||| b<2^64:=Nat.or_lt_two_pow h1 h4
  rw [BitVec.toNat_or,Vr a h1,Vr b h4,S9]
  omega
 have e2:(do eqGuard .or T x y (.int .u64 (a:Int)) (.int .u64 (b:Int));binOp .or T (.int .u64 (a:Int)) (.int .u64 (b:Int)):Sem Value).run P w = .ok (.int .u64 (z:Int)) w:=by
  simp only [eqGuard,binOp,Op.intBits,Sem.run_bind,Sem.run_pure,Result.andThen_ok]
  rw [← e];rfl
 simp only [execOp,ha.ev hx,ha.ev hy]
 simp only [Sem.run_bind] at e2 ⊢
 rw [e2];rfl
theorem WV (hx:ev m x=some (.int .u64 (a:Int))) (hy:ev m y=some (.int .u64 (b:Int))) (z:Nat) (h:(a+b)%18446744073709551616=z):Qt P N m S (.binOp .add T x y yT) ty (.int .u64 (z:Int)) :=
 QU hx hy (by show some (Value.int .u64 (IntKind.u64.wrap ((a:Int)+b)))=_;rw [S9];congr 2;omega)
theorem VN (hx:ev m x=some (.int .u64 (a:Int))) (hy:ev m y=some (.int .u64 (b:Int))) (z:Nat) (h:a*b%18446744073709551616=z):Qt P N m S (.binOp .mul T x y yT) ty (.int .u64 (z:Int)) :=
 QU hx hy (by show some (Value.int .u64 (IntKind.u64.wrap ((a:Int)*b)))=_;rw [S9,← Int.natCast_mul];congr 2;omega)
theorem WU (hx:ev m x=some (.int .u64 (a:Int))) (hy:ev m y=some (.int .u64 (b:Int))) (z:Nat) (h:b<18446744073709551616∧(a+18446744073709551616 - b)%18446744073709551616=z):Qt P N m S (.binOp .sub T x y yT) ty (.int .u64 (z:Int)) :=
 QU hx hy (by show some (Value.int .u64 (IntKind.u64.wrap ((a:Int) - b)))=_;rw [S9];congr 2;omega)
theorem Ai (hx:ev m x=some (.int .u64 (a:Int))) (hy:ev m y=some (.int .u64 (b:Int))) (z:Nat) (h:0<b∧a<18446744073709551616∧a / b=z):Qt P N m S (.binOp .quo T x y yT) ty (.int .u64 (z:Int)):=by
 have:=F9 (P:=P) (N:=N) (m:=m) (S:=S) (ty:=ty) (T:=T) (yT:=yT) hx hy (by omega)
 have e:IntKind.u64.wrap ((a:Int).tdiv b)=(z:Int):=by
  have h1:a / b≤a:=Nat.div_le_self a b
  rw [Int.tdiv_eq_ediv_of_nonneg (by omega),← Int.natCast_ediv,S9,h.2.2]
  omega
 rw [e] at this;exact this
theorem zV (hx:ev m x=some (.int .u64 (a:Int))) (hy:ev m y=some (.int .u64 (b:Int))) (z:Nat) (h:0<b∧a%b=z):Qt P N m S (.binOp .rem T x y yT) ty (.int .u64 (z:Int)):=by
 have:=Y9 (P:=P) (N:=N) (m:=m) (S:=S) (ty:=ty) (T:=T) (yT:=yT) hx hy (by omega) (by omega)
 rw [← Int.natCast_emod,h.2] at this;exact this
end
section
variable {D yn1 yn0 u un q r:Nat}
theorem Cw (hD:D=4294967296) (h:q*yn1+r=u) (hc:q*yn0≤D*r+un):q*(yn1*D+yn0)≤u*D+un:=by
 subst hD
 rw [Nat.mul_add,← Nat.mul_assoc,← h]
 generalize q*yn1=A at *
 generalize q*yn0=B at *
 omega
theorem jr (hy:0<yn1*D+yn0) (hq:(u*D+un) / (yn1*D+yn0)≤q) (h:q*(yn1*D+yn0)≤u*D+un):q=(u*D+un) / (yn1*D+yn0) :=
 Nat.le_antisymm ((Nat.le_div_iff_mul_le hy).2 h) hq
theorem Dl (hD:D=4294967296) (hy:0<yn1*D+yn0) (h:q*yn1+r=u) (hq:(u*D+un) / (yn1*D+yn0)≤q) (hc:q*yn0≤D*r+un):q=(u*D+un) / (yn1*D+yn0):=jr hy hq (Cw hD h hc)
theorem Bp (hD:D=4294967296) (hy:0<yn1*D+yn0) (h0:yn0<D) (h:q*yn1+r=u) (hq:(u*D+un) / (yn1*D+yn0)≤q) (hqD:q≤D) (hr:D≤r):q=(u*D+un) / (yn1*D+yn0):=by
 refine Dl hD hy h hq ?_
 have h1:q*yn0≤D*D:=Nat.mul_le_mul hqD (by omega)
 have h2:D*D≤D*r:=Nat.mul_le_mul_left D hr
 omega
theorem Yh (hD:D=4294967296) (hy:0<yn1*D+yn0) (hu:u<yn1*D+yn0) (hun:un<D) (h:q*yn1+r=u) (hc:D≤q∨D*r+un<q*yn0):(u*D+un) / (yn1*D+yn0)<q:=by
 rw [Nat.div_lt_iff_lt_mul hy]
 rcases hc with hc | hc
 ·have h1:D*(yn1*D+yn0)≤q*(yn1*D+yn0):=Nat.mul_le_mul_right _ hc
  have h2:(u+1)*D≤(yn1*D+yn0)*D:=Nat.mul_le_mul_right _ hu
  rw [Nat.add_mul] at h2
  rw [Nat.mul_comm D] at h1
  omega
 ·subst hD
  rw [Nat.mul_add,← Nat.mul_assoc,← h]
  generalize q*yn1=A at *
  generalize q*yn0=B at *
  omega
theorem Nh (hD:D=4294967296) (h1:2147483648≤yn1) (hun:un<D):(u*D+un) / (yn1*D+yn0)≤u / yn1:=by
 have h2:0<yn1*D:=by subst hD;omega
 refine Nat.le_trans (Nat.div_le_div_left (Nat.le_add_right _ yn0) h2) ?_
 rw [Nat.mul_comm yn1,← Nat.div_div_eq_div_mul]
 have:(u*D+un) / D=u:=by subst hD;omega
 rw [this];exact Nat.le_refl _
theorem EL (hD:D=4294967296) (h1:2147483648≤yn1) (h0:yn0<D) (hu:u<yn1*D+yn0):u / yn1≤D+1:=by
 have:u / yn1<D+2:=by
  rw [Nat.div_lt_iff_lt_mul (by omega)]
  subst hD;omega
 omega
end
structure Rb (yn1 yn0 u un:Nat) where
 q:Nat
 r:Nat
 h:q*yn1+r=u
 le:(u*4294967296+un) / (yn1*4294967296+yn0)≤q
 up:q≤4294967297
 lo:r<4294967296
end
section
open Go.RowKit
theorem Yg {q yn1 r u:Nat} (h:q*yn1+r=u) (hq:1≤q):(q - 1)*yn1+(r+yn1)=u:=by
 obtain ⟨k,rfl⟩:∃ k,q=k+1:=⟨q - 1,by omega⟩
 rw [Nat.add_mul] at h
 rw [Nat.add_sub_cancel];omega
theorem IS {q a:Nat} (hq:q<4294967296) (ha:a<4294967296):q*a<18446744073709551616:=by
 have:q*a≤4294967295*4294967295:=Nat.mul_le_mul (by omega) (by omega)
 omega
theorem IC {P:Program} {N:Nat} {m:Sl} {S:World→Prop} {ty:TypeId} {src dst:TypeId} {x:Operand} {k':IntKind} {n:Nat} (hx:ev m x=some (.int k' (n:Int))) (hs:(P.underlying src).isSome=true) (hk:RH P dst=some .u64) (h:n<18446744073709551616):Qt P N m S (.convert src dst x) ty (.int .u64 (n:Int)):=by
 have:=Px (P:=P) (N:=N) (m:=m) (S:=S) (ty:=ty) hx hs hk
 rw [S9,Int.emod_eq_of_lt (by omega) (by omega)] at this;exact this
theorem QT.same [Dr] {P:Program} {f:FuncId} {args:List Value} {w:World} {F:Gs} {v:Value} (he:Enters P f) (hF:Fits F w) (h:Calls P f args.toArray w fun e w'=>e = .returned v∧w'=w):QT P f args w F (fun(_:Unit)=>v) (fun _ _=>True) :=
 ⟨he,h.mono fun e w' ⟨h1,h2⟩=>⟨(),F,h1,by rw [h2];exact Pd.refl _,Gs.le_refl F,fun _ _=>rfl,by rw [h2];exact hF,fun _ _=>trivial⟩⟩
theorem IJ {y:Nat} (h0:0<y) (h1:y<18446744073709551616):∃ s:Nat,(64 - (Lib.bitLen y:Int))=s∧s<64∧y*2^s<18446744073709551616∧9223372036854775808≤y*2^s:=by
 obtain ⟨g1,g2,g3⟩:=Lib.bitLenAux_bounds 64 y h1 (by omega)
 have g4:Lib.bitLen y≤64:=Lib.bitLen_le y 64 (by omega) h1
 change 1≤Lib.bitLen y at g1
 change 2^(Lib.bitLen y - 1)≤y at g2
 change y<2^Lib.bitLen y at g3
 generalize Lib.bitLen y=n at *
 refine⟨64 - n,by omega,by omega,?_,?_⟩
 ·have e:2^n*2^(64 - n)=18446744073709551616:=by rw [← Nat.pow_add,show n+(64 - n)=64 by omega]
  rw [← e];exact Nat.mul_lt_mul_of_pos_right g3 (Nat.two_pow_pos _)
 ·have e:2^(n - 1)*2^(64 - n)=9223372036854775808:=by rw [← Nat.pow_add,show n - 1+(64 - n)=63 by omega]
  rw [← e];exact Nat.mul_le_mul_right _ g2
theorem z7 {w:World} {F:Gs} {y s:Nat} (hF:Fits F w) (h1:y<18446744073709551616) (hs:(64 - (Lib.bitLen y:Int))=s):QT Tryz.prog 285 [.int .u64 (y:Int)] w F (fun(_:Unit)=>.int .i64 (s:Int)) (fun _ _=>True) :=
 QT.same (enters_of Tryz.func285 (by rfl) rfl) hF ((Tryz.bits_LeadingZeros64 (y:Int) w (by omega) (by omega)).mono fun e w' ⟨h2,h3⟩=>⟨by rw [h2,Int.toNat_natCast,hs],h3⟩)
theorem LZ {A B R1 R0 u v v1 v0:Nat} (h1:A+R1=u*4294967296+v1) (h2:B+R0=R1*4294967296+v0) (h3:v=v1*4294967296+v0):A*4294967296+B+R0=u*18446744073709551616+v:=by
 subst h3;omega
theorem Uf {q a r:Nat} (h:((q*a:Nat):Int)>(r:Int)):1≤q:=by
 rcases Nat.eq_zero_or_pos q with h0 | h0
 ·subst h0;simp at h;omega
 ·exact h0
theorem yE {q:Nat} (h:q<4294967296):q*4294967296%18446744073709551616=q*4294967296:=by omega
theorem yF {q p:Nat} (h:q<4294967296) (k:p<4294967296):(q*4294967296+p)%18446744073709551616=q*4294967296+p:=by omega
theorem j0 {w:World} {F:Gs} {h l y:Nat} (hF:Fits F w) (hh:h<y) (hl:l<18446744073709551616) (hy:y<18446744073709551616) :
  QT Tryz.prog 284 [.int .u64 (h:Int),.int .u64 (l:Int),.int .u64 (y:Int)] w F (fun(_:Unit)=>.tuple #[.int .u64 (((h*18446744073709551616+l) / y:Nat):Int),.int .u64 (((h*18446744073709551616+l)%y:Nat):Int)]) (fun _ _=>True):=by
 obtain ⟨s,hs,hs64,hY1,hY2⟩:=IJ (by omega) hy
 obtain ⟨Y,hYe⟩:∃ Y,Y=y*2^s:=⟨_,rfl⟩
 obtain ⟨a1,ha1⟩:∃ a1,a1=Y / 4294967296:=⟨_,rfl⟩
 obtain ⟨a0,ha0⟩:∃ a0,a0=Y%4294967296:=⟨_,rfl⟩
 obtain ⟨u,hu⟩:∃ u,u=h*2^s+l / 2^(64 - s):=⟨_,rfl⟩
 obtain ⟨v,hv⟩:∃ v,v=l*2^s%18446744073709551616:=⟨_,rfl⟩
 obtain ⟨v1,hv1⟩:∃ v1,v1=v / 4294967296:=⟨_,rfl⟩
 obtain ⟨v0,hv0⟩:∃ v0,v0=v%4294967296:=⟨_,rfl⟩
 rw [← hYe] at hY1 hY2
 have hA1:2147483648≤a1:=by omega
 have ha0l:a0<4294967296:=by omega
 have hv1l:v1<4294967296:=by omega
 have hv0l:v0<4294967296:=by omega
 have hYa:a1*4294967296+a0=Y:=by omega
 have e64:2^(64 - s)*2^s=18446744073709551616:=by rw [← Nat.pow_add,show 64 - s+s=64 by omega]
 have hp:=Nat.two_pow_pos s
 have hlow:l / 2^(64 - s)<2^s:=by rw [Nat.div_lt_iff_lt_mul (Nat.two_pow_pos _),Nat.mul_comm,e64];exact hl
 have hhs:h*2^s+2^s≤Y:=by have:=Nat.mul_le_mul_right (2^s) hh;rw [Nat.succ_mul] at this;omega
 have huY:u<Y:=by omega
 have hNv:u*18446744073709551616+v=(h*18446744073709551616+l)*2^s:=by
  have h1:l*2^s / 18446744073709551616=l / 2^(64 - s):=by rw [← e64,Nat.mul_div_mul_right _ _ hp]
  have h2:=Nat.div_add_mod (l*2^s) 18446744073709551616
  rw [h1,← hv] at h2
  rw [hu,Nat.add_mul,Nat.add_mul,Nat.mul_right_comm]
  omega
 obtain ⟨Q1,hQ1⟩:∃ Q1,Q1=(u*4294967296+v1) / (a1*4294967296+a0):=⟨_,rfl⟩
 obtain ⟨R1,hR1⟩:∃ R1,R1=(u*4294967296+v1)%(a1*4294967296+a0):=⟨_,rfl⟩
 have hY0:0<a1*4294967296+a0:=by omega
 have hR1l:R1<Y:=by rw [hR1,← hYa];exact Nat.mod_lt _ hY0
 have hD1:Q1*Y+R1=u*4294967296+v1:=by rw [hQ1,hR1,← hYa,Nat.mul_comm];exact Nat.div_add_mod _ _
 have hQ1l:Q1<4294967296:=by rw [hQ1,Nat.div_lt_iff_lt_mul hY0,hYa];omega
 obtain ⟨Q0,hQ0⟩:∃ Q0,Q0=(R1*4294967296+v0) / (a1*4294967296+a0):=⟨_,rfl⟩
 obtain ⟨R0,hR0⟩:∃ R0,R0=(R1*4294967296+v0)%(a1*4294967296+a0):=⟨_,rfl⟩
 have hR0l:R0<Y:=by rw [hR0,← hYa];exact Nat.mod_lt _ hY0
 have hD0:Q0*Y+R0=R1*4294967296+v0:=by rw [hQ0,hR0,← hYa,Nat.mul_comm];exact Nat.div_add_mod _ _
 have hQ0l:Q0<4294967296:=by rw [hQ0,Nat.div_lt_iff_lt_mul hY0,hYa];omega
 have hall:(Q1*4294967296+Q0)*Y+R0=(h*18446744073709551616+l)*2^s:=by
  rw [← hNv,Nat.add_mul,Nat.mul_right_comm]
  exact LZ hD1 hD0 (by omega)
 have hq:(h*18446744073709551616+l) / y=Q1*4294967296+Q0:=by
  have:=Nat.mul_div_mul_right (h*18446744073709551616+l) y hp
  rw [← this,← hall,← hYe,Nat.mul_comm _ Y,Nat.mul_add_div (by omega),Nat.div_eq_of_lt hR0l,Nat.add_zero]
 have hr:(h*18446744073709551616+l)%y=R0 / 2^s:=by
  have:=Nat.mul_mod_mul_right (2^s) (h*18446744073709551616+l) y
  rw [← hall,← hYe,Nat.mul_comm _ Y,Nat.mul_add_mod,Nat.mod_eq_of_lt hR0l] at this
  rw [this,Nat.mul_div_cancel _ hp]
 refine QT.intro (G:=fun _=>True) Tryz.func284 rfl (by rfl) rfl rfl hF (fun F' hF'=>trivial)<|QG<|QB<|QA (QE rfl)<|QA (QE rfl)<|QF<|QD<|QG<|QG<|QB<|QA (QC rfl)<|QA (QU rfl rfl rfl)<|QF<|QD ?_
 refine QO rfl (fun hc=>?_) (fun hc=>?_)
 ·exact absurd hc (by simp at hc;omega)
 ·
  refine QN<|QD<|QG<|QG<|QB<|QA (QC rfl)<|QA (QC rfl)<|QA (QU rfl rfl rfl)<|QF<|QD ?_
  refine QO rfl (fun hc=>?_) (fun hc=>?_)
  ·exact absurd hc (by simp at hc;omega)
  ·
   refine QN<|QD<|QG<|QG<|QB<|QA (QC rfl)<|QA (QU rfl rfl rfl)<|QF<|QD ?_
   refine QO rfl (fun hc=>?_) (fun hc=>?_)
   ·
    refine QG<|JQ (List.Sublist.refl _) mixed (by kernel_rfl)<|QM (QC rfl)<|QM (QC rfl)<|QM (Ai rfl rfl (l / y) (⟨by omega,by omega,rfl⟩))<|QM (QC rfl)<|QM (QC rfl)<|QM (zV rfl rfl (l%y) (⟨by omega,rfl⟩))<|QM (QE rfl)<|QM (QE rfl)<|Q3<|QD<|QS ?_
    exact JH () rfl (.tmp rfl (.tmp rfl .nil)) (by have h0:h=0:=(by simp at hc;omega);subst h0;simp) (fun _ _=>trivial)
   ·
    refine QN<|QD<|QG<|QB<|QA (QC rfl)<|QH rfl (fun w F hF hG=>z7 (s:=s) hF (by omega) hs) (fun c35=>QA (IC rfl y6 xt (by omega))<|QA (QE rfl)<|QF<|QD<|QG<|QB<|QA (QC rfl)<|QA (QC rfl)<|QA (Ah rfl rfl (Y) (⟨by omega,by rw [← hYe];omega⟩))<|QA (QE rfl)<|QF<|QD<|QG<|QB<|QA (QC rfl)<|QA (Rv (b:=32) rfl rfl (a1) (⟨by decide,ha1.symm⟩))<|QA (QE rfl)<|QF<|QD ?_)
    refine QG<|QB<|QA (QC rfl)<|QA (CB rfl rfl (a0) (⟨by omega,ha0.symm⟩))<|QA (QE rfl)<|QF<|QD<|QG<|QB<|QA (QC rfl)<|QA (QC rfl)<|QA (Ah rfl rfl (h*2^s) (⟨by omega,Nat.mod_eq_of_lt (by omega)⟩))<|QA (QC rfl)<|QA (QC rfl)<|QA (WU (a:=64) rfl rfl (64 - s) (⟨by omega,by omega⟩))<|QA (Rv rfl rfl (l / 2^(64 - s)) (⟨by omega,rfl⟩))<|QA (kE rfl rfl (u) (⟨by omega,⟨h,s,rfl,hlow⟩,by omega,hu.symm⟩))<|QA (QE rfl)<|QF<|QD<|QG<|QB<|QA (QC rfl)<|QA (QC rfl)<|QA (Ah rfl rfl (v) (⟨by omega,hv.symm⟩)) ?_
    refine QA (QE rfl)<|QF<|QD<|QG<|QB<|QA (QC rfl)<|QA (Rv (b:=32) rfl rfl (v1) (⟨by decide,hv1.symm⟩))<|QA (QE rfl)<|QF<|QD<|QG<|QB<|QA (QC rfl)<|QA (CB rfl rfl (v0) (⟨by omega,hv0.symm⟩))<|QA (QE rfl)<|QF<|QD<|QG<|QB<|QA (QC rfl)<|QA (QC rfl)<|QA (Ai rfl rfl (u / a1) (⟨by omega,by omega,rfl⟩))<|QA (QE rfl)<|QF<|QD ?_
    refine QG<|QB<|QA (QC rfl)<|QA (QC rfl)<|QA (QC rfl)<|QA (VN rfl rfl (u / a1*a1) (by have:=Nat.div_mul_le_self u a1;omega))<|QA (WU rfl rfl (u%a1) (by have:=Nat.div_add_mod u a1;rw [Nat.mul_comm] at this;have:=Nat.div_mul_le_self u a1;omega))<|QA (QE rfl)<|QF<|QD ?_
    refine Kq (ι:=Unit) (fun _=>[(2,.int .u64 ((Y:Nat):Int)),(8,.int .u64 ((s:Nat):Int)),(9,.int .u64 ((a1:Nat):Int)),(10,.int .u64 ((a0:Nat):Int)),(11,.int .u64 ((u:Nat):Int)),(13,.int .u64 ((v1:Nat):Int)),(14,.int .u64 ((v0:Nat):Int)),(15,.int .u64 ((Q1:Nat):Int))]) (fun _=>[]) (fun _ _=>True) ?_ ?_
    ·
     refine Qa<|XS (ι:=Rb a1 a0 u v1) (fun i=>[(2,.int .u64 ((Y:Nat):Int)),(8,.int .u64 ((s:Nat):Int)),(9,.int .u64 ((a1:Nat):Int)),(10,.int .u64 ((a0:Nat):Int)),(11,.int .u64 ((u:Nat):Int)),(13,.int .u64 ((v1:Nat):Int)),(14,.int .u64 ((v0:Nat):Int)),(15,.int .u64 ((i.q:Nat):Int)),(16,.int .u64 ((i.r:Nat):Int))]) (fun _=>[]) (fun _ _=>True) (fun i=>i.q) ⟨u / a1,u%a1,by rw [Nat.mul_comm];exact Nat.div_add_mod u a1,Nh rfl hA1 hv1l,EL rfl hA1 ha0l (by omega),by have:=Nat.mod_lt u (show a1>0 by omega);omega⟩ ⟨rfl,rfl,rfl,rfl,rfl,rfl,rfl,rfl,rfl,trivial⟩ (List.Sublist.refl _) (fun _ _=>trivial) (fun i=>QG<|QG<|QB<|QA (QC rfl)<|QA (QU rfl rfl rfl)<|QA (QC rfl) ?_)
     refine Qk (t:=69) rfl (fun hb69=>?_) (fun hb69=>?_)
     ·
      refine QR rfl rfl rfl<|QR rfl rfl rfl<|QR rfl rfl rfl<|QR rfl rfl rfl<|QR rfl rfl rfl<|QR rfl rfl rfl<|QR rfl rfl rfl<|QR rfl rfl rfl<|QA (Qi rfl rfl rfl)<|QF<|QD ?_
      refine QO rfl (fun hc=>?_) (fun hc=>?_)
      ·
       refine QN<|QD<|Qa<|QG<|QB<|QA (QC rfl)<|QA (WU (b:=1) rfl rfl (i.q - 1) (⟨by decide,by have:=i.up;have:=of_decide_eq_true hb69;omega⟩))<|QA (QE rfl)<|QF<|QD<|QG<|QB<|QA (QC rfl)<|QA (QC rfl)<|QA (WV rfl rfl (i.r+a1) (by have:=i.lo;omega))<|QA (QE rfl)<|QF<|QD<|QG<|QB<|QA (QC rfl)<|QA (QU rfl rfl rfl)<|QF<|QD ?_
       refine QO rfl (fun hc=>?_) (fun hc=>?_)
       ·
        refine Q6 ?_
        repeat (first | refine Qc ?_ | refine QX (by rfl) ?_)
        refine Qd ?_
        simp only [decide_eq_true_eq] at *;have more:=Yh (un:=v1) (D:=4294967296) rfl (by omega) (by omega) (by omega) i.h (.inl (by omega));exact J9 () ⟨rfl,rfl,rfl,rfl,rfl,rfl,rfl,congrArg (fun n:Nat=>some (Value.int .u64 (n:Int))) ((Bp rfl (by omega) ha0l (Yg i.h (by omega)) (by rw [← hQ1];rw [← hQ1] at more;omega) (by have:=i.up;omega) (by omega)).trans hQ1.symm),trivial⟩ (List.Sublist.refl _) (fun _ _=>trivial)
       ·
        refine QN<|Qm ?_
        simp only [decide_eq_true_eq,decide_eq_false_iff_not] at *;have more:=Yh (un:=v1) (D:=4294967296) rfl (by omega) (by omega) (by omega) i.h (.inl (by omega));exact Qo (⟨i.q - 1,i.r+a1,Yg i.h (by omega),by omega,by have:=i.up;omega,by omega⟩:Rb a1 a0 u v1) (by show i.q - 1<i.q;omega) ⟨rfl,rfl,rfl,rfl,rfl,rfl,rfl,rfl,rfl,trivial⟩ (List.Sublist.refl _) (fun _ _=>trivial)
      ·
       refine Q6 ?_
       repeat (first | refine Qc ?_ | refine QX (by rfl) ?_)
       refine Qd ?_
       cases hc
     ·
      refine QJ rfl rfl<|QA (QC rfl)<|QJ rfl rfl<|QA (QC rfl)<|QJ rfl rfl<|QA (VN rfl rfl (i.q*a0) (Nat.mod_eq_of_lt (IS (by have:=of_decide_eq_false hb69;omega) ha0l)))<|QJ rfl rfl<|QA (QC rfl)<|QJ rfl rfl<|QA (VN (a:=4294967296) rfl rfl (4294967296*i.r) (by have:=i.lo;omega))<|QJ rfl rfl<|QA (QC rfl)<|QJ rfl rfl<|QA (WV rfl rfl (4294967296*i.r+v1) (by have:=i.lo;omega))<|QJ rfl rfl<|QA (QU rfl rfl rfl)<|QA (Qh rfl rfl rfl)<|QF<|QD ?_
      refine QO rfl (fun hc=>?_) (fun hc=>?_)
      ·
       refine QN<|QD<|Qa<|QG<|QB<|QA (QC rfl)<|QA (WU (b:=1) rfl rfl (i.q - 1) (⟨by decide,by have:=i.up;have:=Uf (of_decide_eq_true hc);omega⟩))<|QA (QE rfl)<|QF<|QD<|QG<|QB<|QA (QC rfl)<|QA (QC rfl)<|QA (WV rfl rfl (i.r+a1) (by have:=i.lo;omega))<|QA (QE rfl)<|QF<|QD<|QG<|QB<|QA (QC rfl)<|QA (QU rfl rfl rfl)<|QF<|QD ?_
       refine QO rfl (fun hc=>?_) (fun hc=>?_)
       ·
        refine Q6 ?_
        repeat (first | refine Qc ?_ | refine QX (by rfl) ?_)
        refine Qd ?_
        simp only [decide_eq_true_eq] at *;have more:=Yh (un:=v1) (D:=4294967296) rfl (by omega) (by omega) (by omega) i.h (.inr (by omega));exact J9 () ⟨rfl,rfl,rfl,rfl,rfl,rfl,rfl,congrArg (fun n:Nat=>some (Value.int .u64 (n:Int))) ((Bp rfl (by omega) ha0l (Yg i.h (by omega)) (by rw [← hQ1];rw [← hQ1] at more;omega) (by have:=i.up;omega) (by omega)).trans hQ1.symm),trivial⟩ (List.Sublist.refl _) (fun _ _=>trivial)
       ·
        refine QN<|Qm ?_
        simp only [decide_eq_true_eq,decide_eq_false_iff_not] at *;have more:=Yh (un:=v1) (D:=4294967296) rfl (by omega) (by omega) (by omega) i.h (.inr (by omega));exact Qo (⟨i.q - 1,i.r+a1,Yg i.h (by omega),by omega,by have:=i.up;omega,by omega⟩:Rb a1 a0 u v1) (by show i.q - 1<i.q;omega) ⟨rfl,rfl,rfl,rfl,rfl,rfl,rfl,rfl,rfl,trivial⟩ (List.Sublist.refl _) (fun _ _=>trivial)
      ·
       refine Q6 ?_
       repeat (first | refine Qc ?_ | refine QX (by rfl) ?_)
       refine Qd ?_
       simp only [decide_eq_false_iff_not] at *;exact J9 () ⟨rfl,rfl,rfl,rfl,rfl,rfl,rfl,congrArg (fun n:Nat=>some (Value.int .u64 (n:Int))) ((Dl rfl (by omega) i.h i.le (by omega)).trans hQ1.symm),trivial⟩ (List.Sublist.refl _) (fun _ _=>trivial)
    ·intro i
     refine QG<|QB<|QA (QC rfl)<|QA (VN (b:=4294967296) rfl rfl (u*4294967296%18446744073709551616) (rfl))<|QA (QC rfl)<|QA (WV rfl rfl ((u*4294967296+v1)%18446744073709551616) (by omega))<|QA (QC rfl)<|QA (QC rfl)<|QA (VN rfl rfl (Q1*Y%18446744073709551616) (rfl))<|QA (WU rfl rfl (R1) (⟨by omega,by generalize Q1*Y=B at *;omega⟩))<|QA (QE rfl)<|QF<|QD<|QG<|QB<|QA (QC rfl)<|QA (QC rfl)<|QA (Ai rfl rfl (R1 / a1) (⟨by omega,by omega,rfl⟩))<|QA (QE rfl)<|QF<|QD<|QG<|QB<|QA (QC rfl)<|QA (QC rfl) ?_
     refine QA (QC rfl)<|QA (VN rfl rfl (R1 / a1*a1) (by have:=Nat.div_mul_le_self R1 a1;omega))<|QA (WU rfl rfl (R1%a1) (by have:=Nat.div_add_mod R1 a1;rw [Nat.mul_comm] at this;have:=Nat.div_mul_le_self R1 a1;omega))<|QA (QE rfl)<|QF<|QD ?_
     refine Kq (ι:=Unit) (fun _=>[(2,.int .u64 ((Y:Nat):Int)),(8,.int .u64 ((s:Nat):Int)),(14,.int .u64 ((v0:Nat):Int)),(15,.int .u64 ((Q1:Nat):Int)),(17,.int .u64 ((R1:Nat):Int)),(18,.int .u64 ((Q0:Nat):Int))]) (fun _=>[]) (fun _ _=>True) ?_ ?_
     ·
      refine Qa<|XS (ι:=Rb a1 a0 R1 v0) (fun i=>[(2,.int .u64 ((Y:Nat):Int)),(8,.int .u64 ((s:Nat):Int)),(9,.int .u64 ((a1:Nat):Int)),(10,.int .u64 ((a0:Nat):Int)),(14,.int .u64 ((v0:Nat):Int)),(15,.int .u64 ((Q1:Nat):Int)),(17,.int .u64 ((R1:Nat):Int)),(18,.int .u64 ((i.q:Nat):Int)),(16,.int .u64 ((i.r:Nat):Int))]) (fun _=>[]) (fun _ _=>True) (fun i=>i.q) ⟨R1 / a1,R1%a1,by rw [Nat.mul_comm];exact Nat.div_add_mod R1 a1,Nh rfl hA1 hv0l,EL rfl hA1 ha0l (by omega),by have:=Nat.mod_lt R1 (show a1>0 by omega);omega⟩ ⟨rfl,rfl,rfl,rfl,rfl,rfl,rfl,rfl,rfl,trivial⟩ (List.Sublist.refl _) (fun _ _=>trivial) (fun i=>QG<|QG<|QB<|QA (QC rfl)<|QA (QU rfl rfl rfl)<|QA (QC rfl) ?_)
      refine Qk (t:=104) rfl (fun hb104=>?_) (fun hb104=>?_)
      ·
       refine QR rfl rfl rfl<|QR rfl rfl rfl<|QR rfl rfl rfl<|QR rfl rfl rfl<|QR rfl rfl rfl<|QR rfl rfl rfl<|QR rfl rfl rfl<|QR rfl rfl rfl<|QA (Qi rfl rfl rfl)<|QF<|QD ?_
       refine QO rfl (fun hc=>?_) (fun hc=>?_)
       ·
        refine QN<|QD<|Qa<|QG<|QB<|QA (QC rfl)<|QA (WU (b:=1) rfl rfl (i.q - 1) (⟨by decide,by have:=i.up;have:=of_decide_eq_true hb104;omega⟩))<|QA (QE rfl)<|QF<|QD<|QG<|QB<|QA (QC rfl)<|QA (QC rfl)<|QA (WV rfl rfl (i.r+a1) (by have:=i.lo;omega))<|QA (QE rfl)<|QF<|QD<|QG<|QB<|QA (QC rfl)<|QA (QU rfl rfl rfl)<|QF<|QD ?_
        refine QO rfl (fun hc=>?_) (fun hc=>?_)
        ·
         refine Q6 ?_
         repeat (first | refine Qc ?_ | refine QX (by rfl) ?_)
         refine Qd ?_
         simp only [decide_eq_true_eq] at *;have more:=Yh (un:=v0) (D:=4294967296) rfl (by omega) (by omega) (by omega) i.h (.inl (by omega));exact J9 () ⟨rfl,rfl,rfl,rfl,rfl,congrArg (fun n:Nat=>some (Value.int .u64 (n:Int))) ((Bp rfl (by omega) ha0l (Yg i.h (by omega)) (by rw [← hQ0];rw [← hQ0] at more;omega) (by have:=i.up;omega) (by omega)).trans hQ0.symm),trivial⟩ (List.Sublist.refl _) (fun _ _=>trivial)
        ·
         refine QN<|Qm ?_
         simp only [decide_eq_true_eq,decide_eq_false_iff_not] at *;have more:=Yh (un:=v0) (D:=4294967296) rfl (by omega) (by omega) (by omega) i.h (.inl (by omega));exact Qo (⟨i.q - 1,i.r+a1,Yg i.h (by omega),by omega,by have:=i.up;omega,by omega⟩:Rb a1 a0 R1 v0) (by show i.q - 1<i.q;omega) ⟨rfl,rfl,rfl,rfl,rfl,rfl,rfl,rfl,rfl,trivial⟩ (List.Sublist.refl _) (fun _ _=>trivial)
       ·
        refine Q6 ?_
        repeat (first | refine Qc ?_ | refine QX (by rfl) ?_)
        refine Qd ?_
        cases hc
      ·
       refine QJ rfl rfl<|QA (QC rfl)<|QJ rfl rfl<|QA (QC rfl)<|QJ rfl rfl<|QA (VN rfl rfl (i.q*a0) (Nat.mod_eq_of_lt (IS (by have:=of_decide_eq_false hb104;omega) ha0l)))<|QJ rfl rfl<|QA (QC rfl)<|QJ rfl rfl<|QA (VN (a:=4294967296) rfl rfl (4294967296*i.r) (by have:=i.lo;omega))<|QJ rfl rfl<|QA (QC rfl)<|QJ rfl rfl<|QA (WV rfl rfl (4294967296*i.r+v0) (by have:=i.lo;omega))<|QJ rfl rfl<|QA (QU rfl rfl rfl)<|QA (Qh rfl rfl rfl)<|QF<|QD ?_
       refine QO rfl (fun hc=>?_) (fun hc=>?_)
       ·
        refine QN<|QD<|Qa<|QG<|QB<|QA (QC rfl)<|QA (WU (b:=1) rfl rfl (i.q - 1) (⟨by decide,by have:=i.up;have:=Uf (of_decide_eq_true hc);omega⟩))<|QA (QE rfl)<|QF<|QD<|QG<|QB<|QA (QC rfl)<|QA (QC rfl)<|QA (WV rfl rfl (i.r+a1) (by have:=i.lo;omega))<|QA (QE rfl)<|QF<|QD<|QG<|QB<|QA (QC rfl)<|QA (QU rfl rfl rfl)<|QF<|QD ?_
        refine QO rfl (fun hc=>?_) (fun hc=>?_)
        ·
         refine Q6 ?_
         repeat (first | refine Qc ?_ | refine QX (by rfl) ?_)
         refine Qd ?_
         simp only [decide_eq_true_eq] at *;have more:=Yh (un:=v0) (D:=4294967296) rfl (by omega) (by omega) (by omega) i.h (.inr (by omega));exact J9 () ⟨rfl,rfl,rfl,rfl,rfl,congrArg (fun n:Nat=>some (Value.int .u64 (n:Int))) ((Bp rfl (by omega) ha0l (Yg i.h (by omega)) (by rw [← hQ0];rw [← hQ0] at more;omega) (by have:=i.up;omega) (by omega)).trans hQ0.symm),trivial⟩ (List.Sublist.refl _) (fun _ _=>trivial)
        ·
         refine QN<|Qm ?_
         simp only [decide_eq_true_eq,decide_eq_false_iff_not] at *;have more:=Yh (un:=v0) (D:=4294967296) rfl (by omega) (by omega) (by omega) i.h (.inr (by omega));exact Qo (⟨i.q - 1,i.r+a1,Yg i.h (by omega),by omega,by have:=i.up;omega,by omega⟩:Rb a1 a0 R1 v0) (by show i.q - 1<i.q;omega) ⟨rfl,rfl,rfl,rfl,rfl,rfl,rfl,rfl,rfl,trivial⟩ (List.Sublist.refl _) (fun _ _=>trivial)
       ·
        refine Q6 ?_
        repeat (first | refine Qc ?_ | refine QX (by rfl) ?_)
        refine Qd ?_
        simp only [decide_eq_false_iff_not] at *;exact J9 () ⟨rfl,rfl,rfl,rfl,rfl,congrArg (fun n:Nat=>some (Value.int .u64 (n:Int))) ((Dl rfl (by omega) i.h i.le (by omega)).trans hQ0.symm),trivial⟩ (List.Sublist.refl _) (fun _ _=>trivial)
     ·intro i
      refine QG<|QB<|QA (QC rfl)<|QA (VN (b:=4294967296) rfl rfl (Q1*4294967296) (yE hQ1l))<|QA (QC rfl)<|QA (WV rfl rfl (Q1*4294967296+Q0) (yF hQ1l hQ0l))<|QA (QC rfl)<|QA (VN (b:=4294967296) rfl rfl (R1*4294967296%18446744073709551616) (rfl))<|QA (QC rfl)<|QA (WV rfl rfl ((R1*4294967296+v0)%18446744073709551616) (by omega))<|QA (QC rfl)<|QA (QC rfl)<|QA (VN rfl rfl (Q0*Y%18446744073709551616) (rfl))<|QA (WU rfl rfl (R0) (⟨by omega,by generalize Q0*Y=B at *;omega⟩))<|QA (QC rfl)<|QA (Rv rfl rfl (R0 / 2^s) (⟨by omega,rfl⟩))<|QA (QE rfl)<|QA (QE rfl)<|QF<|QD<|QS ?_
      exact JH () rfl (.tmp rfl (.tmp rfl .nil)) (by rw [hq,hr]) (fun _ _=>trivial)
end
section
open Go.RowKit Ig
def Xo (x y:Int):Int:=x*y / W
def Jy (x y:Int):Int:=x*y%W
theorem Yf (x y:Int) (w:World) (hx:0≤x∧x<W) (hy:0≤y∧y<W) :
  Calls Tryz.prog 244 #[.int .u64 x,.int .u64 y] w fun e w'=>e = .returned (.tuple #[.int .u64 (Xo x y),.int .u64 (Jy x y)])∧w=w':=by
 obtain ⟨a,rfl⟩:=Int.eq_ofNat_of_zero_le hx.1
 obtain ⟨b,rfl⟩:=Int.eq_ofNat_of_zero_le hy.1
 have hW:W=18446744073709551616:=rfl
 refine(Tryz.bits_Mul64 a b (by omega) (by omega) w).mono ?_
 rintro e w' ⟨rfl,rfl⟩
 refine⟨?_,rfl⟩
 unfold Xo Jy
 rw [hW]
 simp only [Int.natCast_ediv,Int.natCast_emod,Int.natCast_mul]
 rfl
def FX (h l y:Int):Int:=(h*W+l) / y
def Ll (h l y:Int):Int:=(h*W+l)%y
def AZ (w:World):Gs:=fun b=>match w.heap[b]? with | some (.cells c T _)=>some (c,T) | _=>none
theorem TW (w:World):Fits (AZ w) w:=by
 refine⟨fun b c T h=>?_,fun b c fr h=>?_⟩
 ·unfold AZ at h
  split at h
  ·rename_i c' T' fr e;cases h;exact⟨fr,e⟩
  ·cases h
 ·unfold AZ;rw [h]
theorem RO (h l y:Int) (w:World) (hh:0≤h∧h<y) (hl:0≤l∧l<W) (hy:y<W) :
  Calls Tryz.prog 284 #[.int .u64 h,.int .u64 l,.int .u64 y] w fun e w'=>e = .returned (.tuple #[.int .u64 (FX h l y),.int .u64 (Ll h l y)])∧Ext w w':=by
 obtain ⟨a,rfl⟩:=Int.eq_ofNat_of_zero_le hh.1
 obtain ⟨b,rfl⟩:=Int.eq_ofNat_of_zero_le hl.1
 obtain ⟨c,rfl⟩:=Int.eq_ofNat_of_zero_le (show 0≤y by omega)
 have hW:W=18446744073709551616:=rfl
 refine(j0 (TW w) (h:=a) (l:=b) (y:=c) (by omega) (by omega) (by omega)).2.mono ?_
 rintro e w' ⟨_,F',rfl,hx,_⟩
 refine⟨?_,hx.toBelow⟩
 unfold FX Ll
 rw [hW]
 simp only [Int.natCast_ediv,Int.natCast_emod,Int.natCast_mul,Int.natCast_add]
 rfl
theorem Cq (x:Int) (w:World) (hx:0<x∧x<W) :
  Calls Tryz.prog 285 #[.int .u64 x] w fun e w'=>(∃ s:Nat,e = .returned (.int .i64 s)∧s<64∧x*2^s<W∧9223372036854775808≤x*2^s)∧w=w':=by
 obtain ⟨a,rfl⟩:=Int.eq_ofNat_of_zero_le (show 0≤x by omega)
 have hW:W=18446744073709551616:=rfl
 obtain ⟨s,h1,h2,h3,h4⟩:=IJ (y:=a) (by omega) (by omega)
 refine(Tryz.bits_LeadingZeros64 (a:Int) w (by omega) (by omega)).mono ?_
 rintro e w' ⟨rfl,rfl⟩
 refine⟨⟨s,?_,h2,?_,?_⟩,rfl⟩
 ·rw [Int.toNat_natCast,h1]
 ·rw [hW];have:((a*2^s:Nat):Int)<18446744073709551616:=by omega
  simpa [Int.natCast_mul,Int.natCast_pow] using this
 ·have:(9223372036854775808:Int)≤((a*2^s:Nat):Int):=by omega
  simpa [Int.natCast_mul,Int.natCast_pow] using this
end
section
open Go.RowKit Ig
theorem MA {x y o c:Int} (hx:0≤x∧x<W) (hy:0≤y∧y<W) (ho:0≤o∧o<W) (hc:0≤c∧c<W) :
  (0≤Xo x y∧Xo x y<W)∧(0≤Jy x y∧Jy x y<W) ∧
  (0≤XD (Jy x y) o 0∧XD (Jy x y) o 0<W) ∧
  (0≤Xo x y+Xe (Jy x y) o 0∧Xo x y+Xe (Jy x y) o 0<W) ∧
  (0≤XD (XD (Jy x y) o 0) c 0∧XD (XD (Jy x y) o 0) c 0<W) ∧
  (0≤Xo x y+Xe (Jy x y) o 0+Xe (XD (Jy x y) o 0) c 0∧Xo x y+Xe (Jy x y) o 0+Xe (XD (Jy x y) o 0) c 0<W) ∧
  XD (XD (Jy x y) o 0) c 0+W*(Xo x y+Xe (Jy x y) o 0+Xe (XD (Jy x y) o 0) c 0)=x*y+o+c:=by
 have hm0:0≤x*y:=Int.mul_nonneg hx.1 hy.1
 have hm1:x*y≤(W - 1)*(W - 1):=Int.mul_le_mul (by omega) (by omega) hy.1 (by simp only [Wo];omega)
 have e1:Jy x y+W*Xo x y=x*y:=by unfold Jy Xo;rw [Int.add_comm];exact Int.mul_ediv_add_emod _ _
 have l0:0≤Jy x y:=Int.emod_nonneg _ (by decide)
 have l1:Jy x y<W:=Int.emod_lt_of_pos _ Jk
 have h0:0≤Xo x y:=Int.ediv_nonneg hm0 (by decide)
 generalize x*y=m at *
 generalize Jy x y=lo at *
 generalize Xo x y=hi at *
 have a:=Wn (x:=lo) (y:=o) (c:=0) ⟨l0,l1⟩ ho (by decide)
 generalize XD lo o 0=lo1 at *
 generalize Xe lo o 0=c1 at *
 have a':=Wn (x:=lo1) (y:=c) (c:=0) a.2.1 hc (by decide)
 generalize XD lo1 c 0=lo2 at *
 generalize Xe lo1 c 0=c2 at *
 simp only [Wo] at *
 omega
def Yy (la lb:List Int) (i j:Nat) (x:Int) (o:List Int) (c:Int):Prop :=
 o.length=la.length+lb.length∧DG W o∧(∀ p,i+lb.length≤p→Qf o p=0)∧(0≤c∧c<W) ∧
  dv W o+W^(i+j)*c=dv W (la.take i)*dv W lb+W^i*(x*dv W (lb.take j))
theorem Yy.step {la lb o:List Int} {i j:Nat} {x c:Int} (h:Yy la lb i j x o c) (hx:0≤x∧x<W) (hb:DG W lb) (hj:j<lb.length) (hi:i<la.length) :
  Yy la lb i (j+1) x (o.set (i+j) (XD (XD (Jy x (Qf lb j)) (Qf o (i+j)) 0) c 0))
   (Xo x (Qf lb j)+Xe (Jy x (Qf lb j)) (Qf o (i+j)) 0+Xe (XD (Jy x (Qf lb j)) (Qf o (i+j)) 0) c 0):=by
 obtain ⟨h1,h2,h3,h4,h5⟩:=h
 obtain ⟨_,_,_,_,m1,m2,m3⟩:=MA hx (Jb hb j) (Jb h2 (i+j)) h4
 refine⟨by simpa using h1,h2.set _ m1.1 m1.2,?_,m2,?_⟩
 ·intro p hp
  rw [Vs (by omega),if_neg (by omega)];exact h3 p hp
 ·rw [GL W (by omega),J3,← Nat.add_assoc,Int.pow_succ]
  generalize XD (XD (Jy x (Qf lb j)) (Qf o (i+j)) 0) c 0=lo at *
  generalize Xo x (Qf lb j)+Xe (Jy x (Qf lb j)) (Qf o (i+j)) 0+Xe (XD (Jy x (Qf lb j)) (Qf o (i+j)) 0) c 0=hi at *
  have e:W^(i+j)*(lo+W*hi)=W^(i+j)*(x*Qf lb j+Qf o (i+j)+c):=by rw [m3]
  rw [Int.pow_add] at *
  grind
theorem Yy.row {la lb o:List Int} {i:Nat} {x c:Int} (h:Yy la lb i lb.length x o c) (hi:i<la.length) (hx:x=Qf la i) :
  Yy la lb (i+1) 0 0 (o.set (i+lb.length) c) 0:=by
 obtain ⟨h1,h2,h3,h4,h5⟩:=h
 refine⟨by simpa using h1,h2.set _ h4.1 h4.2,?_,⟨Int.le_refl _,Jk⟩,?_⟩
 ·intro p hp
  rw [Vs (by omega),if_neg (by omega)];exact h3 p (by omega)
 ·rw [GL W (by omega),h3 _ (Nat.le_refl _),J3,← hx]
  rw [List.take_length] at h5
  simp only [Int.mul_zero,Int.add_zero,Int.zero_mul,Int.sub_zero]
  rw [h5];grind
theorem Yy.start (la lb:List Int):Yy la lb 0 0 0 (List.replicate (la.length+lb.length) 0) 0:=by
 refine⟨by simp,DG.replicate Jk _,?_,⟨Int.le_refl _,Jk⟩,by rw [Nr];simp⟩
 intro p _;unfold Qf;split<;>simp
theorem Yy.next {la lb o:List Int} {i:Nat} {c y:Int} (h:Yy la lb i 0 0 o c) (x:Int) (hc:c=0) (hy:y=0):Yy la lb i 0 x o y:=by
 obtain ⟨h1,h2,h3,h4,h5⟩:=h
 subst hc hy
 exact⟨h1,h2,h3,h4,by simpa using h5⟩
theorem Bi (v v':Value) (la lb:List Int) (w:World) (ha:DG W la) (hb:DG W lb) (hs:SL w v Jd la) (hs':SL w v' Jd lb) (h1:la.length≤100000000000) (h2:lb.length≤100000000000) :
  Calls Tryz.prog 246 #[v,v'] w fun e w'=>ZK w (fun v w'=>∃ l,SL w' v Jd l∧DG W l∧NZ l∧dv W l=dv W la*dv W lb) e w':=by
 obtain ⟨q,cap,rfl,hcap,hmax,hca⟩:=hs
 obtain ⟨q',cap',rfl,hcap',hmax',hcb⟩:=hs'
 have HA:=Lib.hid hca;clear hca
 have HB:=Lib.hid hcb;clear hcb
 have hmk:=fun w=>Z7 (la.length+lb.length) (by omega) w
 have ec:((la.length+lb.length:Nat):Int)=(la.length:Int)+lb.length:=by omega
 simp only [ec] at hmk
 clear ec
 go_enter Tryz.func246,Tryz.ntmps246
 go_wp2
 go_loopw [22] (fun i wr=>∃ (k:Nat) (o:List Int),k≤la.length∧i = .int .i64 k∧Yy la lb k 0 0 o 0∧YI wr w.heap.size 248 Jd o∧Ext w wr)
  (fun i _=>la.length - (intOf i).toNat)
 case atStart=>exact⟨0,_,Nat.zero_le _,rfl,Yy.start la lb,YI.made w _ Jd 0 _ _ rfl,(Ext.refl _).alloc _⟩
 case round =>
  obtain ⟨k,o,hk,rfl,hI,hBl,hE⟩:=hrel
  rename_i wr _
  obtain ⟨wo,rfl⟩:∃ wo:World,wo=wr:=⟨_,rfl⟩
  clear hmk
  by_cases hlt:k<la.length
  ·obtain ⟨b,off,rfl,hbl,hc⟩:=HA.out k hlt
   rw [Zh hlt] at hc
   have hc:=hE.cell hc
   simp only [Jd] at hc
   have hx:=Jb ha k
   have HI:=Lib.hid hI;clear hI
   have HBl:=Lib.hid hBl;clear hBl
   go_wp2
   go_loopw [29,8] (fun j c wr=>∃ (m:Nat) (o:List Int) (cc:Int),m≤lb.length∧j = .int .i64 m∧c = .int .u64 cc∧Yy la lb k m (Qf la k) o cc∧YI wr w.heap.size 248 Jd o∧Ext w wr)
    (fun j _ _=>lb.length - (intOf j).toNat)
   case atStart=>exact⟨0,o,0,Nat.zero_le _,rfl,rfl,HI.out.next _ rfl rfl,HBl.out,hE⟩
   case round =>
    clear HI HBl hE hc
    obtain ⟨m,o,cc,hm,rfl,rfl,hI,hBl,hE⟩:=hrel
    by_cases hlt2:m<lb.length
    ·obtain ⟨b2,off2,rfl,hb2,hc2⟩:=HB.out m hlt2
     rw [Zh hlt2] at hc2
     have hc2:=hE.cell hc2
     simp only [Jd] at hc2
     have hst:=hI.step hx hb hlt2 hlt
     obtain ⟨hd1,hd2,hd3,hd4,hd5⟩:=hI
     clear hd3 hd5
     have hd1':=Lib.hid hd1
     have hol:k+m<o.length:=by omega
     clear hd1
     have hy:=Jb hb m
     have ho:=Jb hd2 (k+m)
     have hcell:=hBl.cell (i:=k+m) hol
     rw [Zh hol] at hcell
     simp only [Jd] at hcell
     have hfr:=hBl.frozen (k+m)
     have HBs:=Lib.hid (hBl.set (k+m) (XD (XD (Jy (Qf la k) (Qf lb m)) (Qf o (k+m)) 0) cc 0))
     have HS:=Lib.hid hst
     clear hst hBl
     obtain ⟨g1,g2,g3,g4,g5,g6,_⟩:=MA hx hy ho hd4
     generalize hmy:Xo (Qf la k) (Qf lb m)=mh at *
     generalize hml:Jy (Qf la k) (Qf lb m)=ml at *
     have HMH:=Lib.hid hmy
     have HML:=Lib.hid hml
     clear hmy hml
     have ha1:=fun w=>Yc ml (Qf o (k+m)) 0 g2.1 ho.1 (by decide) (by decide) w
     have ha2:=fun w=>Yc (XD ml (Qf o (k+m)) 0) cc 0 g3.1 hd4.1 (by decide) (by decide) w
     have b1:0≤mh+Xe ml (Qf o (k+m)) 0:=g4.1
     have b2:mh+Xe ml (Qf o (k+m)) 0≤18446744073709551615:=by have:=g4.2;simp only [Wo] at this;omega
     have b3:0≤mh+Xe ml (Qf o (k+m)) 0+Xe (XD ml (Qf o (k+m)) 0) cc 0:=g6.1
     have b4:mh+Xe ml (Qf o (k+m)) 0+Xe (XD ml (Qf o (k+m)) 0) cc 0≤18446744073709551615:=by have:=g6.2;simp only [Wo] at this;omega
     go_wp2_with (go_at_call 244;refine(Yf _ _ _ hx hy).mono ?_;rw [HMH.out,HML.out];rintro e w' ⟨rfl,rfl⟩)
     go_roundw
     case rel=>exact⟨m+1,_,_,by omega,by go_num,rfl,HS.out,HBs.out,Below.setCell hE (by simp) _⟩
     case measure=>simp [intOf];omega
    ·have hk':m=lb.length:=by omega
     subst hk'
     have hst:=hI.row hlt rfl
     obtain ⟨hd1,hd2,hd3,hd4,hd5⟩:=hI
     clear hd3 hd5
     have hol:k+lb.length<o.length:=by omega
     clear hd1
     have hcell:=hBl.cell (i:=k+lb.length) hol
     rw [Zh hol] at hcell
     simp only [Jd] at hcell
     have hfr:=hBl.frozen (k+lb.length)
     have HBs:=Lib.hid (hBl.set (k+lb.length) cc)
     have HS:=Lib.hid hst
     clear hst hBl
     go_wp2
     go_roundw
     case rel=>exact⟨k+1,_,by omega,by go_num,HS.out,HBs.out,Below.setCell hE (by simp) _⟩
     case measure=>simp [intOf];omega
  ·have hk':k=la.length:=by omega
   subst hk'
   obtain ⟨hd1,hd2,hd3,hd4,hd5⟩:=hI
   have hSL:=SL.GG hBl (la.length+lb.length) (by omega) (by omega)
   rw [List.take_of_length_le (by omega),hd1] at hSL
   have HSL:=Lib.hid hSL
   rw [List.take_length] at hd5
   have HF:=Lib.hid hd5
   clear hd5 hSL hd1 hBl
   go_wp2_with (go_at_call 283;refine(KN _ _ _ HSL.out).mono ?_;rintro e w' ⟨⟨v',rfl,hv⟩,rfl⟩)
   go_ret
   exact⟨_,rfl,⟨_,hv,hd2.Q2,Xf _,by rw [J7];have:=HF.out;simpa using this⟩,hE⟩
end
section
open Go.RowKit Ig
def p2 (s:Nat):Int:=2^s
theorem Zz (s:Nat):0<p2 s:=Int.pow_pos (by decide)
theorem Wa {s:Nat} (h:s<64):p2 (64 - s)*p2 s=W:=by
 unfold p2;rw [← Int.pow_add,show 64 - s+s=64 from by omega];rfl
theorem R6:p2 0=1:=rfl
theorem xi {s:Nat} (h:s<64):2*p2 s≤W:=by
 have h1:=Wa h
 have h2:2≤p2 (64 - s):=by
  unfold p2;rw [show 64 - s=(63 - s)+1 from by omega,Int.pow_succ]
  have:=Zz (63 - s);unfold p2 at this;omega
 have h3:2*p2 s≤p2 (64 - s)*p2 s:=Int.mul_le_mul_of_nonneg_right h2 (Int.le_of_lt (Zz s))
 omega
theorem Fv {x:Int} {s:Nat} (hs:s<64):x*p2 s%W=p2 s*(x%p2 (64 - s)):=by
 rw [← Wa hs,Int.mul_comm (p2 (64 - s)) (p2 s),Int.mul_comm x (p2 s),Int.mul_emod_mul_of_pos _ _ (Zz s)]
theorem Ob {x:Int} {s:Nat} (hs:s<64):x*p2 s / W=x / p2 (64 - s):=by
 rw [← Wa hs];exact Int.mul_ediv_mul_of_pos_left x _ (Zz s)
theorem R7 {x h:Int} {s:Nat} (hs:s<64) (h0:0≤h) (h1:h<p2 s):bits .or .u64 h (x*p2 s%W)=h+x*p2 s%W∧h+x*p2 s%W<W:=by
 have e:=Fv (x:=x) hs
 have k0:=Zz (64 - s)
 have b0:0≤x%p2 (64 - s):=Int.emod_nonneg _ (by omega)
 have b1:x%p2 (64 - s)<p2 (64 - s):=Int.emod_lt_of_pos _ k0
 have hb:p2 s*(x%p2 (64 - s))+h<W:=by
  have:p2 s*(x%p2 (64 - s)+1)≤p2 s*p2 (64 - s):=Int.mul_le_mul_of_nonneg_left (by omega) (Int.le_of_lt (Zz s))
  rw [Int.mul_comm (p2 s) (p2 (64 - s)),Wa hs,Int.mul_add] at this;omega
 have hb0:0≤p2 s*(x%p2 (64 - s)):=Int.mul_nonneg (Int.le_of_lt (Zz s)) b0
 rw [e]
 refine⟨?_,by omega⟩
 obtain ⟨a,ha⟩:=Int.eq_ofNat_of_zero_le b0
 obtain ⟨c,rfl⟩:=Int.eq_ofNat_of_zero_le h0
 rw [ha] at *
 have e2:p2 s*(a:Int)=((2^s*a:Nat):Int):=by simp [p2]
 have h1':c<2^s:=by
  have:(c:Int)<((2^s:Nat):Int):=(by simpa [p2] using h1);omega
 rw [e2] at hb ⊢
 have hW:=Wo
 rw [u64_or_nat _ _ (by omega) (by omega),Nat.or_comm,← Nat.two_pow_add_eq_or_of_lt h1']
 omega
def Dy (l:List Int) (s k:Nat) (ds:List Int) (h:Int):Prop :=
 ds.length=k∧DG W ds∧(0≤h∧h<p2 s)∧dv W ds+W^k*h=dv W (l.take k)*p2 s
theorem Dy.step {l ds:List Int} {s k:Nat} {h:Int} (hi:Dy l s k ds h) (hs:s<64) (hl:DG W l) :
  Dy l s (k+1) (ds++[h+Qf l k*p2 s%W]) (Qf l k / p2 (64 - s)):=by
 obtain ⟨h1,h2,h3,h4⟩:=hi
 obtain ⟨_,b⟩:=R7 (x:=Qf l k) hs h3.1 h3.2
 have hd:=Jb hl k
 have l0:0≤Qf l k*p2 s%W:=Int.emod_nonneg _ (by decide)
 have q:=Int.mul_ediv_add_emod (Qf l k*p2 s) W
 have hk:0≤Qf l k / p2 (64 - s)∧Qf l k / p2 (64 - s)<p2 s:=by
  refine⟨Int.ediv_nonneg hd.1 (Int.le_of_lt (Zz _)),?_⟩
  refine Int.ediv_lt_of_lt_mul (Zz _) ?_
  rw [Int.mul_comm,Wa hs];exact hd.2
 refine⟨by simp [h1],h2.append (DG.cons (by omega) b (DG.nil _)),hk,?_⟩
 rw [XV,h1,J3,Int.pow_succ,← Ob hs]
 generalize Qf l k*p2 s / W=a at *
 generalize Qf l k*p2 s%W=c at *
 have e:W^k*(W*a+c)=W^k*(Qf l k*p2 s):=by rw [q]
 grind
theorem Dy.zero {l ds:List Int} {k:Nat} {h:Int} (hi:Dy l 0 k ds h):h=0:=by
 have:=hi.2.2.1;rw [R6] at this;omega
theorem Mi (x:Int) (s:Nat):IntKind.u64.wrap (x*2^s)=x*p2 s%W:=by
 simp [IntKind.wrap,IntKind.signed,IntKind.bits,p2,Wo]
theorem WN {α:Type} (ds:List α) (x y:α) (r:List α) (k:Nat) (h:ds.length=k):(ds++x::r).set k y=ds++y::r:=by
 subst h;rw [List.set_append_right _ _ (Nat.le_refl _),Nat.sub_self,List.set_cons_zero]
theorem Og {α:Type} (ds:List α) (x y z:α) (r:List α) (k:Nat) (h:ds.length=k):(ds++z::x::r).set (k+1) y=(ds++[z])++y::r:=by
 have:=WN (ds++[z]) x y r (k+1) (by simp [h])
 rw [List.append_assoc] at this;exact this
set_option maxRecDepth 100000 in
theorem Rn (s:Nat) (q:Option Addr) (cap:Nat) (l:List Int) (w:World) (hs:s<64) (hl:DG W l) (hc:Cells w q Jd l) (hlen:l.length≤100000000000) :
  Calls Tryz.prog 286 #[.slice q l.length cap,.int .i64 s] w fun e w' =>
   ZK w (fun v w'=>∃ l':List Int,v = .slice (some ⟨w.heap.size,0,none⟩) (l.length+1) (l.length+1)∧YI w' w.heap.size 248 Jd l'∧l'.length=l.length+1∧DG W l'∧dv W l'=dv W l*p2 s) e w':=by
 have HC:=Lib.hid hc;clear hc
 have hmk:=fun w=>Z7 (l.length+1) (by omega) w
 have ec:((l.length+1:Nat):Int)=(l.length:Int)+1:=by omega
 simp only [ec] at hmk
 clear ec
 go_enter Tryz.func286,Tryz.ntmps286
 go_wp2
 go_loopw [14] (fun i wr=>∃ (k:Nat) (ds:List Int) (h:Int),k≤l.length∧i = .int .i64 k∧Dy l s k ds h∧YI wr w.heap.size 248 Jd (ds++h::List.replicate (l.length - k) 0)∧Ext w wr)
  (fun i _=>l.length - (intOf i).toNat)
 case atStart=>exact⟨0,[],0,Nat.zero_le _,rfl,⟨rfl,DG.nil _,⟨Int.le_refl _,Zz _⟩,by simp⟩,YI.made w _ Jd 0 _ _ rfl,(Ext.refl _).alloc _⟩
 case round =>
  obtain ⟨k,ds,h,hk,rfl,hI,hB,hE⟩:=hrel
  clear hmk
  by_cases hlt:k<l.length
  ·obtain ⟨b,off,rfl,hb,hc⟩:=HC.out k hlt
   rw [Zh hlt] at hc
   have hc:=hE.cell hc
   simp only [Jd] at hc
   have hst:=hI.step hs hl
   obtain ⟨hd1,hd2,hd3,hd4⟩:=hI
   have hor:=(R7 (x:=Qf l k) hs hd3.1 hd3.2).1
   have HO:=Lib.hid hor;clear hor hd4
   have hlen1:k<(ds++h::List.replicate (l.length - k) 0).length:=by simp [hd1]
   have hlen2:k+1<(ds++h::List.replicate (l.length - k) 0).length:=by simp [hd1];omega
   have hcell:=hB.cell hlen1
   have hcell2:=hB.cell hlen2
   have hg:(ds++h::List.replicate (l.length - k) 0).getD k default=h:=by subst hd1;simp [List.getD]
   rw [hg] at hcell
   simp only [Jd] at hcell hcell2
   have hfr:=hB.frozen k
   have hfr2:=hB.frozen (k+1)
   have hx0:(0:Int)≤(k:Int):=by omega
   have hx1:(k:Int)<(l.length:Int)+1:=by omega
   generalize (ds++h::List.replicate (l.length - k) 0).getD (k+1) default=z at hcell2
   have HD1:=Lib.hid hd1
   have HB:=Lib.hid hB
   clear hg hd1 hB hlen1 hlen2
   by_cases hs0:0<s
   ·go_wp2
    go_still_tail 9,(by kernel_rfl)
    go_wp2
    go_roundw
    case rel =>
     refine⟨k+1,ds++[h+Qf l k*p2 s%W],Qf l k / p2 (64 - s),by omega,by go_num,hst,?_,((hE.Xn (by simp) _).Xn (by simp) _).drew⟩
     rw [Mi,HO.out]
     have h1:=HB.out.set k (h+Qf l k*p2 s%W)
     rw [WN _ _ _ _ _ HD1.out,show l.length - k=(l.length - (k+1))+1 from by omega,List.replicate_succ] at h1
     have h2:=h1.set (k+1) (Qf l k / p2 (64 - s))
     rw [Og _ _ _ _ _ _ HD1.out] at h2
     exact h2.drew
    case measure=>simp [intOf];omega
   ·have hz:Hid (Qf l k / p2 (64 - s)=0):=by
     have e:s=0:=by omega
     subst e;exact hst.zero
    go_wp2
    go_still_tail 9,(by kernel_rfl)
    go_wp2
    go_roundw
    case rel =>
     refine⟨k+1,ds++[h+Qf l k*p2 s%W],Qf l k / p2 (64 - s),by omega,by go_num,hst,?_,(hE.Xn (by simp) _).drew⟩
     rw [Mi,HO.out,hz.out]
     have h1:=HB.out.set k (h+Qf l k*p2 s%W)
     rw [WN _ _ _ _ _ HD1.out,show l.length - k=(l.length - (k+1))+1 from by omega,List.replicate_succ] at h1
     rw [List.append_assoc]
     exact h1.drew
    case measure=>simp [intOf];omega
  ·have hk':k=l.length:=by omega
   subst hk'
   obtain ⟨hd1,hd2,hd3,hd4⟩:=hI
   have HF:Hid (dv W ds+W^l.length*h=dv W l*p2 s):=by rw [List.take_length] at hd4;exact hd4
   have HD1:=Lib.hid hd1
   rw [Nat.sub_self,List.replicate_zero] at hB
   have HB:=Lib.hid hB
   have hh:h<W:=by have:=xi hs;have:=Zz s;omega
   clear hd1 hd4 hB
   go_wp2
   go_ret
   exact⟨_,rfl,⟨_,rfl,HB.out,by simp [HD1.out],hd2.append (DG.cons hd3.1 hh (DG.nil _)),by rw [XV,HD1.out,HF.out]⟩,hE⟩
theorem EB (s:Nat) (v:Value) (l:List Int) (w:World) (hs:s<64) (hl:DG W l) (hv:SL w v Jd l) (hlen:l.length≤100000000000) :
  Calls Tryz.prog 286 #[v,.int .i64 s] w fun e w' =>
   ZK w (fun v w'=>∃ l':List Int,v = .slice (some ⟨w.heap.size,0,none⟩) (l.length+1) (l.length+1)∧YI w' w.heap.size 248 Jd l'∧l'.length=l.length+1∧DG W l'∧dv W l'=dv W l*p2 s) e w':=by
 obtain ⟨q,cap,rfl,_,_,hc⟩:=hv
 exact Rn s q cap l w hs hl hc hlen
end
section
open Go.RowKit Ig
def Z6 (u v:List Int) (n:Nat) (q r over:Int):Prop :=
 (0≤q∧q<W)∧(0≤r∧r<W)∧(0≤over∧over≤1)∧q*Qf v (n+1)+r+W*over=Qf u (n+2)*W+Qf u (n+1)∧dv W u<(q+1)*dv W v
abbrev Vw (u v:List Int) (n:Nat):Prop:=Vc W u v n
theorem Vc.La {u v:List Int} {n:Nat} (h:Vw u v n) (hge:Qf v (n+1)≤Qf u (n+2)) :
  Z6 u v n (W - 1) (XD (Qf u (n+1)) (Qf v (n+1)) 0) (Xe (Qf u (n+1)) (Qf v (n+1)) 0):=by
 have e:Qf u (n+2)=Qf v (n+1):=Int.le_antisymm (Vc.top Ew h) hge
 obtain ⟨a,b,c⟩:=Wn (Jb h.hu (n+1)) (Jb h.hv (n+1)) (by decide:(0:Int)≤0∧(0:Int)≤1)
 refine⟨by decide,b,c,?_,?_⟩
 ·rw [e];grind
 ·have:=h.lt;rw [show W - 1+1=W from by omega];exact this
theorem Vc.Lb {u v:List Int} {n:Nat} (h:Vw u v n) (hlt:Qf u (n+2)<Qf v (n+1)) :
  Z6 u v n (FX (Qf u (n+2)) (Qf u (n+1)) (Qf v (n+1))) (Ll (Qf u (n+2)) (Qf u (n+1)) (Qf v (n+1))) 0:=by
 obtain ⟨a1,a2,a3⟩:=Z2 Ew h.hu h.lu
 obtain ⟨b1,b2,b3⟩:=KD Ew h.hv h.lv
 have d0:=Jb h.hu (n+2)
 have d1:=Jb h.hu n
 have d2:=Jb h.hu (n+1)
 have d3:=Jb h.hv n
 have d4:=Jb h.hv (n+1)
 have hp:=pow_pos Jk n
 have hz:=h.nz
 have hW:=Jk
 unfold FX Ll
 unfold Z6
 rw [a1,b1]
 generalize W^n=D at *
 generalize dv W (v.take n)=v' at *
 generalize dv W (u.take n)=u' at *
 generalize Qf u (n+2)=u0 at *
 generalize Qf u (n+1)=u1 at *
 generalize Qf u n=u2 at *
 generalize Qf v (n+1)=v1 at *
 generalize Qf v n=v2 at *
 have m0:0≤u0*W:=Int.mul_nonneg d0.1 (by omega)
 have m1:(u0+1)*W≤v1*W:=Int.mul_le_mul_of_nonneg_right (by omega) (by omega)
 have q1:=Int.mul_ediv_add_emod (u0*W+u1) v1
 have q2:=Int.emod_nonneg (u0*W+u1) (by omega:v1≠0)
 have q3:=Int.emod_lt_of_pos (u0*W+u1) hz
 have q4:0≤(u0*W+u1) / v1:=Int.ediv_nonneg (by omega) (by omega)
 have q5:(u0*W+u1) / v1<W:=by
  refine Int.ediv_lt_of_lt_mul hz ?_
  rw [Int.add_mul] at m1;rw [Int.mul_comm W v1];omega
 generalize (u0*W+u1) / v1=q at *
 generalize (u0*W+u1)%v1=r at *
 refine⟨⟨q4,q5⟩,⟨q2,by omega⟩,by omega,by rw [Int.mul_comm q v1];omega,?_⟩
 have k1:(u0*W+u1+1)≤(q+1)*v1:=by rw [Int.add_mul,Int.mul_comm q v1];omega
 have k2:(u0*W+u1+1)*(W*D)≤(q+1)*v1*(W*D):=Int.mul_le_mul_of_nonneg_right k1 (Int.mul_nonneg (by omega) (by omega))
 have k3:0≤(q+1)*(v2*D):=Int.mul_nonneg (by omega) (Int.mul_nonneg d3.1 (by omega))
 have k4:0≤(q+1)*v':=Int.mul_nonneg (by omega) b2
 have k5:(u2+1)*D≤W*D:=Int.mul_le_mul_of_nonneg_right (by omega) (by omega)
 grind
theorem Z6.less {u v:List Int} {n:Nat} {q r:Int} (h:Vw u v n) (g:Z6 u v n q r 0) (hb:r*W+Qf u n<q*Qf v n) :
  Z6 u v n (q - 1) (XD r (Qf v (n+1)) 0) (Xe r (Qf v (n+1)) 0):=by
 obtain ⟨g1,g2,g3,g4,g5⟩:=g
 obtain ⟨a1,a2,a3⟩:=Z2 Ew h.hu h.lu
 obtain ⟨b1,b2,b3⟩:=KD Ew h.hv h.lv
 obtain ⟨a,b,c⟩:=Wn g2 (Jb h.hv (n+1)) (by decide:(0:Int)≤0∧(0:Int)≤1)
 have hp:=pow_pos Jk n
 have d1:=Jb h.hu n
 have d3:=Jb h.hv n
 have q1:1≤q:=by
  refine Int.not_lt.1 fun hc=>?_
  have:q=0:=by omega
  subst this
  have:0≤r*W:=Int.mul_nonneg g2.1 (by decide)
  omega
 refine⟨by omega,b,c,?_,?_⟩
 ·have:(q - 1)*Qf v (n+1)=q*Qf v (n+1) - Qf v (n+1):=by grind
  omega
 ·rw [show q - 1+1=q from by omega,a1,b1]
  refine Na b2 a3 hp (by omega) ?_
  generalize Qf u (n+2)=u0 at *
  generalize Qf u (n+1)=u1 at *
  generalize Qf u n=u2 at *
  generalize Qf v (n+1)=v1 at *
  generalize Qf v n=v2 at *
  have e:q*(v1*W+v2)=(q*v1+r)*W - r*W+q*v2:=by grind
  have e2:q*v1+r=u0*W+u1:=by omega
  rw [e,e2];omega
theorem Z6.fin {u v:List Int} {n:Nat} {q r over:Int} (h:Vw u v n) (g:Z6 u v n q r over) (hb:over=0→q*Qf v n≤r*W+Qf u n) :
  (q - 1)*dv W v≤dv W u∧dv W u<(q+1)*dv W v:=by
 obtain ⟨g1,g2,g3,g4,g5⟩:=g
 refine⟨?_,g5⟩
 obtain ⟨a1,a2,a3⟩:=Z2 Ew h.hu h.lu
 obtain ⟨b1,b2,b3⟩:=KD Ew h.hv h.lv
 have hp:=pow_pos Jk n
 have d1:=Jb h.hu n
 have d3:=Jb h.hv n
 have d4:=Jb h.hv (n+1)
 have hz:=h.nz
 rw [a1,b1]
 have hR:q*Qf v n≤(r+W*over)*W+Qf u n:=by
  have:over=0∨over=1:=by omega
  rcases this with rfl | rfl
  ·simpa using hb rfl
  ·have k1:q*Qf v n≤W*W:=Int.mul_le_mul (by omega) (by omega) d3.1 (by decide)
   have k2:0≤r*W:=Int.mul_nonneg g2.1 (by decide)
   have e:(r+W*1)*W=r*W+W*W:=by grind
   rw [e];omega
 refine UI hp b3 a2 g1.1 ?_ ?_ b2
 ·generalize Qf u (n+2)=u0 at *
  generalize Qf u (n+1)=u1 at *
  generalize Qf u n=u2 at *
  generalize Qf v (n+1)=v1 at *
  generalize Qf v n=v2 at *
  rw [← g4]
  grind
 ·have k1:1*W≤Qf v (n+1)*W:=Int.mul_le_mul_of_nonneg_right (by omega) (by decide)
  omega
end
end Go.Proofs.YtknegjaeoffnbaaGreatDoor
