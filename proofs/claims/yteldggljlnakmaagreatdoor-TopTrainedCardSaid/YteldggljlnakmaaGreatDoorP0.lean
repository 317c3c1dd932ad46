/- Steps of the proof of the theorem in the last file. -/
import Derived.WalkKit
import Derived.WalkSpells
import Derived.WalkLawsBesides
import Derived.Lib.Hide
import Derived.Deep.RegionHeld3
import Derived.StillTail
import Derived.Deep.LoopGhost
import Derived.IntWalk
import Derived.Test.YteldggljlnakmaaGreatDoorProg
import Derived.KernelRfl
import Derived.Deep.QuietTactic
import Derived.BigQuiet
import Derived.Laws.Externs
import Derived.Shelf.Strings.Builder1
import Derived.Shelf.Strings.Builder2
import Derived.Shelf.Small.Bits
import Derived.Shelf.Small.Wraps
import Derived.Shelf.Strconv.Atoi
import Derived.Shelf.Strconv.Itoa0
import Derived.Shelf.Strconv.Itoa1
import Derived.Shelf.LaysM
import Derived.Shelf.Strconv.Itoa2
import Derived.Shelf.Strconv.Itoa3
import Derived.Shelf.Strings.Search1
import Derived.Shelf.Strings.Search2
import Derived.Shelf.Strings.Cut
import Derived.Shelf.Strings.Prefix
import Derived.Shelf.Bits.Mul64
import Derived.Shelf.Strings.Repeat
import Derived.Ground.Names2Prog
import Derived.Shelf.Slices.Clone
import Derived.Shelf.Slices.SearchI
import Derived.Ground.SlgnProg
import Derived.Shelf.SlicesE.Clone
import Derived.Laws.BitsAllLaws
import Derived.StillTailTactics
import Derived.BigRegion
set_option linter.all false
set_option maxHeartbeats 4000000
open Go.Proofs.Tryz
def I{α:Sort _}{a:α}:a=a:=.refl a
def O{p:Prop}(h:p:=by omega):p:=h
def wu{p:Prop}(h:p:=by kernel_rfl):p:=h
def wm{p q:Prop}(h:p)(k:p->q:=by intro;omega):q:=k h
def wv{p:Prop}(h:p:=by decide):p:=h
def wy{p:Prop}(h:p:=by decide +kernel):p:=h
def w8{p:Prop}(h:p:=by rfl):p:=h
def w9{p:Prop}(h:p:=by simp):p:=h
def tA{p:Prop}(h:p:=by simp;omega):p:=h
def tB{α:Sort _}{G:α->Prop}(a:α)(_:G a):True:=trivial
def tC{α:Sort _}{G:α->Prop}(a:α)(h:G a):G a:=h
def tD{α:Sort _}{G H:α->Prop}(a:α)(h:G a/\H a):G a:=h.1
def tE{α:Sort _}{G H:α->Prop}(a:α)(h:G a/\H a):H a:=h.2
def tF{α:Type _}{l:List α}:List.Sublist l l:=.refl l
def tG{α:Type _}{l:List α}:List.Sublist [] l:=List.nil_sublist l
def tH{α:Type _}{a:α}{l:List α}:List.Sublist [a] (a::l):=.cons_cons _ (List.nil_sublist _)
def tJ{α:Type _}{a b:α}{l:List α}:List.Sublist [a,b] (a::b::l):=.cons_cons _ (.cons_cons _ (List.nil_sublist _))
def tK{α:Type _}{a b c:α}{l:List α}:List.Sublist [a,b,c] (a::b::c::l):=.cons_cons _ (.cons_cons _ (.cons_cons _ (List.nil_sublist _)))
def tL{α:Type _}{a b:α}(h:a=b:=by kernel_rfl):some a=some b:=congrArg some h
namespace Go.Proofs.YteldggljlnakmaaGreatDoor
variable{w w' w0:World}{B E N b bytes i j k off s:Nat}{a:Act}{c:Code}{o:Obj}{ds la u:List Int}{A0 A1 A2 A3 A4 A5 A6 A7 A8 A9 α γ ι:Type}{T T' e ty yT:TypeId}{args cs l l' news vs z:List Value}{ops:Array Oper}{Q Q':Exit->Act->World->Prop}{g:Bool}{K:Act->World->Prop}{x y:Operand}{bs bs' bs0:List (Nat×Obj)}{q:Option Addr}{P:Program}{f:Obj->List (Nat×Obj)}{fn:Func}{aft:Array Edge}{x1:Nat×Obj}{v1 v3 v4 v5 x2 x3 x4 x5 x6 x7 x8:Value}{ps:List (Nat×Value)}{rs:List ResultVar}{k':IntKind}{ob:List _}{pl:List (Nat×Nat)}{h:Int}
open Go.RowKit
structure D5(α:Type) where
 val:α->Value
 ty:TypeId
instance{α:Type}:CoeFun (D5 α) (λ_=>α->Value):=⟨D5.val⟩
def Ja:D5 Int:=⟨λx=>.int .u64 x,201⟩
def Kg(w:World)(b:Nat)(E:TypeId):Prop:=∃c fr,w.heap[b]?=some (.cells c E fr)
theorem Kg.lt(h:Kg w b E):b<w.heap.size:=by
 obtain⟨c,fr,h⟩:=h;rcases Nat.lt_or_ge b w.heap.size with g | g
 ·exact g
 rw[Array.getElem?_eq_none g]at h;cases h
theorem Kg.uniq{E':Nat}(h:Kg w b E)(h':Kg w b E'):E=E':=by
 obtain⟨c,fr,h⟩:=h;obtain⟨c',fr',h'⟩:=h';rw[h]at h';cases h';rfl
def Row{α:Type}[Inhabited α](w:World)(b off:Nat)(enc:D5 α)(l:List α):Prop:=∀i,i<l.length->w.cell? ⟨b,off+i,none⟩=some (enc (l.getD i default))
abbrev Ext(w w':World):Prop:=Below w.heap.size w w'
theorem Ext.refl(w:World):Ext w w:=Below.refl _ _
def Ext.trans{a b c:World}(h:Ext a b)(k:Ext b c):Ext a c:=Below.trans h (Below.mono k h.size)
def Ext.QAO{a:World}(h:Ext a w)(h1:w'.os=w.os)(h2:w'.tape=w.tape)(h3:w'.output=w.output)(h4:w.heap.size<=w'.heap.size)(h5:∀i,i<a.heap.size->w'.heap[i]?=w.heap[i]?):Ext a w' :=
 ⟨h1.trans h.os,h2.trans h.tape,h3.trans h.output,Nat.le_trans h.size h4,λi hi=>(h5 i hi).trans (h.block i hi)⟩
def Ext.alloc{a:World}(h:Ext a w)(o:Obj):Ext a (w.alloc o):=Below.alloc h h.size o
def Ext.drew{a:World}(h:Ext a w):Ext a w.drew:=Below.drew h
def Ext.drewN{a:World}(h:Ext a w)(n:Nat):Ext a (w.drewN n):=⟨h.os,h.tape,h.output,h.size,h.block⟩
def Ext.cell(h:Ext w w'){p:Addr}{v:Value}(hv:w.cell? p=some v):w'.cell? p=some v:=by
 rw[Below.cell h (World.block_lt_of_cell? w p hv)];exact hv
def Ext.Xv{a:World}(h:Ext a w){p:Addr}(hp:a.heap.size<=p.block)(u:Value):Ext a (w.setCell p u):=Below.setCell h hp u
theorem Kg.ext(h:Kg w b E)(k:Below w.heap.size w w'):Kg w' b E:=by
 obtain⟨c,fr,e⟩:=id h;exact⟨c,fr,by rw[k.block b h.lt];exact e⟩
def Cells{α:Type}[Inhabited α](w:World)(q:Option Addr)(enc:D5 α)(l:List α):Prop :=
 ∀i,i<l.length->∃b off,q=some ⟨b,off,none⟩/\Kg w b enc.ty/\w.cell? ⟨b,off+i,none⟩=some (enc (l.getD i default))
theorem Xh{o b' o':Nat}{v u:Value}(h:b≠b')(hc:w.cell? ⟨b,o,none⟩=some u):(w.setCell ⟨b',o',none⟩ v).cell? ⟨b,o,none⟩=some u:=by
 rw[World.cell?_setCell_other _ _ _ _ (λe=>h (congrArg Addr.block e).symm)];exact hc
def SL{α:Type}[Inhabited α](w:World)(v:Value)(enc:D5 α)(l:List α):Prop :=
 ∃q cap,v = .slice q l.length cap/\l.length<=cap/\(cap:Int)<=9223372036854775807/\Cells w q enc l
theorem Cells.ext[Inhabited α]{w w':World}(h:Ext w w'){q:Option Addr}{enc:D5 α}{l:List α}(hr:Cells w q enc l):Cells w' q enc l:=by
 intro i hi;obtain⟨b,off,h1,h2,h3⟩:=hr i hi;exact⟨b,off,h1,h2.ext h,h.cell h3⟩
theorem SL.ext[Inhabited α]{w w':World}(h:Ext w w'){v:Value}{enc:D5 α}{l:List α}(hs:SL w v enc l):SL w' v enc l:=by
 obtain⟨q,cap,h1,h2,h3,h4⟩:=hs;exact⟨q,cap,h1,h2,h3,h4.ext h⟩
def SL.nil[Inhabited α](w:World)(enc:D5 α):SL w (.slice none 0 0) enc ([]:List α) :=
 ⟨none,0,rfl,Nat.le_refl _,wv,λi hi=>by cases hi⟩
theorem Cells.take[Inhabited α]{w:World}{q:Option Addr}{enc:D5 α}{l:List α}(hr:Cells w q enc l)(n:Nat):Cells w q enc (l.take n):=by
 intro i hi;have h1:i<l.length:=by rw[List.length_take]at hi;omega
 have h2:i<n:=by rw[List.length_take]at hi;omega
 have e:(l.take n).getD i default=l.getD i default:=by simp[List.getD,h2]
 rw[e];exact hr i h1
theorem Row.cells[Inhabited α]{w:World}{b off:Nat}{enc:D5 α}{l:List α}(hr:Row w b off enc l)(hb:Kg w b enc.ty):Cells w (some ⟨b,off,none⟩) enc l :=
 λi hi=>⟨b,off,rfl,hb,hr i hi⟩
def YX{α:Type}(w:World)(b:Nat)(E:TypeId)(enc:D5 α)(l:List α):Prop:=w.heap[b]?=some (.cells (l.map enc.val).toArray E (0,0))
def YX.cell[Inhabited α]{w:World}{b E:Nat}{enc:D5 α}{l:List α}(h:YX w b E enc l){i:Nat}(hi:i<l.length):w.cell? ⟨b,i,none⟩=some (enc (l.getD i default)):=by
 have h':w.heap[b]?=some (.cells (l.map enc.val).toArray E (0,0)):=h;simp[World.cell?,h',hi,List.getD]
def YX.frozen{enc:D5 α}{l:List α}(h:YX w b E enc l)(i:Nat):w.frozen? ⟨b,i,none⟩=false:=by
 have h':w.heap[b]?=some (.cells (l.map enc.val).toArray E (0,0)):=h;simp[World.frozen?,h']
theorem YX.lt{enc:D5 α}{l:List α}(h:YX w b E enc l):b<w.heap.size:=by
 have h':w.heap[b]?=some (.cells (l.map enc.val).toArray E (0,0)):=h;rcases Nat.lt_or_ge b w.heap.size with g | g
 ·exact g
 rw[Array.getElem?_eq_none g]at h';cases h'
def YX.set{enc:D5 α}{l:List α}(h:YX w b E enc l)(i:Nat)(x:α):YX (w.setCell ⟨b,i,none⟩ (enc x)) b E enc (l.set i x):=by
 have h':w.heap[b]?=some (.cells (l.map enc.val).toArray E (0,0)):=h;have hs:(l.set i x).map enc.val=(l.map enc.val).set i (enc x):=List.map_set;unfold YX World.setCell;simp[Array.getElem?_modify,h',hs]
def YX.ext{enc:D5 α}{l:List α}(h:YX w b E enc l)(k:Ext w w'):YX w' b E enc l:=by
 have:=k.block b h.lt;unfold YX;rw[this];exact h
theorem YX.row[Inhabited α]{w:World}{b E:Nat}{enc:D5 α}{l:List α}(h:YX w b E enc l):Row w b 0 enc l:=by
 intro i hi;rw[Nat.zero_add];exact h.cell hi
def YX.new(w:World)(E:Nat)(enc:D5 α)(l:List α)(c:Array Value)(hc:c=(l.map enc.val).toArray):YX (w.alloc (.cells c E)) w.heap.size E enc l:=by
 subst hc;show(w.heap.push _)[w.heap.size]?=_;simp
def YX.QHh(w:World)(b E:Nat)(enc:D5 α)(l:List α)(c:Array Value)(hc:c=(l.map enc.val).toArray)(hb:b=w.heap.size):YX (w.alloc (.cells c E)) b E enc l:=by
 subst hb;exact YX.new w E enc l c hc
def YX.drew{enc:D5 α}{l:List α}(h:YX w b E enc l):YX w.drew b E enc l:=h
theorem YX.made(w:World)(E:Nat)(enc:D5 α)(x:α)(n:Nat)(z:Value)(hz:z=enc x):YX (w.alloc (.cells (madeCells #[z] n) E)) w.heap.size E enc (List.replicate n x):=by
 refine YX.new w E enc _ _ ?_;subst hz;apply Array.ext
 ·simp[madeCells]
 intro i h1 h2;simp[madeCells,Nat.mod_one]
def YX.PT{enc:D5 α}{l:List α}(h:YX w b E enc l):Kg w b E:=⟨_,_,h⟩
def SL.G5[Inhabited α]{w:World}{b:Nat}{enc:D5 α}{l:List α}(h:YX w b enc.ty enc l)(n:Nat)(hn:n<=l.length)(hm:(l.length:Int)<=9223372036854775807):
  SL w (.slice (some ⟨b,0,none⟩) n l.length) enc (l.take n) :=
 ⟨_,l.length,by rw[List.length_take,Nat.min_eq_left hn],by rw[List.length_take];omega,hm,(h.row.cells h.PT).take n⟩
def Bx(w:World)(b:Nat)(T:TypeId)(cs:List Value):Prop:=w.heap[b]?=some (.cells cs.toArray T (0,0))
def Bx.new(w:World)(T:TypeId)(c:Array Value):Bx (w.alloc (.cells c T)) w.heap.size T c.toList:=by
 show(w.heap.push _)[w.heap.size]?=_;simp
theorem Bx.lt{T:Nat}(h:Bx w b T cs):b<w.heap.size:=by
 have h':w.heap[b]?=some (.cells cs.toArray T (0,0)):=h;rcases Nat.lt_or_ge b w.heap.size with g | g
 ·exact g
 rw[Array.getElem?_eq_none g]at h';cases h'
def Bx.ext{T:Nat}(h:Bx w b T cs)(k:Ext w w'):Bx w' b T cs:=by
 unfold Bx;rw[k.block b h.lt];exact h
def Bx.alloc{T:Nat}(h:Bx w b T cs)(o:Obj):Bx (w.alloc o) b T cs:=h.ext ((Ext.refl w).alloc o)
def Bx.drew{T:Nat}(h:Bx w b T cs):Bx w.drew b T cs:=h
def Bx.at{T:Nat}(h:Bx w b T cs)(i:Nat)(c:Value)(hi:cs[i]?=some c):w.cell? ⟨b,i,none⟩=some c:=by
 have h':w.heap[b]?=some (.cells cs.toArray T (0,0)):=h;simp[World.cell?,h',hi]
def Bx.free{T:Nat}(h:Bx w b T cs)(i:Nat):w.frozen? ⟨b,i,none⟩=false:=by
 have h':w.heap[b]?=some (.cells cs.toArray T (0,0)):=h;simp[World.frozen?,h']
def Bx.two{T:Nat}{c0 c1:Value}(h:Bx w b T [c0,c1]):w.cell? ⟨b,0,none⟩=some c0/\w.cell? ⟨b,1,none⟩=some c1/\w.frozen? ⟨b,0,none⟩=false/\w.frozen? ⟨b,1,none⟩=false :=
 ⟨h.at 0 c0 rfl,h.at 1 c1 rfl,h.free 0,h.free 1⟩
def Bx.PT{T:Nat}(h:Bx w b T cs):Kg w b T:=⟨_,_,h⟩
def DT(E:TypeId):Prop:=E=201\/E=3
instance(E:TypeId):Decidable (DT E):=by unfold DT;infer_instance
structure Kp(w w':World):Prop where
 size:w.heap.size<=w'.heap.size
 block:∀b E,Kg w b E->DT E->w'.heap[b]?=w.heap[b]?
def Kp.refl(w:World):Kp w w:=⟨Nat.le_refl _,λ_ _ _ _=>rfl⟩
theorem Kp.trans{a b c:World}(h:Kp a b)(k:Kp b c):Kp a c :=
 ⟨Nat.le_trans h.size k.size,λi E hi hE=>by
  have e:=h.block i E hi hE;have hi':Kg b i E:=by obtain⟨x,fr,hx⟩:=hi;exact⟨x,fr,by rw[e];exact hx⟩
  exact(k.block i E hi' hE).trans e⟩
theorem Kp.set{a:World}(h:Kp a w){R T:Nat}(hT:Kg w R T)(hD:¬DT T)(i:Nat)(v:Value):Kp a (w.setCell ⟨R,i,none⟩ v) :=
 h.trans ⟨by simp[World.setCell],λb E hb hE=>Below.heap_setCell _ _ _ _ (by rintro rfl;exact hD ((hb.uniq hT) ▸ hE))⟩
theorem Kg.set{T:Nat}(h:Kg w b T)(R i:Nat)(v:Value):Kg (w.setCell ⟨R,i,none⟩ v) b T:=by
 obtain⟨c,fr,h⟩:=h;by_cases e:b=R
 ·subst e;exact⟨_,_,by unfold World.setCell;simp[Array.getElem?_modify,h];exact⟨rfl,rfl⟩⟩
 exact⟨c,fr,by rw[Below.heap_setCell _ _ _ _ e];exact h⟩
theorem Kg.kp(h:Kg w b E)(k:Kp w w')(hE:DT E):Kg w' b E:=by
 obtain⟨c,fr,e⟩:=id h;exact⟨c,fr,by rw[k.block b E h hE];exact e⟩
theorem Cells.kp[Inhabited α]{w w':World}(k:Kp w w'){q:Option Addr}{enc:D5 α}(hE:DT enc.ty){l:List α}(hr:Cells w q enc l):Cells w' q enc l:=by
 intro i hi;obtain⟨b,off,h1,h2,h3⟩:=hr i hi;exact⟨b,off,h1,h2.kp k hE,by rw[World.cell?_of_block (w:=w) (k.block b _ h2 hE)];exact h3⟩
open Go
section
variable{P:Program}{md:Region.Mode}
def Ve(md:Region.Mode)(ops:Array Oper)(n:Nat):Bool :=
 (List.range n).all λi=>match ops[i]? with
  |some o=>o.after.all λe=>!Region.binds md e||decide (e.on<i)
  |none=>false
theorem X4{n:Nat}(h:Ve md ops n=true){i:Nat}(hi:i<n):∃o,ops[i]?=some o/\∀e∈o.after,Region.binds md e=true->e.on<i:=by
 have h1:=List.all_eq_true.1 h i (List.mem_range.2 hi);cases ho:ops[i]? with
 |none=>simp_all
 |some o =>
  rw[ho]at h1;refine⟨o,rfl,λe he hb=>?_⟩;have h2:=Array.all_eq_true_iff_forall_mem.1 h1 e he;simp_all
def Vk(n m:Nat):Array Bool:=(Array.range m).map λi=>decide (i<n)
theorem Ai{n m:Nat}{listed:Array Bool}(hs:listed.size=m)(h1:∀i,i<n->i<m->listed.getD i false=true)(h2:∀i,n<=i->i<m->listed.getD i false=false):listed=Vk n m:=by
 apply Array.ext
 ·grind[Vk]
 intro i hi hj;have him:i<m:=O;by_cases h:i<n
 all_goals simp_all[Vk]
def qF(P:Program)(ops:Array Oper)(Q:Exit->Act->World->Prop)(tl:List Oper):Exit->Act->World->Prop
 |.normal,a,w=>wpList P ops Q tl a w
 |e,a,w=>Q e a w
theorem DY{l:List Oper}{n:Nat}(hi:i<n):(l.take n).toArray[i]?=l.toArray[i]?:=by
 grind
theorem N3{l:List Oper}{n:Nat}{lh la:Array Bool}(hn:n<l.length)(hs:Region.sinkB md l.toArray n=true)(hc:Region.chainB md l.toArray n=true)(ho:Ve md l.toArray n=true)
  (inv:HeadInv md l.toArray n la) (hsz:lh.size=n) (hrel:∀i,i<n->la.getD i true=lh.getD i true) {k:Nat} (hk:k<n) (hun:lh.getD k true=false) :
  (∀i,i∈Region.ready md l.toArray la↔i∈Region.ready md (l.take n).toArray lh)/\Region.ready md (l.take n).toArray lh≠[]:=by
 have hrel2:∀i,i<n->la.getD i false=lh.getD i false:=by
  intro i hi;have h:=hrel i hi;have h1:i<la.size:=by rw[inv.size];grind
  simp_all
 have hhead:∀i,i<n->(i∈Region.ready md l.toArray la↔i∈Region.ready md (l.take n).toArray lh):=by
  intro i hi;rw[mem_ready,mem_ready,hrel i hi,DY hi];refine and_congr_right λ_=>exists_congr λo=>and_congr_right λhoi=>?_;obtain⟨o',ho',hed⟩:=X4 ho hi
  grind
 have hex:∃i,i<n/\lh.getD i true=false/\∀j,j<i->lh.getD j true=true:=by
  clear hhead hrel hrel2
  induction k using Nat.strongRecOn<;>grind
 refine⟨λi=>?_,?_⟩
 ·by_cases hi:i<n
  ·simp_all
  constructor
  ·intro h;exact absurd h (tail_waits hs hc O inv _ k rfl hk (by simp_all) i O)
  intro h;obtain⟨_,o,ho',_⟩:=mem_ready.1 h;simp_all
 obtain⟨i,hi,h1,h2⟩:=hex
 grind[Region.ready,mem_ready,X4,DY]
theorem Np:∀(f:Nat) (listed:Array Bool) (a:Act) (w:World),wpAny P md ops Q f listed a w->wpAny P md ops Q (f+1) listed a w
 |0,listed,a,w,h=>⟨λ_=>h.2,λi hi=>(by rw[h.1]at hi;cases hi)⟩
 |f+1,listed,a,w,h=>⟨h.1,λi hi=>wpOp_mono (λa' w' h'=>Np f _ a' w' h') (h.2 i hi)⟩
theorem UO(f:Nat)(listed:Array Bool)(a:Act)(w:World)(g:Nat)(h:wpAny P md ops Q g listed a w):wpAny P md ops Q (f+g) listed a w:=by
 induction f with
 |zero=>simp_all
 |succ f ih=>grind[Np]
def Te(ops:Array Oper)(n:Nat):Bool :=
 (List.range n).all λi=>match ops[i]? with
  |some o=>(match o.guard with | none=>true | some (g,_)=>decide (g<n))
  |none=>false
theorem S4{l:List Oper}{n g:Nat}(hg:g<n)(t:Array Value):yielded (l.take n).toArray t g=yielded l.toArray t g:=by
 grind[yielded,DY]
theorem Om{l:List Oper}{n:Nat}{tl:List Oper}(hi:i<n)(hgd:Te l.toArray n=true)
  (h:wpOp P (l.take n).toArray (qF P l.toArray Q tl) i K a w):wpOp P l.toArray Q i K a w:=by
 unfold wpOp at *
 rw[DY hi]at h;cases ho:l.toArray[i]? with
 |none=>simp_all
 |some o =>
  simp_all;have hw:Region.wanted o (yielded (l.take n).toArray a.tmps)=Region.wanted o (yielded l.toArray a.tmps):=by
   have h1:=List.all_eq_true.1 hgd i (List.mem_range.2 hi);unfold Region.wanted;cases hg:o.guard with
   |none=>rfl
   |some gw =>
    grind[S4]
  rw[hw]at h;trivial
theorem RG{l:List Oper}{n:Nat}(hn:n<l.length)(hs:Region.sinkB md l.toArray n=true)(hc:Region.chainB md l.toArray n=true)(ho:Ve md l.toArray n=true)
  (hgd:Te l.toArray n=true) (hseq:Region.seqB md l.toArray (l.length-n) n (Vk n l.length)=true) :
  ∀(f:Nat) (lh la:Array Bool) (a:Act) (w:World),HeadInv md l.toArray n la->lh.size=n->(∀i,i<n->la.getD i true=lh.getD i true) ->
   wpAny P md (l.take n).toArray (qF P l.toArray Q (l.drop n)) f lh a w->wpAny P md l.toArray Q (f+(l.length-n)) la a w:=by
 have fin:∀(f:Nat) (lh la:Array Bool) (a:Act) (w:World),HeadInv md l.toArray n la->lh.size=n->(∀i,i<n->la.getD i true=lh.getD i true) ->
   Region.ready md (l.take n).toArray lh=[]->wpList P l.toArray Q (l.drop n) a w->wpAny P md l.toArray Q (f+(l.length-n)) la a w:=by
  intro f lh la a w inv hsz hrel hr h;have hall:∀i,i<n->lh.getD i true=true:=by
   intro i hi;cases hv:lh.getD i true with
   |true=>rfl
   |false=>grind[absurd,N3]
  have hla:la=Vk n l.length:=by
   refine Ai (by simpa using inv.size) (λi hi hi2=>?_) λi hi hi2=>?_
   ·have h1:=(hrel i hi).trans (hall i hi);have h2:i<la.size:=by rw[inv.size];omega
    simp_all
   exact getD_both (inv.tail i hi O)
  subst hla;refine UO f _ _ _ _ ?_;have:=wpAny_of_seq (l.drop n) n (Vk n l.length) a w (λj=>w9) (by simpa using hseq) h;simp_all
 intro f
 induction f with
 |zero=>intro lh la a w inv hsz hrel h;exact fin 0 lh la a w inv hsz hrel h.1 h.2
 |succ f ih =>
  intro lh la a w inv hsz hrel h;by_cases hr:Region.ready md (l.take n).toArray lh=[]
  ·exact fin (f+1) lh la a w inv hsz hrel hr (h.1 hr)
  obtain⟨k,hk⟩:=List.exists_mem_of_ne_nil _ hr;have hk2:=(mem_ready.1 hk);have hkn:k<n:=by
   grind
  have hiff:=(N3 hn hs hc ho inv hsz hrel hkn hk2.1).1;rw[show f+1+(l.length-n)=(f+(l.length-n))+1 by omega];refine⟨λh0=>absurd ((hiff k).2 hk) (by simp_all),λi hi=>?_⟩;have hi':=(hiff i).1 hi;have hin:i<n:=by
   obtain⟨_,o,ho',_⟩:=mem_ready.1 hi'
   grind
  have h2:=Om hin hgd (h.2 i hi');refine wpOp_mono (λa' w' h3=>ih _ _ a' w' (inv.set hi hin) (by simp_all) (λj hj=>?_) h3) h2;by_cases hij:i=j
  ·simp_all
  simp_all
def EA(l:List Oper)(n:Nat):Bool :=
 decide (n<l.length)&&Region.sinkB .any l.toArray n&&Region.chainB .any l.toArray n&&Ve .any l.toArray n&&Te l.toArray n&&Region.seqB .any l.toArray (l.length-n) n (Vk n l.length)
theorem MH{id:Nat}{l:List Oper}(n:Nat)(hm:P.follows .mixedOrders=true)(hB:EA l n=true)
  (h:wpAny P .any (l.take n).toArray (qF P l.toArray Q (l.drop n)) n (Array.replicate n false) a { w with drawn:=w.drawn+1 }):(Code.region id l.toArray true).wp P Q a w:=by
 simp[EA,Bool.and_eq_true,decide_eq_true_eq]at hB;obtain⟨⟨⟨⟨⟨hn,hs⟩,hc⟩,ho⟩,hg⟩,hseq⟩:=hB;refine wp_region_any hm ?_;have QA8:HeadInv .any l.toArray n (Array.replicate l.toArray.size false) :=
  ⟨w9,λj oj _ hl=>(by grind[getD_replicate_false]),λt _ ht=>getD_in (by simp_all) (getD_replicate_false _ _)⟩
 have:=RG hn hs hc ho hg hseq n _ _ a { w with drawn:=w.drawn+1 } QA8 w9
  (λi hi=>by
   have h1:i<l.length:=O;simp_all) h
 grind
def JX:Op->Bool
 |.move _ | .assign _ | .pick .. | .nilCheck _ | .binOp .. | .unOp .. | .convert .. | .fieldAddr .. | .field .. | .indexAddr .. | .index .. | .extract .. | .slice .. | .build .. | .load .. | .makeFunc .. | .lookup ..=>true
 |.call { callee:=.builtin b,.. }=>match b with | .len | .cap | .min | .max=>true | _=>false
 |_=>false
section
variable{ops:Array Oper}{Q:Exit->Act->World->Prop}{S:World->Prop}
def Rf(P:Program)(ops:Array Oper)(Q:Exit->Act->World->Prop)(S:World->Prop):List Nat->Act->World->Prop
  | [],a,w=>Q .normal a w
  | i::r,a,w=>∃o,ops[i]?=some o /\
      ((JX o.op=true/\∃v,YieldsIf P ops S o v a/\Rf P ops Q S r (a.put o.dst v) w) \/
       (JX o.op=false/\wpOp P ops (λ_ _ _=>False) i (λa' w'=>S w'/\Rf P ops Q S r a' w') a w))
theorem vH{o:Oper}(hi:ops[i]?=some o)(h:wpOp P ops (λ_ _ _=>False) i K a w):
  ∃u w' d,K ({ a with defers:=d }.put o.dst u) w':=by
 unfold wpOp at h;simp_all;split at h
 ·rcases h with h | ⟨_,_,_,h⟩
  ·unfold Oper.wp at h;generalize (execOp _ o).run P w=r at *
   cases r with
   |ok n w' =>
    cases n<;>simp[Oper.upon]at h
    case value u=>exact⟨u,w',a.defers,h⟩
    case skip=>exact⟨undef,w',a.defers,h⟩
    case defer d=>grind
    case enter f args =>
     obtain⟨e,w'',fr,hR,_⟩:=h [];cases e with
     |returned u=>exact⟨u,w'',a.defers,hR⟩
     |panicked c=>trivial
     |outgrown=>obtain⟨_,_,h⟩:=hR;trivial
    case row row args =>
     obtain⟨u,w'',hR,_⟩:=h default [];exact⟨u,w'',a.defers,hR⟩
   |halt x w'=>cases x<;>simp[Oper.upon]at h<;>exact h.elim
  trivial
 exact⟨undef,w,a.defers,h⟩
theorem UM{oi oj:Oper}{v:Value}(hj:ops[j]?=some oj)(hap:oi.apart ops oj=true)(hsj:∀cs b,oj.op≠.select cs b)
  {K:Act->World->Prop} {a:Act} {w:World} (h:wpOp P ops (λ_ _ _=>False) j (λa' w'=>K (a'.put oi.dst v) w') a w) :
  wpOp P ops (λ_ _ _=>False) j K (a.put oi.dst v) w:=by
 obtain⟨h1,h2,h3⟩:=Oper.apart_spec hap;unfold wpOp at *
 simp only[hj]at *
 rw[wanted_put oj a _ v h1];split
 ·rename_i hw;simp[hw,if_true]at h;rcases h with h | ⟨hasks,hlets⟩
  case inr=>exact .inr ⟨by unfold Oper.asks at *;rw[execOp_put oj hsj a _ v h1];omega,hlets⟩
  refine .inl ?_;unfold Oper.wp at *
  rw[execOp_put oj hsj a _ v h1];generalize (execOp _ oj).run P w=r at *
  cases r with
  |ok n w' =>
   cases n<;>simp[Oper.upon]at h ⊢
   all_goals grind[Act.put_comm,undef,Act.put_defers,Calls.mono,Rows.mono]
  |halt x w'=>cases x<;>simp[Oper.upon]at h ⊢
 grind[Act.put_comm,undef]
theorem YieldsIf.uniq{o:Oper}{v v':Value}(hS:S w)(h:YieldsIf P ops S o v a)(h':YieldsIf P ops S o v' a):v=v':=by
 rcases h with ⟨h1,h2⟩ | ⟨h1,h2⟩<;>rcases h' with ⟨g1,g2⟩ | ⟨g1,g2⟩
 all_goals grind
theorem ET{x y:Oper}(h:x.apart ops y=true):y.apart ops x=true:=by
 obtain⟨h1,h2,h3⟩:=Oper.apart_spec h;unfold Oper.apart
 grind
theorem Br{j:Nat}{oj:Oper}{post:List Nat}(hoj:ops[j]?=some oj)(hq:JX oj.op=true)(hsel:∀(j:Nat) (o:Oper) cs b,ops[j]?=some o->o.op≠.select cs b):
  ∀(pre:List Nat) (a:Act) (w:World),(∀k∈pre,∀ok,ops[k]?=some ok->oj.apart ops ok=true)->Rf P ops Q S (pre++j::post) a w ->
   ∃v,YieldsIf P ops S oj v a/\Rf P ops Q S (pre++post) (a.put oj.dst v) w
 |[],a,w,_,h=>by
  obtain⟨o,ho,h⟩:=h;simp_all
 |k::pre,a,w,hap,h=>by
  obtain⟨ok,hok,h⟩:=h;have hk:=hap k w9 ok hok;obtain⟨p1,p2,p3⟩:=Oper.apart_spec hk;rcases h with ⟨hqk,vk,hyk,h⟩ | ⟨hqk,h⟩
  ·obtain⟨v,hy,h⟩:=Br hoj hq hsel pre _ w (λi hi=>hap i (by grind)) h;have hy':YieldsIf P ops S oj v a:=by
    refine hy.of_same ?_ ?_
    ·exact(execOp_put oj (λcs b=>hsel j oj cs b hoj) a _ vk p3).symm
    grind[wanted_put]
   refine⟨v,hy',ok,hok,.inl ⟨hqk,vk,?_,?_⟩⟩
   ·refine hyk.of_same ?_ ?_
    ·exact execOp_put ok (λcs b=>hsel k ok cs b hok) a _ v p1
    grind[wanted_put]
   rw[Act.put_comm a v vk p2];exact h
  have h2:=wpOp_mono (λa' w' (h:S w'/\Rf P ops Q S _ a' w')=>(⟨h.1,Br hoj hq hsel pre a' w' (λi hi=>hap i (by grind)) h.2⟩ :
   S w'/\∃v,YieldsIf P ops S oj v a'/\Rf P ops Q S _ _ w')) h
  obtain⟨u,w1,d,hS1,v0,hy0,_⟩:=vH hok h2;have back:∀(d:List _) (u v:Value),YieldsIf P ops S oj v ({ a with defers:=d }.put ok.dst u)->YieldsIf P ops S oj v a:=λd u v hy=>by
   refine hy.of_same ?_ ?_
   ·rw[execOp_put oj (λcs b=>hsel j oj cs b hoj) _ _ u p3];rfl
   grind[wanted_put]
  have hya:=back d u v0 hy0;refine⟨v0,hya,ok,hok,.inr ⟨hqk,?_⟩⟩;refine UM hok hk (λcs b=>hsel k ok cs b hok) ?_;have h3:wpOp P ops (λ_ _ _=>False) k (λa' w'=>(YieldsIf P ops S oj v0 a')/\(S w'/\∃v,YieldsIf P ops S oj v a'/\Rf P ops Q S (pre++post) (a'.put oj.dst v) w')) a w:=by
   have QKF:∀(u:Value),YieldsIf P ops S oj v0 _:=λu=>by
    refine hya.of_same ?_ ?_
    ·exact execOp_put oj (λcs b=>hsel j oj cs b hoj) a ok.dst u p3
    grind[wanted_put]
   have keepd:∀(d:Deferred) (u:Value),YieldsIf P ops S oj v0 ({ a with defers:=d::a.defers }.put ok.dst u):=λd u=>by
    refine hya.of_same ?_ ?_
    ·rw[execOp_put oj (λcs b=>hsel j oj cs b hoj) _ ok.dst u p3];rfl
    grind[wanted_put]
   clear h;unfold wpOp at h2 ⊢;simp only[hok]at h2 ⊢;split
   ·rename_i hw;simp only[hw,if_true]at h2;rcases h2 with h2 | h2
    case inr=>simp_all
    refine .inl ?_;unfold Oper.wp at *
    generalize (execOp a.eval ok).run P w=r at *
    simp_all[Oper.upon,Calls.mono,Rows.mono]
   simp_all
  refine wpOp_mono (λa' w' h=>?_) h3;obtain⟨hy,hS,v,hy2,hl⟩:=h;have:v=v0:=YieldsIf.uniq hS hy2 hy;simp_all
end
section
variable{ops:Array Oper}{Q:Exit->Act->World->Prop}{S:World->Prop}
theorem Rv(h:wpOp P ops (λ_ _ _=>False) i K a w):wpOp P ops Q i K a w:=by
 unfold wpOp at *
 cases ho:ops[i]? with
 |none=>simp_all
 |some o =>
  simp_all;split
  ·rename_i hw;rw[if_pos hw]at h;rcases h with h | ⟨_,_,_,h⟩
   ·refine .inl ?_;unfold Oper.wp at *
    generalize (execOp _ o).run P w=r at *
    cases r with
    |ok n w' =>
     cases n<;>simp[Oper.upon]at h ⊢
     all_goals first
      |exact h
      |exact Calls.mono h λe w'' he=>by
        cases e with
        |returned u=>exact he
        |panicked c=>trivial
        |outgrown=>obtain⟨_,_,h⟩:=he;trivial
    |halt x w'=>cases x<;>simp[Oper.upon]at h ⊢
   trivial
  simp_all
def Bp(md:Region.Mode)(acc:List Nat)(o:Oper):Nat:=o.after.foldl (λs e=>if Region.binds md e then s ||| 2^e.on ||| acc.getD e.on 0 else s) 0
def SR(md:Region.Mode)(ops:List Oper):List Nat:=ops.foldl (λacc o=>acc++[Bp md acc o]) []
theorem PX{md:Region.Mode}{acc:List Nat}:∀(l:List Edge) (s:Nat),(l.foldl (λs e=>if Region.binds md e then s ||| 2^e.on ||| acc.getD e.on 0 else s) s).testBit i=true ->
  s.testBit i=true\/∃e∈l,Region.binds md e=true/\(i=e.on\/(acc.getD e.on 0).testBit i=true)
 |[],s,h=>.inl h
 |e::l,s,h=>by
  rcases PX l _ h with h | ⟨e',he',h⟩
  all_goals grind
theorem AI{md:Region.Mode}{acc:List Nat}{o:Oper}(h:(Bp md acc o).testBit i=true):∃e∈o.after,Region.binds md e=true/\(i=e.on\/(acc.getD e.on 0).testBit i=true):=by
 unfold Bp at h;rw[<-Array.foldl_toList]at h;rcases PX _ _ h with h | ⟨e,he,h⟩
 all_goals grind
theorem SQ(md:Region.Mode):∀(l:List Oper) (acc:List Nat),∃r,l.foldl (λacc o=>acc++[Bp md acc o]) acc=acc++r/\r.length=l.length /\
  ∀k o,l[k]?=some o->r[k]?=some (Bp md (acc++r.take k) o)
 |[],acc=>⟨[],w9,rfl,λk o h=>by grind⟩
 |o::l,acc=>by
  obtain⟨r,h1,h2,h3⟩:=SQ md l (acc++[Bp md acc o]);refine⟨Bp md acc o::r,by grind,by grind,λk o' h=>?_⟩;cases k<;>simp_all
theorem Iq{md:Region.Mode}{l:List Oper}{o:Oper}(ho:l[k]?=some o)(hord:∀e∈o.after,Region.binds md e=true->e.on<k)(h:((SR md l).getD k 0).testBit i=true):
  ∃e∈o.after,Region.binds md e=true/\(i=e.on\/((SR md l).getD e.on 0).testBit i=true):=by
 obtain⟨r,h1,h2,h3⟩:=SQ md l []
 grind[SR,List.getD,AI,id,Nat.lt_or_ge]
def lexB(md:Region.Mode)(l:List Oper):Bool :=
 let ms:=SR md l
 Region.noSelect l.toArray&&Ve md l.toArray l.length&&(List.range l.length).all λj=>match l[j]? with
  |none=>false
  |some oj=>(List.range j).all λi=>match l[i]? with
   |none=>false
   |some oi=>if JX oi.op||JX oj.op then(Region.waitsFor md l.toArray j i||oi.apart l.toArray oj)else(ms.getD j 0).testBit i
theorem EI{l:List Oper}(h:lexB md l=true){i j:Nat}(hij:i<j){oi oj:Oper}(hi:l[i]?=some oi)(hj:l[j]?=some oj):
  if JX oi.op||JX oj.op then(Region.waitsFor md l.toArray j i||oi.apart l.toArray oj)=true else((SR md l).getD j 0).testBit i=true:=by
 simp[lexB,Bool.and_eq_true]at h
 grind
theorem AH{l:List Oper}{listed:Array Bool}(hord:Ve md l.toArray l.length=true)(hcl:∀j oj,l.toArray[j]?=some oj->listed.getD j false=true->∀e∈oj.after,Region.binds md e=true->listed.getD e.on false=true):
  ∀(k:Nat) (o:Oper),l[k]?=some o->(∀e∈o.after,Region.binds md e=true->listed.getD e.on false=true)->∀i,((SR md l).getD k 0).testBit i=true->listed.getD i false=true:=by
 intro k
 induction k using Nat.strongRecOn with
 |_ k ih =>
  intro o ho hd i hi;have hk:k<l.length:=by grind
  obtain⟨o',ho',hed⟩:=X4 hord hk;have:o'=o:=Option.some.inj (ho'.symm.trans (by simp_all));subst this;obtain⟨e,he,hb,h⟩:=Iq ho hed hi
  grind
theorem ga{l:List Oper}(hB:lexB md l=true)(hQ:∀c a d v w,Q (.panic c) (Act.put a d v) w->Q (.panic c) a w):
  ∀(m:Nat) (r:List Nat) (listed:Array Bool) (a:Act) (w:World),r.length=m->r.Pairwise (·<·)->(∀i,i∈r↔i<l.length/\listed.getD i true=false)->listed.size=l.length ->
   (∀j oj,l.toArray[j]?=some oj->listed.getD j false=true->∀e∈oj.after,Region.binds md e=true->listed.getD e.on false=true)->S w->Rf P l.toArray Q S r a w->wpAnyH P md l.toArray Q S m listed a w:=by
 have hB':=hB;simp only[lexB,Bool.and_eq_true]at hB';obtain⟨⟨hns,hord⟩,_⟩:=hB';have hsel:=Region.noSelect_spec hns;intro m
 induction m with
 |zero =>
  intro r listed a w hm hs hr hsz hcl hS h;have:r=[]:=List.length_eq_zero_iff.1 hm;subst this;refine⟨?_,h⟩;rw[List.eq_nil_iff_forall_not_mem];intro i hi;obtain⟨h1,o,ho,_⟩:=mem_ready.1 hi
  grind
 |succ m ih =>
  intro r listed a w hm hs hr hsz hcl hS h
  match r,hm,hs,hr,h with
  |i::r,hm,hs,hr,h =>
  have hil:=(hr i).1 w9;have hmin:∀j,j<i->listed.getD j false=true:=by
   intro j hj;cases hv:listed.getD j false with
   |true=>rfl
   |false =>
    have hjl:j<l.length:=O;have:=(hr j).2 ⟨hjl,getD_in O hv⟩;rcases List.mem_cons.1 this with e | e
    ·omega
    have:=(List.pairwise_cons.1 hs).1 j e;omega
  obtain⟨oi,hoi,hed⟩:=X4 hord hil.1;have hri:i∈Region.ready md l.toArray listed:=mem_ready.2 ⟨hil.2,oi,hoi,λe he hb=>hmin _ (hed e he hb)⟩;have next:∀j,j∈Region.ready md l.toArray listed->j∈(i::r)->∀a' w',S w'->Rf P l.toArray Q S ((i::r).erase j) a' w'->wpAnyH P md l.toArray Q S m (listed.setIfInBounds j true) a' w':=by
   intro j hj hjr a' w' hS' h';have hjsz:j<listed.size:=by grind
   refine ih ((i::r).erase j) _ a' w' (by grind) (hs.sublist List.erase_sublist) (λk=>?_) (by grind) (λk ok hk hl e he hb=>?_) hS' h'
   ·rw[List.Nodup.mem_erase_iff (hs.imp λh=>Nat.ne_of_lt h),hr k];by_cases hjk:j=k
    ·subst hjk;simp
    rw[getD_set_ne true hjk];grind
   by_cases hjk:j=k
   ·subst hjk;obtain⟨_,oj,hoj,hall⟩:=mem_ready.1 hj
    grind[Option.some.inj,getD_set_true]
   rw[getD_set_ne false hjk]at hl;exact getD_set_true (hcl k ok hk hl e he hb)
  have take:∀j oj,j∈Region.ready md l.toArray listed->l.toArray[j]?=some oj->JX oj.op=true->j∈(i::r)->wpAnyH P md l.toArray Q S (m+1) listed a w:=by
   intro j oj hj hoj hq hjr;obtain⟨pre,post,hpp⟩:=List.append_of_mem hjr;have hjs:=mem_ready.1 hj;have happ:∀k ok,l.toArray[k]?=some ok->k≠j->listed.getD k true=false->(∀e∈ok.after,Region.binds md e=true->e.on≠j)->oj.apart l.toArray ok=true:=by
    intro k ok hok hkj hun hno;have hnw:Region.waitsFor md l.toArray k j=false:=by
     cases hv:Region.waitsFor md l.toArray k j with
     |false=>rfl
     |true =>
      obtain⟨o',ho',e,he,hb,hon⟩:=Region.waitsFor_spec hv;have:o'=ok:=Option.some.inj (ho'.symm.trans hok);subst this;exact absurd hon (hno e he hb)
    have hnw2:Region.waitsFor md l.toArray j k=false:=by
     cases hv:Region.waitsFor md l.toArray j k with
     |false=>rfl
     |true =>
      obtain⟨o',ho',e,he,hb,hon⟩:=Region.waitsFor_spec hv;obtain⟨_,o2,ho2,hall⟩:=hjs;have:o'=o2:=Option.some.inj (ho'.symm.trans ho2);subst this;have:=hall e he hb;rw[hon,getD_both hun]at this;cases this
    rcases Nat.lt_or_gt_of_ne hkj with hlt | hgt
    ·have:=EI hB hlt (by simpa using hok) (by simpa using hoj);rw[if_pos (by simp[hq]),hnw2]at this;exact ET (by simpa using this)
    have:=EI hB hgt (by simpa using hoj) (by simpa using hok);rw[if_pos (by simp[hq]),hnw]at this;simpa using this
   have hfront:=Br (P:=P) (Q:=Q) (S:=S) hoj hq hsel pre a w (post:=post) (λk hk ok hok=>by
    have hkr:k∈(i::r):=by rw[hpp];simp[hk]
    have hkj:k<j:=by
     rw[hpp]at hs;exact(List.pairwise_append.1 hs).2.2 k hk j w9
    refine happ k ok hok O ((hr k).1 hkr).2 (λe he hb heq=>?_);obtain⟨o',ho',hed'⟩:=X4 hord ((hr k).1 hkr).1;have:o'=ok:=Option.some.inj (ho'.symm.trans hok);subst this;have:=hed' e he hb;omega) (by rw[<-hpp];exact h)
   obtain⟨v,hy,h'⟩:=hfront;have herase:(i::r).erase j=pre++post:=by
    rw[hpp,List.erase_append_right,List.erase_cons_head];intro hmem;rw[hpp]at hs;have:=(List.pairwise_append.1 hs).2.2 j hmem j w9;omega
   exact wpAnyH_first hoj hsel (λc a w h=>hQ c a _ v w h) m listed a w happ hj hy hS (next j hj hjr _ w hS (by rw[herase];exact h'))
  by_cases hex:∃j oj,j∈Region.ready md l.toArray listed/\l.toArray[j]?=some oj/\JX oj.op=true
  ·obtain⟨j,oj,hj,hoj,hq⟩:=hex;have hjl:j<l.length:=by have:=(Array.getElem?_eq_some_iff.1 hoj).1;simpa using this
   exact take j oj hj hoj hq ((hr j).2 ⟨hjl,(mem_ready.1 hj).1⟩)
  have hone:∀j∈Region.ready md l.toArray listed,j=i:=by
   intro j hj;obtain⟨hjun,oj,hoj,hall⟩:=mem_ready.1 hj;have hjl:j<l.length:=by have:=(Array.getElem?_eq_some_iff.1 hoj).1;simpa using this
   have hjr:=(hr j).2 ⟨hjl,hjun⟩;rcases List.mem_cons.1 hjr with e | e
   ·exact e
   have hlt:=(List.pairwise_cons.1 hs).1 j e;have hqj:JX oj.op=false:=by
    cases hv:JX oj.op with
    |false=>rfl
    |true=>exact absurd ⟨j,oj,hj,hoj,hv⟩ hex
   have hqi:JX oi.op=false:=by
    cases hv:JX oi.op with
    |false=>rfl
    |true=>exact absurd ⟨i,oi,hri,hoi,hv⟩ hex
   have:=EI hB hlt (by simpa using hoi) (by simpa using hoj);rw[if_neg (by simp[hqi,hqj])]at this;have:=AH hord hcl j oj (by simpa using hoj) hall i this;rw[getD_both hil.2]at this;cases this
  refine⟨λh0=>(by rw[h0]at hri;cases hri),λj hj=>?_⟩;have:=hone j hj;subst this;obtain⟨o,ho,h⟩:=h;have:o=oi:=Option.some.inj (ho.symm.trans hoi);subst this;rcases h with ⟨hq,_⟩ | ⟨_,h⟩
  ·exact absurd ⟨j,o,hri,ho,hq⟩ hex
  refine Rv (wpOp_mono (λa' w' h=>⟨h.1,?_⟩) h);exact next j hri w9 a' w' h.1 (by rw[List.erase_cons_head];exact h.2)
end
section
variable{Q:Exit->Act->World->Prop}{S:World->Prop}
def AL(P:Program)(ops:Array Oper)(Q:Exit->Act->World->Prop)(S:World->Prop):List Oper->Act->World->Prop
  | [],a,w=>Q .normal a w
  | o::r,a,w =>
      (JX o.op=true/\∃v,YieldsIf P ops S o v a/\AL P ops Q S r (a.put o.dst v) w) \/
       (JX o.op=false/\if Region.wanted o (yielded ops a.tmps)then o.wp P a w (λa' w'=>S w'/\AL P ops Q S r a' w') (λ_ _ _=>False)else S w/\AL P ops Q S r (a.put o.dst undef) w)
theorem K6:∀(l:List Oper) (k:Nat) (a:Act) (w:World),(∀j,j<l.length->l[j]?=ops[k+j]?)->AL P ops Q S l a w->Rf P ops Q S (List.range' k l.length) a w
 |[],k,a,w,_,h=>h
 |o::l,k,a,w,hl,h=>by
  have h0:ops[k]?=some o:=by simpa using(hl 0 w9).symm
  have hl':∀j,j<l.length->l[j]?=ops[k+1+j]?:=λj hj=>by
   have:=hl (j+1) (by grind)
   grind
  refine⟨o,h0,?_⟩;rcases h with ⟨h1,v,h2,h3⟩ | ⟨h1,h2⟩
  ·exact .inl ⟨h1,v,h2,K6 l _ _ w hl' h3⟩
  refine .inr ⟨h1,?_⟩;unfold wpOp;simp[h0];split
  ·rename_i hw;rw[if_pos hw]at h2;exact .inl (Oper.wp_mono (λa' w' h=>⟨h.1,K6 l _ a' w' hl' h.2⟩) h2)
  simp_all[if_neg,K6]
theorem GV{l:List Oper}(hB:lexB .any l=true)(hQ:∀c a w,¬Q' (.panic c) a w){a:Act}{w:World}(hS:S w)(h:AL P l.toArray Q' S l a w):
  wpAny P .any l.toArray Q' l.length (Array.replicate l.length false) a w:=by
 refine wpAny_of_held _ _ _ _ (ga hB (λc a d v w h=>absurd h (hQ c _ w)) _ _ _ a w w9 List.pairwise_lt_range' (λi=>?_) w9 (λj oj _ hl=>(by grind[getD_replicate_false])) hS (K6 l 0 a w (λj _=>w9) h));simp_all
def XM(K:Act->World->Prop):Exit->Act->World->Prop
 |.normal,a,w=>K a w
 |_,_,_=>False
theorem Oper.jL{o:Oper}{Q:Exit->Act->World->Prop}(hq:∀e a w,Q e a w->Q' e a w)(h:o.wp P a w K Q):o.wp P a w K Q':=by
 unfold Oper.wp at *
 generalize (execOp _ o).run P w=r at *
 cases r with
 |ok n w' =>
  cases n<;>simp[Oper.upon]at h ⊢
  all_goals first
   |exact h
   |exact Calls.mono h λe w'' he=>by
     cases e with
     |returned u=>exact he
     |panicked c=>simp_all
     |outgrown=>obtain⟨a,w,h⟩:=he;exact⟨a,w,hq _ _ _ h⟩
 |halt x w'=>cases x<;>simp[Oper.upon]at h ⊢;simp_all
theorem IB{Q:Exit->Act->World->Prop}(hq:∀e a w,Q e a w->Q' e a w)(h:wpOp P ops Q i K a w):wpOp P ops Q' i K a w:=by
 unfold wpOp at *
 cases ho:ops[i]? with
 |none=>simp_all
 |some o =>
  simp_all;split
  ·rename_i hw;rw[if_pos hw]at h;exact h.imp (Oper.jL hq) λ⟨h1,a,w,h2⟩=>⟨h1,a,w,hq _ _ _ h2⟩
  simp_all
theorem KP{Q:Exit->Act->World->Prop}(hq:∀e a w,Q e a w->Q' e a w):∀(f:Nat) (listed:Array Bool) (a:Act) (w:World),wpAny P md ops Q f listed a w->wpAny P md ops Q' f listed a w
 |0,_,_,_,h=>⟨h.1,hq _ _ _ h.2⟩
 |f+1,_,_,_,h=>⟨λh0=>hq _ _ _ (h.1 h0),λi hi=>IB hq (wpOp_mono (λa' w' h'=>KP hq f _ a' w' h') (h.2 i hi))⟩
theorem RX{id:Nat}{l:List Oper}(hm:P.follows .mixedOrders=true)(hB:lexB .any l=true)(hS:S { w with drawn:=w.drawn+1 })
  (h:AL P l.toArray (XM (Q .normal)) S l a { w with drawn:=w.drawn+1 }):(Code.region id l.toArray true).wp P Q a w:=by
 refine wp_region_any hm ?_;have:=GV hB (λc a w h=>h) hS h;simpa using KP (λe a w h=>by cases e<;>first | exact h | trivial) _ _ _ _ this
theorem H4{id:Nat}{l:List Oper}(n:Nat)(hm:P.follows .mixedOrders=true)(hB:EA l n=true)(hB2:lexB .any (l.take n)=true)(hS:S { w with drawn:=w.drawn+1 })
  (h:AL P (l.take n).toArray (XM λa w=>wpList P l.toArray Q (l.drop n) a w) S (l.take n) a { w with drawn:=w.drawn+1 }):(Code.region id l.toArray true).wp P Q a w:=by
 refine MH n hm hB ?_;have hn:n<l.length:=by simp_all[EA,Bool.and_eq_true,decide_eq_true_eq]
 have:=GV hB2 (λc a w h=>h) hS h;have e:(l.take n).length=n:=by grind
 rw[e]at this;exact KP (λe a w h=>by cases e<;>first | exact h | trivial) _ _ _ _ this
end
end
abbrev Gs:=Nat->Option (Array Value×TypeId)
variable{F F0:Gs}{G G':Gs->Prop}
def Gs.le(F F':Gs):Prop:=∀b x,F b=some x->F' b=some x
theorem Gs.le_refl(F:Gs):Gs.le F F:=λ_ _ h=>h
theorem Gs.le_trans{F' F'':Gs}(h:Gs.le F F')(k:Gs.le F' F''):Gs.le F F'':=λb x hx=>k b x (h b x hx)
class Up(A:Gs->Prop):Prop where
 up:∀ {F F':Gs},Gs.le F F'->A F->A F'
instance :Up (λ_=>True):=⟨λ_ _=>trivial⟩
instance{A B:Gs->Prop}[a:Up A][b:Up B]:Up (λF=>A F/\B F):=⟨λk h=>⟨a.up k h.1,b.up k h.2⟩⟩
class Dr where
 on:Prop
instance(priority:=10) QKC:Dr:=⟨False⟩
class Df where
 ds:List Deferred
instance(priority:=10) KB:Df:=⟨[]⟩
structure RF[Dr](w w':World):Prop extends Below w.heap.size w w' where
 dr:Dr.on->w.drawn<=w'.drawn
section
variable[Dr]
theorem RF.refl(w:World):RF w w:=⟨Ext.refl w,λ_=>Nat.le_refl _⟩
theorem RF.trans{a b c:World}(h:RF a b)(k:RF b c):RF a c:=⟨Ext.trans h.toBelow k.toBelow,λd=>Nat.le_trans (h.dr d) (k.dr d)⟩
theorem RF.alloc{a:World}(h:RF a w)(o:Obj):RF a (w.alloc o):=⟨Ext.alloc h.toBelow o,h.dr⟩
theorem RF.drew{a:World}(h:RF a w):RF a w.drew:=⟨Ext.drew h.toBelow,λd=>Nat.le_succ_of_le (h.dr d)⟩
end
def RF.of(h:Ext w w'):RF w w':=⟨h,λd=>d.elim⟩
section
variable[Dr][df:Df]
structure Fits(F:Gs)(w:World):Prop where
 row:∀b c T,F b=some (c,T)->∃fr,w.heap[b]?=some (.cells c T fr)
 all:∀b c fr,w.heap[b]?=some (.cells c 201 fr)->F b=some (c,201)
theorem Fits.drew(h:Fits F w):Fits F w.drew:=⟨h.row,h.all⟩
theorem Fits.lt(h:Fits F w){b:Nat}{x:Array Value×TypeId}(hb:F b=some x):b<w.heap.size:=by
 obtain⟨fr,h⟩:=h.row b x.1 x.2 hb
 grind
theorem Fits.none(h:Fits F w){b:Nat}(hb:w.heap.size<=b):F b=none:=by
 cases hv:F b with
 |none=>rfl
 |some x=>have:=h.lt hv;omega
abbrev Sl:=List (Nat×Value)
def look:Sl->Nat->Option Value
 |[],_=>none
 |(k,v)::r,t=>bif Nat.beq k t then some v else look r t
def upd(m:Sl):Option Tmp->Value->Sl
 |some d,v=>(d,v)::m
 |none,_=>m
def ev(m:Sl):Operand->Option Value
 |.tmp t=>look m t
 |.const v=>some v
 |.global g=>some (.pointer (some ⟨g,0,none⟩))
 |.func f=>some (.func (.func f) #[] #[])
def D2(m:Sl):List Operand->Option (List Value)
 |[]=>some []
 |x::r=>match ev m x,D2 m r with
  |some v,some l=>some (v::l)
  |_,_=>none
def Jq(N:Nat)(d:Option Tmp):Bool:=match d with | some d=>Nat.blt d N | none=>true
structure JO(N:Nat)(m:Sl)(a:Act):Prop where
 size:a.tmps.size=N
 df:a.defers=Df.ds
 get:∀t v,look m t=some v->a.tmps[t]?=some v
theorem JO.ev{m:Sl}(h:JO N m a){x:Operand}{v:Value}(hx:ev m x=some v):a.eval x=v:=by
 cases x with
 |tmp t=>have:=h.get t v hx;simp[Act.eval,this]
 |const v'=>grind[YteldggljlnakmaaGreatDoor.ev,Act.eval]
 |global g=>grind[YteldggljlnakmaaGreatDoor.ev,Act.eval]
 |func f=>grind[YteldggljlnakmaaGreatDoor.ev,Act.eval]
theorem JO.D2{m:Sl}(h:JO N m a):∀ {l:List _} {vs:List Value},D2 m l=some vs->l.map a.eval=vs
 |[],vs,e=>by grind[YteldggljlnakmaaGreatDoor.D2]
 |x::l,vs,e=>by
  unfold YteldggljlnakmaaGreatDoor.D2 at e;cases hx:YteldggljlnakmaaGreatDoor.ev m x with
  |none=>simp_all
  |some v =>
   cases hl:YteldggljlnakmaaGreatDoor.D2 m l with
   |none=>simp_all
   |some r =>
    rw[hx,hl]at e;simp at e;subst e;rw[List.map_cons,h.ev hx,h.D2 hl]
theorem JO.put{m:Sl}(h:JO N m a){d:Option Tmp}(hd:Jq N d=true)(v:Value):JO N (upd m d v) (a.put d v):=by
 cases d with
 |none=>exact h
 |some d =>
  have hd':d<N:=by simp_all[Jq]
  refine⟨by simp[Act.put,h.size],h.df,λt u ht=>?_⟩;simp[upd,look]at ht;cases hb:Nat.beq d t with
  |true =>
   have:d=t:=by simp_all
   subst this;have:v=u:=by simp_all
   subst this;simp[Act.put,h.size,hd']
  |false =>
   rw[hb]at ht;have hne:d≠t:=by intro e;simp_all
   have:=h.get t u (by trivial)
   grind[Act.put]
def YT(m:Sl):Sl->Prop
 |[]=>True
 |(t,v)::r=>look m t=some v/\YT m r
theorem JO.sub{m:Sl}(h:JO N m a):∀ {m':Sl},YT m m'->JO N m' a
 |[],_=>⟨h.size,h.df,λt v e=>by trivial⟩
 |(k,u)::r,⟨h1,h2⟩=>by
  refine⟨h.size,h.df,λt v e=>?_⟩;simp[look]at e;cases hb:Nat.beq k t with
  |true =>
   have:k=t:=by simp_all
   subst this;have:u=v:=by simp_all
   subst this;exact h.get _ _ h1
  |false=>rw[hb]at e;exact(h.sub h2).get t v (by trivial)
structure Env where
 w0:World
 F0:Gs
 bs:List (Nat×Obj)
 G:Gs->Prop
structure OX(E:Env)(w:World)(F:Gs):Prop where
 le:Gs.le E.F0 F
 old:∀b,b<E.w0.heap.size->F b=E.F0 b
 fits:Fits F w
 ext:RF E.w0 w
 bx:∀k∈E.bs,w.heap[k.1]?=some k.2/\E.w0.heap.size<=k.1/\F k.1=none
 nd:(E.bs.map (·.1)).Nodup
 g:∀F',Gs.le F F'->E.G F'
def St(E:Env)(w:World):Prop:=∃F,OX E w F
theorem OX.drew{E:Env}(h:OX E w F):OX E w.drew F:=⟨h.le,h.old,h.fits.drew,h.ext.drew,h.bx,h.nd,h.g⟩
theorem St.drew{E:Env}(h:St E w):St E w.drew:=h.imp λ_ h=>h.drew
theorem OX.hG{E:Env}(h:OX E w F):E.G F:=h.g F (Gs.le_refl F)
theorem St.start(hf:Fits F w){G:Gs->Prop}(hg:∀F',Gs.le F F'->G F'):St ⟨w,F,[],G⟩ w :=
 ⟨F,Gs.le_refl F,λ_ _=>rfl,hf,RF.refl w,λ_ h=>(by cases h),List.nodup_nil,hg⟩
theorem St.imp{bs bs':List _}(h:St ⟨w0,F0,bs,G⟩ w)(hb:bs'.Sublist bs)(hg:∀F,G F->G' F):St ⟨w0,F0,bs',G'⟩ w:=by
 obtain⟨F,h⟩:=h;exact⟨F,h.le,h.old,h.fits,h.ext,λk hk=>h.bx k (hb.subset hk),(hb.map _).nodup h.nd,λF' hF'=>hg F' (h.g F' hF')⟩
theorem St.Bs{bs:List _}(h:St ⟨w0,F0,bs,G⟩ w)(hg:∀F,G F->G' F):St ⟨w0,F0,bs,G'⟩ w:=h.imp (List.Sublist.refl _) hg
theorem CN{x:α}{l r:List α}(h:(l++x::r).Nodup):x∉l++r/\(l++r).Nodup:=by
 grind
theorem St.alloc{bs:List _}(h:St ⟨w0,F0,bs,G⟩ w)(o:Obj)(ho:∀c fr,o≠.cells c 201 fr):St ⟨w0,F0,(w.heap.size,o)::bs,G⟩ (w.alloc o):=by
 obtain⟨F,h⟩:=h;have hne:∀k∈bs,k.1≠w.heap.size:=λk hk e=>by
  have:=(h.bx k hk).1;simp_all
 refine⟨F,⟨h.le,h.old,⟨λb c T hb=>?_,λb c fr hb=>?_⟩,h.ext.alloc o,λk hk=>?_,?_,h.g⟩⟩
 ·obtain⟨fr,e⟩:=h.fits.row b c T hb
  grind[Below.heap_alloc]
 ·rcases Nat.lt_or_ge b _ with g | g
  ·rw[Below.heap_alloc _ _ _ g]at hb;exact h.fits.all b c fr hb
  have hb':(w.heap.push o)[b]?=some _:=hb
  grind
 ·rcases List.mem_cons.1 hk with rfl | hk
  ·exact⟨by show(w.heap.push o)[w.heap.size]?=_;simp,h.ext.size,h.fits.none (Nat.le_refl _)⟩
  obtain⟨h1,h2,h3⟩:=h.bx k hk
  grind[Nat.lt_or_ge,Below.heap_alloc]
 refine List.nodup_cons.2 ⟨λhm=>?_,h.nd⟩
 grind
theorem OX.freeze{pre post:List _}{c:Array Value}{fr:Nat×Nat}(h:OX ⟨w0,F0,pre++(b,.cells c T fr)::post,G⟩ w F):
  OX ⟨w0,F0,pre++post,G⟩ w (λi=>if i=b then some (c,T)else F i)/\Gs.le F (λi=>if i=b then some (c,T)else F i):=by
 obtain⟨h1,h2,h3⟩:=h.bx (b,.cells c T fr) w9;have hle:Gs.le F (λi=>if i=b then some (c,T)else F i):=λi x hx=>by
  grind
 have hnd:=h.nd;simp at hnd;have hnd2:=(CN hnd);refine⟨⟨Gs.le_trans h.le hle,λi hi=>?_,⟨λi c' T' hi=>?_,λi c' fr' hi=>?_⟩,h.ext,λk hk=>?_,?_,λF' hF'=>h.g F' (Gs.le_trans hle hF')⟩,hle⟩
 ·have:i≠b:=by grind
  rw[if_neg this];exact h.old i hi
 ·by_cases e:i=b
  ·simp_all
  rw[if_neg e]at hi;exact h.fits.row i c' T' hi
 ·by_cases e:i=b
  ·simp_all
  rw[if_neg e];exact h.fits.all i c' fr' hi
 ·obtain⟨g1,g2,g3⟩:=h.bx k (by
   grind)
  grind
 simp_all
theorem St.freeze(pre:List _){post:List _}{b:Nat}{c:Array Value}{T:TypeId}{fr:Nat×Nat}{G:Gs->Prop}{w:World}(h:St ⟨w0,F0,pre++(b,.cells c T fr)::post,G⟩ w):
  St ⟨w0,F0,pre++post,λF=>G F/\F b=some (c,T)⟩ w:=by
 obtain⟨F,h⟩:=h;obtain⟨h1,hle⟩:=h.freeze;exact⟨_,h1.le,h1.old,h1.fits,h1.ext,h1.bx,h1.nd,λF' hF'=>⟨h1.g F' hF',hF' b _ w9⟩⟩
theorem St.write(pre:List _){post:List _}{b:Nat}{o o':Obj}{G:Gs->Prop}{w w':World}(h:St ⟨w0,F0,pre++(b,o)::post,G⟩ w)
  (hw:w'.heap=w.heap.setIfInBounds b o'/\w'.os=w.os/\w'.tape=w.tape/\w'.output=w.output/\w'.drawn=w.drawn) (ho:∀c fr,o'≠.cells c 201 fr):St ⟨w0,F0,pre++(b,o')::post,G⟩ w':=by
 obtain⟨F,h⟩:=h;obtain⟨h1,h2,h3⟩:=h.bx (b,o) w9;have hlt:b<w.heap.size:=by
  grind
 have hne:∀i,i≠b->w'.heap[i]?=w.heap[i]?:=λi hi=>by grind
 have heq:w'.heap[b]?=some o':=by simp_all
 have hsz:w'.heap.size=w.heap.size:=by simp_all
 have hnd:=h.nd;refine⟨F,⟨h.le,h.old,⟨λi c T hi=>?_,λi c fr hi=>?_⟩,⟨Ext.QAO h.ext.toBelow ?_ ?_ ?_ ?_ ?_,λd=>by rw[hw.2.2.2.2];exact h.ext.dr d⟩,λk hk=>?_,?_,h.g⟩⟩
 ·have:i≠b:=by grind
  rw[hne i this];exact h.fits.row i c T hi
 ·by_cases e:i=b
  ·simp_all
  rw[hne i e]at hi;exact h.fits.all i c fr hi
 ·simp_all
 ·simp_all
 ·simp_all
 ·omega
 ·grind
 ·have key:k=(b,o')\/k∈pre++post:=by
   grind
  rcases key with rfl | hk'
  ·trivial
  obtain⟨g1,g2,g3⟩:=h.bx k (by
   grind)
  grind
 simp_all
end
variable{m:Sl}
section
variable[Dr][df:Df]
section
variable{P:Program}{Q:Exit->Act->World->Prop}{N:Nat}{m:Sl}{E:Env}
def Fin(Q:Exit->Act->World->Prop)(e:Exit)(N:Nat)(m:Sl)(E:Env):Prop:=∀a w,JO N m a->St E w->Q e a w
def J(P:Program)(c:Code)(Q:Exit->Act->World->Prop)(N:Nat)(m:Sl)(E:Env):Prop:=∀a w,JO N m a->St E w->c.wp P Q a w
def JS(P:Program)(ops:Array Oper)(Q:Exit->Act->World->Prop)(l:List Oper)(N:Nat)(m:Sl)(E:Env):Prop:=∀a w,JO N m a->St E w->wpList P ops Q l a w
def JD(P:Program)(ops:Array Oper)(Q:Exit->Act->World->Prop)(E0:Env)(l:List Oper)(N:Nat)(m:Sl)(E:Env):Prop:=(∀w,St E w->St E0 w)->∀a w,JO N m a->St E w->AL P ops Q (St E0) l a w
theorem QG{x y:Code}(h:J P x (Exit.then (y.wp P Q) Q) N m E):J P (.seq x y) Q N m E:=λa w ha hw=>wp_seq (h a w ha hw)
theorem QO{id:Nat}(h:J P c (Exit.inBlock id Q) N m E):J P (.block id c) Q N m E:=λa w ha hw=>wp_block (h a w ha hw)
theorem QK(h:Fin Q .normal N m E):J P .skip Q N m E:=λa w ha hw=>wp_skip (h a w ha hw)
theorem Y5{id:Nat}(h:Fin Q (.exit id) N m E):J P (.exit id) Q N m E:=λa w ha hw=>wp_exit (h a w ha hw)
theorem QT(h:Fin Q .ret N m E):J P .ret Q N m E:=λa w ha hw=>wp_ret (h a w ha hw)
theorem QL{c:Operand}{x y:Code}{t:Bool}(hc:ev m c=some (.bool t))(ht:t=true->J P x Q N m E)(hf:t=false->J P y Q N m E):J P (.cond c x y) Q N m E :=
 λa w ha hw=>wp_cond_split (ha.ev hc) (λh=>ht h a w ha hw) λh=>hf h a w ha hw
theorem ZB{c:Operand}{x y:Code}(hc:ev m c=some (.bool true))(h:J P x Q N m E):J P (.cond c x y) Q N m E:=QL hc (λ_=>h) λh=>by cases h
theorem ZP{c:Operand}{x y:Code}(hc:ev m c=some (.bool false))(h:J P y Q N m E):J P (.cond c x y) Q N m E:=QL hc (λh=>by cases h) λ_=>h
theorem QC{y:Code}(h:J P y Q N m E):Fin (Exit.then (y.wp P Q) Q) .normal N m E:=h
theorem XD{id:Nat}(h:Fin Q (.exit id) N m E):Fin (Exit.then K Q) (.exit id) N m E:=h
theorem T9(h:Fin Q .ret N m E):Fin (Exit.then K Q) .ret N m E:=h
theorem Qa{id:Nat}(h:Fin Q .normal N m E):Fin (Exit.inBlock id Q) .normal N m E:=h
theorem MF{id:Nat}(h:Fin Q .ret N m E):Fin (Exit.inBlock id Q) .ret N m E:=h
theorem XE{id:Nat}(h:Fin Q .normal N m E):Fin (Exit.inBlock id Q) (.exit id) N m E:=λa w ha hw=>by simp only[Exit.inBlock,if_true];exact h a w ha hw
theorem J0{id id':Nat}(hid:Nat.beq id' id=false)(h:Fin Q (.exit id') N m E):Fin (Exit.inBlock id Q) (.exit id') N m E:=λa w ha hw=>by
 have:id'≠id:=by rintro rfl;simp at hid
 simp only[Exit.inBlock,if_neg this];exact h a w ha hw
theorem Q7{id:Nat}{q:Prop}(k:q)(h:q->J P (.exit id) Q N m E:=by intro x;refine Y5 ?_;(repeat first|refine XD ?_|refine J0 w8 ?_);refine XE ?_;(try refine Qa ?_);refine QC ?_;exact x):J P (.exit id) Q N m E:=h k
theorem X6{q:Prop}(k:q)(h:q->J P .ret Q N m E:=by intro x;refine QT ?_;(repeat first|refine T9 ?_|refine MF ?_);exact x):J P .ret Q N m E:=h k
def Sz{ι:Type}(N:Nat)(w0:World)(F0:Gs)(M:ι->Sl)(B:ι->List (Nat×Obj))(H:ι->Gs->Prop)(μ:ι->Nat)(i:ι)(a:Act)(w:World):Prop :=
 ∃j,μ j<μ i/\JO N (M j) a/\St ⟨w0,F0,B j,H j⟩ w
theorem KK(M:ι->Sl)(B:ι->List (Nat×Obj))(H:ι->Gs->Prop)(μ:ι->Nat)(i0:ι)
  (hm:YT m (M i0)) (hb:(B i0).Sublist bs) (hg:∀F,G F->H i0 F)
  (round:∀i,J P c (Exit.then (Sz N w0 F0 M B H μ i) Q) N (M i) ⟨w0,F0,B i,H i⟩):J P (.loop c) Q N m ⟨w0,F0,bs,G⟩:=by
 intro a w ha hw;refine wp_loop_ghost (λn a w=>∃i,μ i=n/\JO N (M i) a/\St ⟨w0,F0,B i,H i⟩ w) (μ i0) ⟨i0,rfl,ha.sub hm,hw.imp hb hg⟩ ?_;rintro n a w ⟨i,rfl,ha,hw⟩;refine wp_mono (round i a w ha hw) ?_;intro e a' w' h;cases e with
 |normal=>obtain⟨j,h1,h2,h3⟩:=h;exact⟨μ j,h1,j,rfl,h2,h3⟩
 |_=>exact h
theorem EY(M:ι->Sl)(B:ι->List (Nat×Obj))(H:ι->Gs->Prop)(μ:ι->Nat)(i0:ι)
  (hm:YT m (M i0)) (round:∀i,J P c (Exit.then (Sz N w0 F0 M B H μ i) Q) N (M i) ⟨w0,F0,B i,H i⟩) (hb:(B i0).Sublist bs:=by first | exact List.Sublist.refl _ | (repeat' (first | exact List.Sublist.refl _ | exact List.nil_sublist _ | refine List.Sublist.cons_cons _ ?_ | refine List.Sublist.cons _ ?_))) (hg:∀F,G F->H i0 F:=by intro F h;first | exact h | exact⟨h,trivial⟩ | (repeat' (first | exact trivial | exact h.2 | exact h.1.2 | exact h.1.1.2 | exact h.1.1.1.2 | exact h.1.1.1.1.2 | exact h.1.1.1.1.1.2 | exact h.1.1.1.1.1.1.2 | exact h.1.1.1.1.1.1.1.2 | exact h.1.1.1.1.1.1.1.1.2 | exact h.1.1.1.1.1.1.1.1.1.2 | exact h.1 | exact h.1.1 | exact h.1.1.1 | exact h.1.1.1.1 | exact h.1.1.1.1.1 | exact h.1.1.1.1.1.1 | exact h.1.1.1.1.1.1.1 | exact h.1.1.1.1.1.1.1.1 | exact h.1.1.1.1.1.1.1.1.1 | refine And.intro ?_ ?_))):J P (.loop c) Q N m ⟨w0,F0,bs,G⟩:=KK M B H μ i0 hm hb hg round
theorem Qb{M:ι->Sl}{B:ι->List (Nat×Obj)}{H:ι->Gs->Prop}{μ:ι->Nat}{i:ι}(j:ι)(hμ:μ j<μ i:=by dsimp only;omega)
  (hm:YT m (M j):=by repeat' (first | exact trivial | refine⟨rfl,?_⟩)) (hb:(B j).Sublist bs:=by first | exact List.Sublist.refl _ | (repeat' (first | exact List.Sublist.refl _ | exact List.nil_sublist _ | refine List.Sublist.cons_cons _ ?_ | refine List.Sublist.cons _ ?_))) (hg:∀F,G F->H j F:=by intro F h;first | exact h | exact⟨h,trivial⟩ | (repeat' (first | exact trivial | exact h.2 | exact h.1.2 | exact h.1.1.2 | exact h.1.1.1.2 | exact h.1.1.1.1.2 | exact h.1.1.1.1.1.2 | exact h.1.1.1.1.1.1.2 | exact h.1.1.1.1.1.1.1.2 | exact h.1.1.1.1.1.1.1.1.2 | exact h.1.1.1.1.1.1.1.1.1.2 | exact h.1 | exact h.1.1 | exact h.1.1.1 | exact h.1.1.1.1 | exact h.1.1.1.1.1 | exact h.1.1.1.1.1.1 | exact h.1.1.1.1.1.1.1 | exact h.1.1.1.1.1.1.1.1 | exact h.1.1.1.1.1.1.1.1.1 | refine And.intro ?_ ?_))):Fin (Exit.then (Sz N w0 F0 M B H μ i) Q) .normal N m ⟨w0,F0,bs,G⟩ :=
 λa w ha hw=>⟨j,hμ,ha.sub hm,hw.imp hb hg⟩
theorem QB{id:Nat}{l:List Oper}(h:JS P l.toArray Q l N m E):J P (.region id l.toArray false) Q N m E:=λa w ha hw=>wp_region_lit (h a w ha hw)
variable{ops:Array Oper}{l:List Oper}{E0:Env}
theorem QF(h:Fin Q .normal N m E):JS P ops Q [] N m E:=h
theorem LP(h:∀a w,JO N m a->St E w->K a w):JD P ops (XM K) E0 [] N m E:=λ_=>h
def Qt(P:Program)(N:Nat)(m:Sl)(S:World->Prop)(o:Op)(ty:TypeId)(v:Value):Prop:=∀a w d pos aft g,JO N m a->S w->(execOp a.eval ⟨d,o,ty,pos,aft,g⟩).run P w = .ok (.value v) w
variable{d:Nat}{o:Op}{ty:TypeId}{pos:String}{aft:Array Edge}{v:Value}
theorem QA(h:Qt P N m (St E) o ty v)(k:JS P ops Q l N ((d,v)::m) E)(hd:Jq N (some d)=true:=by rfl):JS P ops Q (⟨some d,o,ty,pos,aft,none⟩::l) N m E:=by
 intro a w ha hw;refine wpList_plain rfl λK hK=>?_;unfold Oper.wp;rw[h a w _ _ _ _ ha hw];exact hK _ _ (k _ w (ha.put hd v) hw)
theorem QI(h:Qt P N m (St E0) o ty v)(k:JD P ops Q E0 l N ((d,v)::m) E)(hq:JX o=true:=by rfl)(hd:Jq N (some d)=true:=by rfl):JD P ops Q E0 (⟨some d,o,ty,pos,aft,none⟩::l) N m E:=by
 intro hE a w ha hw;exact .inl ⟨hq,v,.inl ⟨rfl,λw' hw'=>h a w' _ _ _ _ ha hw'⟩,k hE _ w (ha.put hd v) hw⟩
theorem Hk(ha:JO N m a){g t:Nat}{b:Bool}(hg:(ops[g]?).bind (·.dst)=some t)(hb:look m t=some (.bool b)):yielded ops a.tmps g=some b:=by
 unfold yielded;rw[hg];have:=ha.get t _ hb;simp[this]
theorem QBj{d:Option Tmp}{g t:Nat}{b want:Bool}(hg:(ops[g]?).bind (·.dst)=some t)(hb:look m t=some (.bool b))(ht:b=want->JS P ops Q (⟨d,o,ty,pos,aft,none⟩::l) N m E)(hf:b=!want->JS P ops Q l N (upd m d undef) E)
  (hd:Jq N d=true:=by rfl):JS P ops Q (⟨d,o,ty,pos,aft,some (g,want)⟩::l) N m E:=by
 intro a w ha hw;unfold wpList;have hy:=Hk ha hg hb;by_cases e:b=want
 ·have:=ht e a w ha hw;unfold wpList at this;rw[if_pos (by simp[Region.wanted])]at this;rw[if_pos (by simp[Region.wanted,hy,e])];exact this
 rw[if_neg (by simp[Region.wanted,hy,e])];exact hf (by cases b<;>cases want<;>simp_all) _ w (ha.put hd undef) hw
theorem QE7{d:Option Tmp}{g t:Nat}{b want:Bool}(hg:(ops[g]?).bind (·.dst)=some t)(hb:look m t=some (.bool b))(ht:b=want->JD P ops Q E0 (⟨d,o,ty,pos,aft,none⟩::l) N m E)(hf:b=!want->JD P ops Q E0 l N (upd m d undef) E)
  (hd:Jq N d=true:=by rfl):JD P ops Q E0 (⟨d,o,ty,pos,aft,some (g,want)⟩::l) N m E:=by
 intro hE a w ha hw;have hy:=Hk ha hg hb;by_cases e:b=want
 ·rcases ht e hE a w ha hw with ⟨h1,v,h2,h3⟩ | ⟨h1,h2⟩
  ·refine .inl ⟨h1,v,?_,h3⟩;rcases h2 with ⟨_,h2⟩ | ⟨h2,_⟩
   ·exact .inl ⟨by simp[Region.wanted,hy,e],h2⟩
   simp[Region.wanted]at h2
  refine .inr ⟨h1,?_⟩;rw[if_pos (by simp[Region.wanted])]at h2;rw[if_pos (by simp[Region.wanted,hy,e])];exact h2
 have hr:=hf (by cases b<;>cases want<;>simp_all) hE _ w (ha.put hd undef) hw;cases hq:JX o with
 |true=>exact .inl ⟨hq,undef,.inr ⟨by simp[Region.wanted,hy,e],rfl⟩,hr⟩
 |false =>
  refine .inr ⟨hq,?_⟩;rw[if_neg (by simp[Region.wanted,hy,e])];exact⟨hE w hw,hr⟩
end
end
section
variable[Dr][df:Df]
def QIJ(d:TypeDesc):Bool:=match d with | .struct _ | .array _ _=>true | _=>false
def Zd(P:Program)(T:TypeId):Option (Bool×Nat):=match P.underlying T,P.info? T with
 |some d,some i=>some (QIJ d,i.size)
 |_,_=>none
theorem RH{n:Nat}(h:Zd P T=some (g,n))(w:World):(isAgg T).run P w = .ok g w:=by
 unfold Zd at h;split at h
 ·rename_i d i hd hi;cases h;unfold isAgg;rw[Sem.run_bind,run_underlying hd w];cases d<;>rfl
 grind
theorem Ys{n:Nat}(h:Zd P T=some (g,n))(w:World):(sizeOf T).run P w = .ok n w:=by
 unfold Zd at h;split at h
 all_goals simp_all[sizeOf,typeInfo]
def Y4(P:Program)(T:TypeId)(f:Nat):Option (Nat×TypeId):=match P.underlying T with
 |some (.struct fs)=>match fs[f]? with
  |some x=>some (x.offset,x.type)
  |none=>none
 |_=>none
inductive MG:List Value->Nat->List Value->Prop
 |nil {l:List Value}:MG l 0 []
 |here {x:Value} {l vs:List Value}:MG l 0 vs->MG (x::l) 0 (x::vs)
 |skip {x:Value} {l vs:List Value} {n:Nat}:MG l n vs->MG (x::l) (n+1) vs
theorem MG.at{n:Nat}(h:MG l n vs):∀(j:Nat) (v:Value),vs[j]?=some v->l[n+j]?=some v:=by
 induction h<;>grind
inductive KC:List Value->Nat->List Value->List Value->Prop
 |nil {l:List Value}:KC l 0 [] l
 |here {x v:Value} {l vs l':List Value}:KC l 0 vs l'->KC (x::l) 0 (v::vs) (v::l')
 |skip {x:Value} {l vs l':List Value} {n:Nat}:KC l n vs l'->KC (x::l) (n+1) vs (x::l')
theorem KC.le{n:Nat}(h:KC l n vs l'):n+vs.length<=l.length:=by
 induction h<;>simp_all<;>omega
theorem KC.eq{n:Nat}(h:KC l n vs l'):l'=l.take n++vs++l.drop (n+vs.length):=by
 induction h<;>simp_all[Nat.add_right_comm]
inductive Own:List (Nat×Obj)->Nat->Obj->(Obj->List (Nat×Obj))->Prop
 |here {b:Nat} {o:Obj} {r:List (Nat×Obj)}:Own ((b,o)::r) b o λo'=>(b,o')::r
 |there {x:Nat×Obj} {l:List (Nat×Obj)} {b:Nat} {o:Obj} {f:Obj->List (Nat×Obj)}:Own l b o f->Own (x::l) b o λo'=>x::f o'
theorem Own.split{l:List _}{f:Obj->List _}(h:Own l b o f):∃pre post,l=pre++(b,o)::post/\∀o',f o'=pre++(b,o')::post:=by
 induction h with
 |here=>exact⟨[],_,rfl,λ_=>rfl⟩
 |there h ih =>
  grind
theorem Own.mem{l:List _}{f:Obj->List _}(h:Own l b o f):(b,o)∈l:=by
 obtain⟨pre,post,h1,_⟩:=h.split;simp_all
inductive C2:List (Nat×Obj)->Nat->Obj->List (Nat×Obj)->Prop
 |here {b:Nat} {o:Obj} {r:List (Nat×Obj)}:C2 ((b,o)::r) b o r
 |there {x:Nat×Obj} {l l':List (Nat×Obj)} {b:Nat} {o:Obj}:C2 l b o l'->C2 (x::l) b o (x::l')
theorem C2.split{l l':List _}(h:C2 l b o l'):∃pre post,l=pre++(b,o)::post/\l'=pre++post:=by
 induction h with
 |here=>exact⟨[],_,rfl,rfl⟩
 |there h ih =>
  grind
section
variable{P:Program}{Q:Exit->Act->World->Prop}{N:Nat}{m:Sl}{E E0:Env}{ops:Array Oper}{l:List Oper}{w0:World}{F0:Gs}{bs:List (Nat×Obj)}{G:Gs->Prop}
theorem St.own(h:St ⟨w0,F0,bs,G⟩ w){b:Nat}{o:Obj}{f:Obj->List _}(ho:Own bs b o f):w.heap[b]?=some o:=by
 obtain⟨F,h⟩:=h;exact(h.bx (b,o) ho.mem).1
section
variable{ty:TypeId}{v:Value}{S:World->Prop}
theorem QD(h:ev m x=some v):Qt P N m S (.move x) ty v:=λa w _ _ _ _ ha _=>by
 show(Result.ok _ w)=_;rw[ha.ev h]
theorem QE(h:ev m x=some v):Qt P N m S (.assign x) ty v:=λa w _ _ _ _ ha _=>by
 show(Result.ok _ w)=_;rw[ha.ev h]
theorem xG{c:Operand}{b:Bool}{u:Value}(hc:ev m c=some (.bool b))(hx:ev m x=some v)(hy:ev m y=some u):Qt P N m S (.pick c x y) ty (if b then v else u):=λa w _ _ _ _ ha _=>by
 simp[execOp,ha.ev hc,ha.ev hx,ha.ev hy,asBool,pure_bind,Sem.run_pure]
theorem QU{vs:Array Value}(h:ev m x=some (.tuple vs))(hi:vs[i]?=some v):Qt P N m S (.extract x i) ty v:=λa w _ _ _ _ ha _=>by
 simp[execOp,ha.ev h,Instr.extract,hi]
theorem Xl{p:Addr}(h:ev m x=some (.pointer (some p))):Qt P N m S (.nilCheck x) ty (.pointer (some p)):=λa w _ _ _ _ ha _=>by
 simp[execOp,ha.ev h]
theorem QH{f:Nat}{fo n:Nat}{ft:TypeId}(h:ev m x=some (.pointer (some ⟨b,off,none⟩)))(hf:Y4 P T f=some (fo,ft))(hs:Zd P ft=some (g,n+1)):
  Qt P N m S (.fieldAddr T x f) ty (.pointer (some ⟨b,off+fo,none⟩)):=λa w _ _ _ _ ha _=>by
 unfold Y4 at hf;split at hf
 ·rename_i fs hu;split at hf
  ·rename_i fx hx;obtain⟨rfl,rfl⟩:=hf;have hadd:(⟨b,off,none⟩:Addr).add fx.offset=⟨b,off+fx.offset,none⟩:=by simp[Addr.add]
   simp[execOp,ha.ev h,Instr.fieldAt,run_underlying hu,hx,Instr.sureAddr,fieldPlace,Ys hs,hadd]
  trivial
 trivial
theorem Zm{n:Nat}(ht:Zd P T=some (false,n)){w:World}{a:Addr}{v:Value}(h:w.cell? a=some v):(loadVar T a).run P w = .ok v w:=by
 simp[loadVar,RH ht,h]
theorem K5{n:Nat}(ht:Zd P T=some (true,n))(hn:vs.length=n){w:World}{b off:Nat}(h:∀j v,vs[j]?=some v->w.cell? ⟨b,off+j,none⟩=some v):(loadVar T ⟨b,off,none⟩).run P w = .ok (.agg vs.toArray) w:=by
 have hl:=run_loadCells_list (P:=P) w ⟨b,off,none⟩ vs (λj v hv=>by
  grind[Addr.add])
 subst hn;simp[loadVar,RH ht,Ys ht,hl]
theorem ZC{o:Nat}{c:List Value}{fr:Nat×Nat}(h:w.heap[b]?=some (.cells c.toArray T fr)):w.cell? ⟨b,o,none⟩=c[o]?:=by
 simp[World.cell?,h]
theorem Qf{n:Nat}{c:List Value}{fr:Nat×Nat}{f:Obj->List _}(h:ev m x=some (.pointer (some ⟨b,off,none⟩)))(ht:Zd P T=some (false,n))(ho:Own bs b (.cells c.toArray T' fr) f)(hg:MG c off [v]):
  Qt P N m (St ⟨w0,F0,bs,G⟩) (.load T x) ty v:=λa w _ _ _ _ ha hw=>by
 have hc:w.cell? ⟨b,off,none⟩=some v:=by rw[ZC (hw.own ho)];exact hg.at 0 v I
 simp[execOp,ha.ev h,Instr.loadAt,Instr.sureAddr,Zm ht hc]
theorem QX{n:Nat}{c:List Value}{fr:Nat×Nat}{f:Obj->List _}(h:ev m x=some (.pointer (some ⟨b,off,none⟩)))(ht:Zd P T=some (true,n))(ho:Own bs b (.cells c.toArray T' fr) f)(hg:MG c off vs)(hn:vs.length=n):
  Qt P N m (St ⟨w0,F0,bs,G⟩) (.load T x) ty (.agg vs.toArray):=λa w _ _ _ _ ha hw=>by
 have:=K5 ht hn (λj v hv=>by rw[ZC (hw.own ho)];exact hg.at j v hv);simp[execOp,ha.ev h,Instr.loadAt,Instr.sureAddr,this]
theorem cell_of_row(h:St ⟨w0,F0,bs,G⟩ w){b o:Nat}{c:Array Value}{T:TypeId}{v:Value}(hr:∀F,G F->F b=some (c,T))(hv:c[o]?=some v):w.cell? ⟨b,o,none⟩=some v:=by
 obtain⟨F,h⟩:=h;obtain⟨fr,e⟩:=h.fits.row b c T (hr F h.hG);simp[World.cell?,e,hv]
theorem Eo{n:Nat}{c:Array Value}(h:ev m x=some (.pointer (some ⟨b,off,none⟩)))(ht:Zd P T=some (false,n))(hr:∀F,G F->F b=some (c,T'))(hv:c[off]?=some v):
  Qt P N m (St ⟨w0,F0,bs,G⟩) (.load T x) ty v:=λa w _ _ _ _ ha hw=>by
 simp[execOp,ha.ev h,Instr.loadAt,Instr.sureAddr,Zm ht (cell_of_row hw hr hv)]
theorem Ux{n:Nat}{c:Array Value}(h:ev m x=some (.pointer (some ⟨b,off,none⟩)))(ht:Zd P T=some (true,n))(hr:∀F,G F->F b=some (c,T'))(hn:vs.length=n)(hv:∀j v,vs[j]?=some v->c[off+j]?=some v):
  Qt P N m (St ⟨w0,F0,bs,G⟩) (.load T x) ty (.agg vs.toArray):=λa w _ _ _ _ ha hw=>by
 have:=K5 ht hn (λj v h=>cell_of_row hw hr (hv j v h));simp[execOp,ha.ev h,Instr.loadAt,Instr.sureAddr,this]
end
def Enters(P:Program)(f:FuncId):Prop:=∀(args:Array Value) (w:World),(callFunc f args).run P w = .ok (.enter f args) w
theorem enters_of{f:FuncId}(h:P.funcs[f]?=some fn)(hn:(fn.name == "runtime.NumGoroutine")=false)(hb:fn.body.isNone=false):Enters P f:=λargs w=>by
 have hb':fn.body≠none:=by grind
 simp_all[callFunc]
def Mb(w:World)(F:Gs){γ:Type}(val:γ->Value)(fact:γ->Gs->Prop)(e:Ending)(w':World):Prop :=
 ∃c F',e = .returned (val c)/\RF w w'/\Gs.le F F'/\(∀b,b<w.heap.size->F' b=F b)/\Fits F' w'/\∀F'',Gs.le F' F''->fact c F''
def QQ(P:Program)(f:FuncId)(args:List Value)(w:World)(F:Gs){γ:Type}(val:γ->Value)(fact:γ->Gs->Prop):Prop :=
 Enters P f/\Calls P f args.toArray w (Mb w F val fact)
theorem QQ.imp{f:FuncId}{γ':Type}{val:γ->Value}{fact:γ->Gs->Prop}{val':γ'->Value}{fact':γ'->Gs->Prop}(h:QQ P f args w F val fact)
  (k:∀c F',fact c F'->∃c',val c=val' c'/\∀F'',Gs.le F' F''->fact' c' F''):QQ P f args w F val' fact':=by
 refine⟨h.1,h.2.mono ?_⟩;rintro e w' ⟨c,F',rfl,h1,h2,h3,h4,h5⟩;obtain⟨c',e,k'⟩:=k c F' (h5 F' (Gs.le_refl _));exact⟨c',F',by rw[e],h1,h2,h3,h4,k'⟩
theorem OX.call{F':Gs}(h:OX ⟨w0,F0,bs,G⟩ w F){f:Gs->Prop}(h1:RF w w')(h2:Gs.le F F')(h3:∀b,b<w.heap.size->F' b=F b)(h4:Fits F' w')(h5:∀F'',Gs.le F' F''->f F''):OX ⟨w0,F0,bs,λF=>G F/\f F⟩ w' F':=by
 refine⟨Gs.le_trans h.le h2,λb hb=>?_,h4,h.ext.trans h1,λk hk=>?_,h.nd,λF'' hF=>⟨h.g F'' (Gs.le_trans h2 hF),h5 F'' hF⟩⟩
 ·rw[h3 b (Nat.lt_of_lt_of_le hb h.ext.size)];exact h.old b hb
 obtain⟨g1,g2,g3⟩:=h.bx k hk;have hlt:k.1<w.heap.size:=by
  grind
 exact⟨by rw[h1.block _ hlt];exact g1,g2,by simp_all⟩
theorem WM{d:Option Tmp}{args:Array _}{tys:Array _}{pos:String}{gd:Option _}{f:FuncId}{c1 c2:Array Value}(he:Enters P f)(hx:a.eval x = .func (.func f) c1 c2):
  (execOp a.eval ⟨d,.call ⟨.value x,args,tys⟩,ty,pos,aft,gd⟩).run P w = .ok (.enter f (c1++args.map a.eval++c2)) w:=by
 simp[execOp,resolve,hx,Deferred.ofValue,Sem.run_bind,Sem.run_pure,Result.andThen_ok,invoke];exact he _ w
section
variable{d:Nat}{ty:TypeId}{pos:String}{aft:Array Edge}{f:FuncId}{args:Array Operand}{tys:Array TypeId}{vs:List Value}{γ:Type}{val:γ->Value}{fact:γ->Gs->Prop}
theorem GU{c1 c2:List Value}(hx:ev m x=some (.func (.func f) c1.toArray c2.toArray))(hv:D2 m args.toList=some vs)(hc:∀w F,Fits F w->G F->QQ P f (c1++vs++c2) w F val fact)
  (k:∀c,JS P ops Q l N ((d,val c)::m) ⟨w0,F0,bs,λF=>G F/\fact c F⟩) (hd:Jq N (some d)=true:=by rfl):JS P ops Q (⟨some d,.call ⟨.value x,args,tys⟩,ty,pos,aft,none⟩::l) N m ⟨w0,F0,bs,G⟩:=by
 intro a w ha hw;obtain⟨F,hF⟩:=hw;have hcg:=hc w F hF.fits hF.hG;refine wpList_plain rfl λK hK=>?_;unfold Oper.wp;rw[WM hcg.1 (ha.ev hx)];have e:c1.toArray++args.map a.eval++c2.toArray=(c1++vs++c2).toArray:=by
  have:=ha.D2 hv;simp_all
 rw[e];refine hcg.2.mono ?_;rintro e w' ⟨c,F',rfl,h1,h2,h3,h4,h5⟩;exact hK _ _ (k c _ w' (ha.put hd _) ⟨F',hF.call h1 h2 h3 h4 h5⟩)
theorem QJ(hv:D2 m args.toList=some vs)(hc:∀w F,Fits F w->G F->QQ P f vs w F val fact)
  (k:∀c,JS P ops Q l N ((d,val c)::m) ⟨w0,F0,bs,λF=>G F/\fact c F⟩) (hd:Jq N (some d)=true:=by rfl):JS P ops Q (⟨some d,.call ⟨.value (.func f),args,tys⟩,ty,pos,aft,none⟩::l) N m ⟨w0,F0,bs,G⟩ :=
 GU I hv (by simpa using hc) k hd
theorem Oa{c1 c2:List Value}(hx:ev m x=some (.func (.func f) c1.toArray c2.toArray))(hv:D2 m args.toList=some vs)(hc:∀w F,Fits F w->G F->QQ P f (c1++vs++c2) w F val fact)
  (k:∀c,JD P ops Q E0 l N ((d,val c)::m) ⟨w0,F0,bs,λF=>G F/\fact c F⟩) (hd:Jq N (some d)=true:=by rfl):JD P ops Q E0 (⟨some d,.call ⟨.value x,args,tys⟩,ty,pos,aft,none⟩::l) N m ⟨w0,F0,bs,G⟩:=by
 intro hE a w ha hw;obtain⟨F,hF⟩:=hw;have hcg:=hc w F hF.fits hF.hG;refine .inr ⟨rfl,?_⟩;unfold Oper.wp;rw[WM hcg.1 (ha.ev hx)];have e:c1.toArray++args.map a.eval++c2.toArray=(c1++vs++c2).toArray:=by
  have:=ha.D2 hv;simp_all
 rw[e];refine hcg.2.mono ?_;rintro e w' ⟨c,F',rfl,h1,h2,h3,h4,h5⟩;have hS:St ⟨w0,F0,bs,λF=>G F/\fact c F⟩ w':=⟨F',hF.call h1 h2 h3 h4 h5⟩;exact⟨hE w' (hS.Bs λ_ h=>h.1),k c (λw h=>hE w (h.Bs λ_ h=>h.1)) _ w' (ha.put hd _) hS⟩
theorem QV(hv:D2 m args.toList=some vs)(hc:∀w F,Fits F w->G F->QQ P f vs w F val fact)
  (k:∀c,JD P ops Q E0 l N ((d,val c)::m) ⟨w0,F0,bs,λF=>G F/\fact c F⟩) (hd:Jq N (some d)=true:=by rfl):JD P ops Q E0 (⟨some d,.call ⟨.value (.func f),args,tys⟩,ty,pos,aft,none⟩::l) N m ⟨w0,F0,bs,G⟩ :=
 Oa I hv (by simpa using hc) k hd
end
end
end
section
variable[Dr][df:Df]{P:Program}{Q:Exit->Act->World->Prop}{ops:Array Oper}{l:List Oper}{N:Nat}{m:Sl}{E:Env}{d:Nat}{v:Value}{ty:TypeId}{pos:String}{aft:Array Edge}
theorem QJj(h:ev m x=some v)(k:JS P ops Q l N ((d,v)::m) E)(hd:Jq N (some d)=true:=by rfl):JS P ops Q (⟨some d,.move x,ty,pos,aft,none⟩::l) N m E:=QA (QD h) k hd
theorem QJk(h:ev m x=some v)(k:JS P ops Q l N ((d,v)::m) E)(hd:Jq N (some d)=true:=by rfl):JS P ops Q (⟨some d,.assign x,ty,pos,aft,none⟩::l) N m E:=QA (QE h) k hd
theorem QJi{y:Code}(h:J P y Q N m E):JS P ops (Exit.then (y.wp P Q) Q) [] N m E:=QF (QC h)
theorem QKt{y:Code}{id:Nat}(h:JS P l.toArray (Exit.then (y.wp P Q) Q) l N m E):J P (.seq (.region id l.toArray false) y) Q N m E:=QG (QB h)
end
def QJ3{l:List α}:List.Sublist l l:=List.Sublist.refl l
def QK8{p:Prop}[Decidable p](h:decide p=true):p:=of_decide_eq_true h
def QK9{p:Prop}[Decidable p](h:decide p=false):¬p:=of_decide_eq_false h
def wR[Dr][df:Df]{P:Program}{Q:Exit->Act->World->Prop}{ops:Array Oper}{N:Nat}{m:Sl}{E:Env}{d:Nat}{v:Value}{ty:TypeId}{pos:String}{aft:Array Edge}{x:Operand}{y:Code}(h:ev m x=some v)(k:J P y Q N ((d,v)::m) E)(hd:Jq N (some d)=true:=by rfl):JS P ops (Exit.then (y.wp P Q) Q) [⟨some d,.assign x,ty,pos,aft,none⟩] N m E:=QJk h (QJi k) hd
def wS[Dr][df:Df]{P:Program}{Q:Exit->Act->World->Prop}{l:List Oper}{N:Nat}{m:Sl}{E:Env}{d:Nat}{v:Value}{ty:TypeId}{pos:String}{aft:Array Edge}{x:Operand}{y:Code}{id:Nat}(h:ev m x=some v)(k:JS P (⟨some d,.move x,ty,pos,aft,none⟩::l).toArray (Exit.then (y.wp P Q) Q) l N ((d,v)::m) E)(hd:Jq N (some d)=true:=by rfl):J P (.seq (.region id (⟨some d,.move x,ty,pos,aft,none⟩::l).toArray false) y) Q N m E:=QKt (QJj h k hd)
def MG.h1{x0:Value}:MG (x0::l) 0 [x0]:=.here (.nil)
def KC.h1{x0 v0:Value}:KC (x0::l) 0 [v0] (v0::l):=.here (.nil)
def MG.h2{x0 x1:Value}:MG (x0::x1::l) 0 [x0,x1]:=.here (.here (.nil))
def KC.h2{x0 x1 v0:Value}:KC (x0::x1::l) 0 [v0,v1] (v0::v1::l):=.here (.here (.nil))
def MG.h3{x0 x1:Value}:MG (x0::x1::x2::l) 0 [x0,x1,x2]:=.here (.here (.here (.nil)))
def KC.h3{x0 x1 v0 v2:Value}:KC (x0::x1::x2::l) 0 [v0,v1,v2] (v0::v1::v2::l):=.here (.here (.here (.nil)))
def MG.h4{x0 x1:Value}:MG (x0::x1::x2::x3::l) 0 [x0,x1,x2,x3]:=.here (.here (.here (.here (.nil))))
def KC.h4{x0 x1 v0 v2:Value}:KC (x0::x1::x2::x3::l) 0 [v0,v1,v2,v3] (v0::v1::v2::v3::l):=.here (.here (.here (.here (.nil))))
def MG.h5{x0 x1:Value}:MG (x0::x1::x2::x3::x4::l) 0 [x0,x1,x2,x3,x4]:=.here (.here (.here (.here (.here (.nil)))))
def KC.h5{x0 x1 v0 v2:Value}:KC (x0::x1::x2::x3::x4::l) 0 [v0,v1,v2,v3,v4] (v0::v1::v2::v3::v4::l):=.here (.here (.here (.here (.here (.nil)))))
def MG.h6{x0 x1:Value}:MG (x0::x1::x2::x3::x4::x5::l) 0 [x0,x1,x2,x3,x4,x5]:=.here (.here (.here (.here (.here (.here (.nil))))))
def KC.h6{x0 x1 v0 v2:Value}:KC (x0::x1::x2::x3::x4::x5::l) 0 [v0,v1,v2,v3,v4,v5] (v0::v1::v2::v3::v4::v5::l):=.here (.here (.here (.here (.here (.here (.nil))))))
def MG.h7{x0 x1:Value}:MG (x0::x1::x2::x3::x4::x5::x6::l) 0 [x0,x1,x2,x3,x4,x5,x6]:=.here (.here (.here (.here (.here (.here (.here (.nil)))))))
def KC.h7{x0 x1 v0 v2 v6:Value}:KC (x0::x1::x2::x3::x4::x5::x6::l) 0 [v0,v1,v2,v3,v4,v5,v6] (v0::v1::v2::v3::v4::v5::v6::l):=.here (.here (.here (.here (.here (.here (.here (.nil)))))))
def MG.h8{x0 x1:Value}:MG (x0::x1::x2::x3::x4::x5::x6::x7::l) 0 [x0,x1,x2,x3,x4,x5,x6,x7]:=.here (.here (.here (.here (.here (.here (.here (.here (.nil))))))))
def KC.h8{x0 x1 v0 v2 v6 v7:Value}:KC (x0::x1::x2::x3::x4::x5::x6::x7::l) 0 [v0,v1,v2,v3,v4,v5,v6,v7] (v0::v1::v2::v3::v4::v5::v6::v7::l):=.here (.here (.here (.here (.here (.here (.here (.here (.nil))))))))
def MG.h9{x0 x1:Value}:MG (x0::x1::x2::x3::x4::x5::x6::x7::x8::l) 0 [x0,x1,x2,x3,x4,x5,x6,x7,x8]:=.here (.here (.here (.here (.here (.here (.here (.here (.here (.nil)))))))))
def KC.h9{x0 x1 v0 v2 v6 v7 v8:Value}:KC (x0::x1::x2::x3::x4::x5::x6::x7::x8::l) 0 [v0,v1,v2,v3,v4,v5,v6,v7,v8] (v0::v1::v2::v3::v4::v5::v6::v7::v8::l):=.here (.here (.here (.here (.here (.here (.here (.here (.here (.nil)))))))))
def MG.h10{x0 x1 x9:Value}:MG (x0::x1::x2::x3::x4::x5::x6::x7::x8::x9::l) 0 [x0,x1,x2,x3,x4,x5,x6,x7,x8,x9]:=.here (.here (.here (.here (.here (.here (.here (.here (.here (.here (.nil))))))))))
def KC.h10{x0 x1 x9 v0 v2 v6 v7 v8 v9:Value}:KC (x0::x1::x2::x3::x4::x5::x6::x7::x8::x9::l) 0 [v0,v1,v2,v3,v4,v5,v6,v7,v8,v9] (v0::v1::v2::v3::v4::v5::v6::v7::v8::v9::l):=.here (.here (.here (.here (.here (.here (.here (.here (.here (.here (.nil))))))))))
def MG.h11{x0 x1 x9 x10:Value}:MG (x0::x1::x2::x3::x4::x5::x6::x7::x8::x9::x10::l) 0 [x0,x1,x2,x3,x4,x5,x6,x7,x8,x9,x10]:=.here (.here (.here (.here (.here (.here (.here (.here (.here (.here (.here (.nil)))))))))))
def KC.h11{x0 x1 x9 x10 v0 v2 v6 v7 v8 v9 v10:Value}:KC (x0::x1::x2::x3::x4::x5::x6::x7::x8::x9::x10::l) 0 [v0,v1,v2,v3,v4,v5,v6,v7,v8,v9,v10] (v0::v1::v2::v3::v4::v5::v6::v7::v8::v9::v10::l):=.here (.here (.here (.here (.here (.here (.here (.here (.here (.here (.here (.nil)))))))))))
def MG.h12{x0 x1 x9 x10 x11:Value}:MG (x0::x1::x2::x3::x4::x5::x6::x7::x8::x9::x10::x11::l) 0 [x0,x1,x2,x3,x4,x5,x6,x7,x8,x9,x10,x11]:=.here (.here (.here (.here (.here (.here (.here (.here (.here (.here (.here (.here (.nil))))))))))))
def KC.h12{x0 x1 x9 x10 x11 v0 v2 v6 v7 v8 v9 v10 v11:Value}:KC (x0::x1::x2::x3::x4::x5::x6::x7::x8::x9::x10::x11::l) 0 [v0,v1,v2,v3,v4,v5,v6,v7,v8,v9,v10,v11] (v0::v1::v2::v3::v4::v5::v6::v7::v8::v9::v10::v11::l):=.here (.here (.here (.here (.here (.here (.here (.here (.here (.here (.here (.here (.nil))))))))))))
def Own.u1{x0:Nat×Obj}{r:List (Nat×Obj)}:Own (x0::(b,o)::r) b o (λo'=>x0::(b,o')::r):=.there (.here)
def C2.u1{x0:Nat×Obj}{r:List (Nat×Obj)}:C2 (x0::(b,o)::r) b o (x0::r):=.there (.here)
def Own.u2{x0:Nat×Obj}{r:List (Nat×Obj)}:Own (x0::x1::(b,o)::r) b o (λo'=>x0::x1::(b,o')::r):=.there (.there (.here))
def C2.u2{x0:Nat×Obj}{r:List (Nat×Obj)}:C2 (x0::x1::(b,o)::r) b o (x0::x1::r):=.there (.there (.here))
def Own.u3{x0 x2:Nat×Obj}{r:List (Nat×Obj)}:Own (x0::x1::x2::(b,o)::r) b o (λo'=>x0::x1::x2::(b,o')::r):=.there (.there (.there (.here)))
def C2.u3{x0 x2:Nat×Obj}{r:List (Nat×Obj)}:C2 (x0::x1::x2::(b,o)::r) b o (x0::x1::x2::r):=.there (.there (.there (.here)))
def Own.u4{x0 x2 x3:Nat×Obj}{r:List (Nat×Obj)}:Own (x0::x1::x2::x3::(b,o)::r) b o (λo'=>x0::x1::x2::x3::(b,o')::r):=.there (.there (.there (.there (.here))))
def C2.u4{x0 x2 x3:Nat×Obj}{r:List (Nat×Obj)}:C2 (x0::x1::x2::x3::(b,o)::r) b o (x0::x1::x2::x3::r):=.there (.there (.there (.there (.here))))
def Own.u5{x0 x2 x3 x4:Nat×Obj}{r:List (Nat×Obj)}:Own (x0::x1::x2::x3::x4::(b,o)::r) b o (λo'=>x0::x1::x2::x3::x4::(b,o')::r):=.there (.there (.there (.there (.there (.here)))))
def C2.u5{x0 x2 x3 x4:Nat×Obj}{r:List (Nat×Obj)}:C2 (x0::x1::x2::x3::x4::(b,o)::r) b o (x0::x1::x2::x3::x4::r):=.there (.there (.there (.there (.there (.here)))))
def Own.u6{x0 x2 x3 x4 x5:Nat×Obj}{r:List (Nat×Obj)}:Own (x0::x1::x2::x3::x4::x5::(b,o)::r) b o (λo'=>x0::x1::x2::x3::x4::x5::(b,o')::r):=.there (.there (.there (.there (.there (.there (.here))))))
def C2.u6{x0 x2 x3 x4 x5:Nat×Obj}{r:List (Nat×Obj)}:C2 (x0::x1::x2::x3::x4::x5::(b,o)::r) b o (x0::x1::x2::x3::x4::x5::r):=.there (.there (.there (.there (.there (.there (.here))))))
def wT{a0:A0}:a0=a0/\True:=⟨rfl,trivial⟩
def wU{a0:A0}{a1:A1}:a0=a0/\a1=a1/\True:=⟨rfl,rfl,trivial⟩
def wV{a0:A0}{a1:A1}{a2:A2}:a0=a0/\a1=a1/\a2=a2/\True:=⟨rfl,rfl,rfl,trivial⟩
def wW{a0:A0}{a1:A1}{a2:A2}{a3:A3}:a0=a0/\a1=a1/\a2=a2/\a3=a3/\True:=⟨rfl,rfl,rfl,rfl,trivial⟩
def wX{a0:A0}{a1:A1}{a2:A2}{a3:A3}{a4:A4}:a0=a0/\a1=a1/\a2=a2/\a3=a3/\a4=a4/\True:=⟨rfl,rfl,rfl,rfl,rfl,trivial⟩
def wY{a0:A0}{a1:A1}{a2:A2}{a3:A3}{a4:A4}{a5:A5}:a0=a0/\a1=a1/\a2=a2/\a3=a3/\a4=a4/\a5=a5/\True:=⟨rfl,rfl,rfl,rfl,rfl,rfl,trivial⟩
def wZ{a0:A0}{a1:A1}{a2:A2}{a3:A3}{a4:A4}{a5:A5}{a6:A6}:a0=a0/\a1=a1/\a2=a2/\a3=a3/\a4=a4/\a5=a5/\a6=a6/\True:=⟨rfl,rfl,rfl,rfl,rfl,rfl,rfl,trivial⟩
def we{a0:A0}{a1:A1}{a2:A2}{a3:A3}{a4:A4}{a5:A5}{a6:A6}{a7:A7}:a0=a0/\a1=a1/\a2=a2/\a3=a3/\a4=a4/\a5=a5/\a6=a6/\a7=a7/\True:=⟨rfl,rfl,rfl,rfl,rfl,rfl,rfl,rfl,trivial⟩
def wg{a0:A0}{a1:A1}{a2:A2}{a3:A3}{a4:A4}{a5:A5}{a6:A6}{a7:A7}{a8:A8}:a0=a0/\a1=a1/\a2=a2/\a3=a3/\a4=a4/\a5=a5/\a6=a6/\a7=a7/\a8=a8/\True:=⟨rfl,rfl,rfl,rfl,rfl,rfl,rfl,rfl,rfl,trivial⟩
def wi{a0:A0}{a1:A1}{a2:A2}{a3:A3}{a4:A4}{a5:A5}{a6:A6}{a7:A7}{a8:A8}{a9:A9}:a0=a0/\a1=a1/\a2=a2/\a3=a3/\a4=a4/\a5=a5/\a6=a6/\a7=a7/\a8=a8/\a9=a9/\True:=⟨rfl,rfl,rfl,rfl,rfl,rfl,rfl,rfl,rfl,rfl,trivial⟩
def wj{a0:A0}{a1:A1}{a2:A2}{a3:A3}{a4:A4}{a5:A5}{a6:A6}{a7:A7}{a8:A8}{a9:A9}{A10:Type}{a10:A10}:a0=a0/\a1=a1/\a2=a2/\a3=a3/\a4=a4/\a5=a5/\a6=a6/\a7=a7/\a8=a8/\a9=a9/\a10=a10/\True:=⟨rfl,rfl,rfl,rfl,rfl,rfl,rfl,rfl,rfl,rfl,rfl,trivial⟩
def wk{a0:A0}{a1:A1}{a2:A2}{a3:A3}{a4:A4}{a5:A5}{a6:A6}{a7:A7}{a8:A8}{a9:A9}{A10:Type}{a10:A10}{A11:Type}{a11:A11}:a0=a0/\a1=a1/\a2=a2/\a3=a3/\a4=a4/\a5=a5/\a6=a6/\a7=a7/\a8=a8/\a9=a9/\a10=a10/\a11=a11/\True:=⟨rfl,rfl,rfl,rfl,rfl,rfl,rfl,rfl,rfl,rfl,rfl,rfl,trivial⟩
section
variable[Dr][df:Df]
section
variable{P:Program}{Q:Exit->Act->World->Prop}{N:Nat}{m:Sl}{E E0:Env}{ops:Array Oper}{l:List Oper}{w0:World}{F0:Gs}{bs:List (Nat×Obj)}{G:Gs->Prop}
theorem St.pure{p:Prop}(h:St ⟨w0,F0,bs,G⟩ w)(hp:∀w F,Fits F w->G F->p):p:=by
 obtain⟨F,h⟩:=h;exact hp w F h.fits h.hG
theorem Xy(p:Prop)(hp:∀w F,Fits F w->G F->p)(k:p->J P c Q N m ⟨w0,F0,bs,G⟩):J P c Q N m ⟨w0,F0,bs,G⟩:=λa w ha hw=>k (hw.pure hp) a w ha hw
theorem JM(p:Prop)(hp:∀w F,Fits F w->G F->p)(k:p->JS P ops Q l N m ⟨w0,F0,bs,G⟩):JS P ops Q l N m ⟨w0,F0,bs,G⟩:=λa w ha hw=>k (hw.pure hp) a w ha hw
theorem WI(p:Prop)(hp:∀w F,Fits F w->G F->p)(k:p->JD P ops Q E0 l N m ⟨w0,F0,bs,G⟩):JD P ops Q E0 l N m ⟨w0,F0,bs,G⟩:=λhE a w ha hw=>k (hw.pure hp) hE a w ha hw
theorem J_G(hg:∀F,G F->G' F)(k:J P c Q N m ⟨w0,F0,bs,G'⟩):J P c Q N m ⟨w0,F0,bs,G⟩:=λa w ha hw=>k a w ha (hw.Bs hg)
def J1(P:Program)(T:TypeId):Option (List Value):=match P.info? T with
 |some i=>i.zero.map λv=>v.cells.toList
 |none=>none
theorem Uo(h:J1 P T=some z)(w:World):∃v,(zeroValue T).run P w = .ok v w/\v.cells=z.toArray:=by
 unfold J1 at h;split at h
 ·rename_i i hi;cases hz:i.zero with
  |none=>rw[hz]at h;cases h
  |some v =>
   rw[hz]at h;simp only[Option.map_some,Option.some.injEq]at h;exact⟨v,by simp[zeroValue,typeInfo,hi,hz],by rw[<-h]⟩
 cases h
def Vy(T:TypeId):Bool:=!(Nat.beq T 201)
theorem XR(h:Vy T=true){c:Array Value}{fr:Nat×Nat}:∀c' fr',Obj.cells c T fr≠.cells c' 201 fr':=by
 intro c' fr' e;injection e with _ h2 _;subst h2;simp[Vy]at h
section
variable{d:Nat}{ty:TypeId}{pos:String}{aft:Array Edge}
theorem upon_value{o:Oper}{v:Value}(h:(execOp a.eval o).run P w = .ok (.value v) w')(k:K (a.put o.dst v) w'):o.wp P a w K Q:=by
 unfold Oper.wp;rw[h];exact k
theorem upon_skip{o:Oper}(h:(execOp a.eval o).run P w = .ok .skip w')(k:K (a.put o.dst undef) w'):o.wp P a w K Q:=by
 unfold Oper.wp;rw[h];exact k
theorem G2{g:Option (Nat×Bool)}(hz:J1 P T=some z):
  (execOp a.eval ⟨some d,.alloc T,ty,pos,aft,g⟩).run P w = .ok (.value (.pointer (some ⟨w.heap.size,0,none⟩))) (w.alloc (.cells z.toArray T)):=by
 obtain⟨v,h1,h2⟩:=Uo hz w;simp only[execOp,Instr.alloc,Sem.run_bind,h1,Result.andThen_ok,Sem.run_pure,newVar,newRow,run_newObj,h2];rfl
theorem Qe(hz:J1 P T=some z)(k:∀b,JS P ops Q l N ((d,.pointer (some ⟨b,0,none⟩))::m) ⟨w0,F0,(b,.cells z.toArray T (0,0))::bs,G⟩)(hu:Vy T=true:=by rfl)(hd:Jq N (some d)=true:=by rfl):
  JS P ops Q (⟨some d,.alloc T,ty,pos,aft,none⟩::l) N m ⟨w0,F0,bs,G⟩:=λa w ha hw =>
 wpList_plain rfl λ_ hK=>upon_value (G2 hz) (hK _ _ (k _ _ _ (ha.put hd _) (hw.alloc _ (XR hu))))
theorem BU(hz:J1 P T=some z)(k:∀b,JD P ops Q E0 l N ((d,.pointer (some ⟨b,0,none⟩))::m) ⟨w0,F0,(b,.cells z.toArray T (0,0))::bs,G⟩)(hu:Vy T=true:=by rfl)(hd:Jq N (some d)=true:=by rfl):
  JD P ops Q E0 (⟨some d,.alloc T,ty,pos,aft,none⟩::l) N m ⟨w0,F0,bs,G⟩:=λhE a w ha hw=>by
 have hS:=hw.alloc (.cells z.toArray T (0,0)) (XR hu);have sub:∀w' b,St ⟨w0,F0,(b,.cells z.toArray T (0,0))::bs,G⟩ w'->St E0 w':=λw' b h=>hE w' (h.imp (List.sublist_cons_self _ _) λ_ h=>h);refine .inr ⟨rfl,?_⟩;rw[if_pos (by simp[Region.wanted])];exact upon_value (G2 hz) ⟨sub _ _ hS,k _ (λw' h=>sub w' _ h) _ _ (ha.put hd _) hS⟩
theorem R8{v:Value}{g:Option (Nat×Bool)}(hx:a.eval x=v):
  (execOp a.eval ⟨some d,.box T x,ty,pos,aft,g⟩).run P w = .ok (.value (.pointer (some ⟨w.heap.size,0,none⟩))) (w.alloc (.cells v.cells T)):=by
 subst hx;simp only[execOp,Instr.box,Sem.run_bind,Result.andThen_ok,Sem.run_pure,newVar,newRow,run_newObj];rfl
theorem Q8{v:Value}(hx:ev m x=some v)(hv:v.cells=vs.toArray)(k:∀b,JS P ops Q l N ((d,.pointer (some ⟨b,0,none⟩))::m) ⟨w0,F0,(b,.cells vs.toArray T (0,0))::bs,G⟩)(hu:Vy T=true:=by rfl)(hd:Jq N (some d)=true:=by rfl):
  JS P ops Q (⟨some d,.box T x,ty,pos,aft,none⟩::l) N m ⟨w0,F0,bs,G⟩:=λa w ha hw =>
 wpList_plain rfl λ_ hK=>upon_value (R8 (ha.ev hx)) (hK _ _ (k _ _ _ (ha.put hd _) (hv ▸ hw.alloc _ (XR hu))))
theorem Ea{v:Value}(hx:ev m x=some v)(hv:v.cells=vs.toArray)(k:∀b,JD P ops Q E0 l N ((d,.pointer (some ⟨b,0,none⟩))::m) ⟨w0,F0,(b,.cells vs.toArray T (0,0))::bs,G⟩)(hu:Vy T=true:=by rfl)(hd:Jq N (some d)=true:=by rfl):
  JD P ops Q E0 (⟨some d,.box T x,ty,pos,aft,none⟩::l) N m ⟨w0,F0,bs,G⟩:=λhE a w ha hw=>by
 have hS:=hw.alloc (.cells vs.toArray T (0,0)) (XR hu);have sub:∀w' b,St ⟨w0,F0,(b,.cells vs.toArray T (0,0))::bs,G⟩ w'->St E0 w':=λw' b h=>hE w' (h.imp (List.sublist_cons_self _ _) λ_ h=>h);refine .inr ⟨rfl,?_⟩;rw[if_pos (by simp[Region.wanted])];exact upon_value (R8 (ha.ev hx)) (by rw[hv];exact⟨sub _ _ hS,k _ (λw' h=>sub w' _ h) _ _ (ha.put hd _) hS⟩)
theorem N2{t:TypeId}{n sz:Nat}{parts:Array (Nat×Value)}{cs:Array Value}(ht:P.underlying t=some (.slice e))(hs:Zd P e=some (g,sz))(hz:J1 P e=some z)(h24:n*sz<=2^24)(hn:n*sz≠0)
  (hf:Instr.fill (λi=>some (i*sz,sz)) ((Array.range (n*sz)).map λi=>z.toArray[i%z.toArray.size]!) parts.toList=some cs) :
  (Instr.buildSlice t n parts).run P w = .ok (.slice (some ⟨w.heap.size,0,none⟩) n n) (w.alloc (.cells cs e)):=by
 obtain⟨v,h1,h2⟩:=Uo hz w;have h3:¬n*sz>2^24:=O;simp only[Instr.buildSlice,Sem.run_bind,run_underlying ht,Result.andThen_ok,Ys hs,if_neg h3,Sem.run_pure,if_neg hn,h1,h2,hf,newRow,run_newObj];rfl
def WQ(m:Sl):List (Nat×Operand)->Option (List (Nat×Value))
 |[]=>some []
 |(i,x)::r=>match ev m x,WQ m r with
  |some v,some l=>some ((i,v)::l)
  |_,_=>none
theorem JO.parts(h:JO N m a):∀ {l:List (Nat×Operand)} {vs:List (Nat×Value)},WQ m l=some vs->l.map (λ(i,x)=>(i,a.eval x))=vs
 |[],vs,e=>by simpa[WQ]using e
 |(i,x)::l,vs,e=>by
  unfold WQ at e;cases hx:YteldggljlnakmaaGreatDoor.ev m x with
  |none=>rw[hx]at e;simp at e
  |some v =>
   cases hl:WQ m l with
   |none=>rw[hx,hl]at e;simp at e
   |some r =>
    rw[hx,hl]at e;simp only[Option.some.injEq]at e;subst e;rw[List.map_cons,h.parts hl];show(i,a.eval x)::r=_;rw[h.ev hx]
def Yu(sz:Nat):Nat->List (Nat×Value)->Option (List Value)
 |_,[]=>some []
 |k,(i,v)::r=>if i=k/\v.cells.size=sz then(Yu sz (k+1) r).map (v.cells.toList++·)else none
theorem BK{sz:Nat}:∀(parts:List (Nat×Value)) (k:Nat) (cs:List Value) (cur:Array Value),Yu sz k parts=some cs->k*sz+cs.length=cur.size ->
  Instr.fill (λi=>some (i*sz,sz)) cur parts=some (cur.toList.take (k*sz)++cs).toArray
 |[],k,cs,cur,h,hl=>by
  simp only[Yu,Option.some.injEq]at h;subst h;simp only[List.length_nil,Nat.add_zero]at hl;simp[Instr.fill,List.take_of_length_le,hl]
 |(i,v)::r,k,cs,cur,h,hl=>by
  simp only[Yu]at h;split at h
  ·rename_i hk;obtain⟨rfl,hv⟩:=hk;cases hr:Yu sz (i+1) r with
   |none=>rw[hr]at h;cases h
   |some cs' =>
    rw[hr]at h;simp only[Option.map_some,Option.some.injEq]at h;subst h;have hlen:v.cells.toList.length=sz:=by simpa using hv
    rw[List.length_append,hlen]at hl;have hmul:(i+1)*sz=i*sz+sz:=by rw[Nat.add_mul,Nat.one_mul]
    unfold Instr.fill;simp only[hv,ne_eq,not_true_eq_false,Bool.false_or,decide_false,decide_eq_true_eq];rw[if_neg O];have hfold:∀(l:List Value) (j:Nat) (c:Array Value),i*sz+j+l.length<=c.size ->
      ((l.zipIdx j).foldl (λcs (x:Value×Nat)=>cs.setIfInBounds (i*sz+x.2) x.1) c)=(c.toList.take (i*sz+j)++l++c.toList.drop (i*sz+j+l.length)).toArray:=by
     intro l
     induction l with
     |nil=>intro j c hc;simp
     |cons x l ih =>
      intro j c hc;simp only[List.zipIdx_cons,List.foldl_cons,List.length_cons]at hc ⊢;rw[ih (j+1) _ tA];congr 1;apply List.ext_getElem?;intro q;simp only[Array.toList_setIfInBounds,List.getElem?_append,List.length_append,List.length_take,List.length_set,Array.length_toList,List.length_cons];by_cases h1:q<i*sz+j
      ·have e1:min (i*sz+(j+1)) c.size=i*sz+j+1:=O;have e2:min (i*sz+j) c.size=i*sz+j:=O;have e3:q<i*sz+j+1+l.length:=O;have e4:q<i*sz+j+(l.length+1):=O;have e5:q<i*sz+j+1:=O;simp only[e1,e2,h1,e3,e4,e5,if_true];simp[show q<i*sz+(j+1) by omega,h1,show i*sz+j≠q by omega]
      by_cases h2:q=i*sz+j
      ·subst h2;have e1:min (i*sz+(j+1)) c.size=i*sz+j+1:=O;have e2:min (i*sz+j) c.size=i*sz+j:=O;have hlt:i*sz+j<c.toList.length:=tA;simp only[e1,e2,Nat.lt_irrefl,if_false,Nat.sub_self];simp[show i*sz+j<i*sz+j+1+l.length by omega,show i*sz+j<i*sz+j+1 by omega,show i*sz+j<c.size by omega]
      have e1:min (i*sz+(j+1)) c.size=i*sz+j+1:=O;have e2:min (i*sz+j) c.size=i*sz+j:=O;have g1:¬q<i*sz+j+1:=O;simp only[e1,e2,h1,g1,if_false];by_cases h3:q<i*sz+j+1+l.length
      ·simp only[h3,if_true,show q<i*sz+j+(l.length+1) by omega];rw[show q-(i*sz+j)=(q-(i*sz+j+1))+1 by omega,List.getElem?_cons_succ]
      simp only[h3,if_false,show ¬q<i*sz+j+(l.length+1) by omega];rw[List.getElem?_drop,List.getElem?_drop,List.getElem?_set_ne O];congr 1;omega
    have e:=hfold v.cells.toList 0 cur (by rw[hlen];omega);have e0:v.cells.zipIdx.foldl (λcs (x:Value×Nat)=>cs.setIfInBounds (i*sz+x.2) x.1) cur=(v.cells.toList.zipIdx 0).foldl (λcs (x:Value×Nat)=>cs.setIfInBounds (i*sz+x.2) x.1) cur:=by
     rw[<-Array.foldl_toList];simp
    rw[e0,e];have:=BK r (i+1) cs' (cur.toList.take (i*sz+0)++v.cells.toList++cur.toList.drop (i*sz+0+v.cells.toList.length)).toArray hr (by simp[hv];omega);rw[this];congr 2;rw[<-List.append_assoc];congr 1;have hl2:(cur.toList.take (i*sz)++v.cells.toList).length=(i+1)*sz:=by simp[hv];omega
    simp only[Nat.add_zero];rw[List.take_append_of_le_length (by rw[hl2];exact Nat.le_refl _),<-hl2,List.take_length]
  cases h
theorem KF{t:TypeId}{n sz:Nat}{parts:Array (Nat×Operand)}{gd:Option (Nat×Bool)}(ha:JO N m a)(hp:WQ m parts.toList=some ps)(ht:P.underlying t=some (.slice e))(hs:Zd P e=some (g,sz))(hz:J1 P e=some z)
  (hc:Yu sz 0 ps=some cs) (hl:cs.length=n*sz) (h24:Nat.ble (n*sz) 16777216=true) (hn:Nat.beq (n*sz) 0=false) :
  (execOp a.eval ⟨some d,.buildSlice t n parts,ty,pos,aft,gd⟩).run P w = .ok (.value (.slice (some ⟨w.heap.size,0,none⟩) n n)) (w.alloc (.cells cs.toArray e)):=by
 have e1:(parts.map λ(i,x)=>(i,a.eval x)).toList=ps:=by simpa using ha.parts hp
 have hf:=BK ps 0 cs ((Array.range (n*sz)).map λi=>z.toArray[i%z.toArray.size]!) hc (by simp[hl]);have:=N2 (P:=P) (w:=w) (n:=n) (parts:=parts.map λ(i,x)=>(i,a.eval x)) ht hs hz (wm<|Nat.le_of_ble_eq_true h24) (λe=>by rw[e]at hn;cases hn) (by rw[e1];exact hf);simp only[Nat.zero_mul,List.take_zero,List.nil_append]at this;simp only[execOp,Sem.run_bind,this,Result.andThen_ok,Sem.run_pure]
theorem BS{t:TypeId}{n sz:Nat}{parts:Array (Nat×Operand)}(hp:WQ m parts.toList=some ps)(ht:P.underlying t=some (.slice e))(hs:Zd P e=some (g,sz))(hz:J1 P e=some z)
  (hc:Yu sz 0 ps=some cs) (hl:cs.length=n*sz) (k:∀b,JS P ops Q l N ((d,.slice (some ⟨b,0,none⟩) n n)::m) ⟨w0,F0,(b,.cells cs.toArray e (0,0))::bs,G⟩) (h24:Nat.ble (n*sz) 16777216=true:=by rfl) (hn:Nat.beq (n*sz) 0=false:=by rfl)
  (hu:Vy e=true:=by rfl) (hd:Jq N (some d)=true:=by rfl):JS P ops Q (⟨some d,.buildSlice t n parts,ty,pos,aft,none⟩::l) N m ⟨w0,F0,bs,G⟩:=λa w ha hw =>
 wpList_plain rfl λ_ hK=>upon_value (KF ha hp ht hs hz hc hl h24 hn) (hK _ _ (k _ _ _ (ha.put hd _) (hw.alloc _ (XR hu))))
end
section
variable{d:Option Tmp}{ty:TypeId}{pos:String}{aft:Array Edge}
theorem run_storeCells_at(g:Nat)(t:TypeId):∀(vs:List Value) (i:Nat) (off:Nat) (cur l':List Value) (w:World),w.heap[g]?=some (.cells cur.toArray t (0,0))->(∀v∈vs,v.oneCell'=true)->KC cur (off+i) vs l' ->
  ∃w',(storeCells ⟨g,off,none⟩ vs i).run P w = .ok () w'/\w'.heap=w.heap.setIfInBounds g (.cells l'.toArray t (0,0))/\w'.os=w.os/\w'.tape=w.tape/\w'.output=w.output/\w'.drawn=w.drawn
 |[],i,off,cur,l',w,hg,_,hp=>by
  have hlt:g<w.heap.size:=by rcases Nat.lt_or_ge g w.heap.size with h | h;exact h;rw[Array.getElem?_eq_none h]at hg;cases hg
  have e:l'=cur:=by have:=hp.eq;simpa using this
  subst e;refine⟨w,rfl,?_,rfl,rfl,rfl,rfl⟩;apply Array.ext_getElem?;intro k;by_cases e:k=g
  ·subst e;rw[hg];simp[hlt]
  rw[Array.getElem?_setIfInBounds_ne (Ne.symm e)]
 |v::vs,i,off,cur,l',w,hg,h1,hp=>by
  have hle:=hp.le;simp only[List.length_cons]at hle;have hadd:(⟨g,off,none⟩:Addr).add i=⟨g,off+i,none⟩:=by unfold Addr.add;split<;>simp_all
  have hlt:g<w.heap.size:=by rcases Nat.lt_or_ge g w.heap.size with h | h;exact h;rw[Array.getElem?_eq_none h]at hg;cases hg
  have hcell:w.cell? ⟨g,off+i,none⟩=some (cur[off+i]' O):=by simp[World.cell?,hg,show off+i<cur.length by omega]
  have hfro:w.frozen? ⟨g,off+i,none⟩=false:=by simp[World.frozen?,hg]
  have hst:(store ((⟨g,off,none⟩:Addr).add i) v).run P w = .ok () (w.setCell ⟨g,off+i,none⟩ v):=by
   rw[hadd,run_store P w _ v _ (h1 v w9),hcell];simp[hfro]
  have hheap:(w.setCell ⟨g,off+i,none⟩ v).heap=w.heap.setIfInBounds g (.cells (cur.set (off+i) v).toArray t (0,0)):=by
   apply Array.ext_getElem?;intro k;by_cases e:k=g
   ·subst e;show(w.heap.modify k _)[k]?=_;rw[Array.getElem?_modify,if_pos rfl,hg];simp[hlt]
   rw[Array.getElem?_setIfInBounds_ne (Ne.symm e)];simp[World.setCell,Array.getElem?_modify,Ne.symm e]
  have hp2:KC (cur.set (off+i) v) (off+(i+1)) vs l':=by
   have key:∀(n:Nat) (cur l':List Value),KC cur n (v::vs) l'->KC (cur.set n v) (n+1) vs l':=by
    intro n
    induction n with
    |zero=>intro cur l' h;cases h with | here h=>exact .skip h
    |succ n ih=>intro cur l' h;cases h with | skip h=>exact .skip (ih _ _ h)
   exact key _ _ _ hp
  obtain⟨w',h2,h3,h4,h5,h6⟩:=run_storeCells_at g t vs (i+1) off (cur.set (off+i) v) l' (w.setCell ⟨g,off+i,none⟩ v) (by rw[hheap];simp[hlt]) (λx hx=>h1 x (by simp[hx])) hp2;refine⟨w',?_,?_,h4,h5,h6⟩
  ·simp only[storeCells,Sem.run_bind,hst,Result.andThen_ok,h2]
  rw[h3,hheap];simp
theorem El{v:Value}{n:Nat}{c:List Value}{gd:Option (Nat×Bool)}(hx:a.eval x = .pointer (some ⟨b,off,none⟩))(hy:a.eval y=v)(hv:v.cells=vs.toArray)(ht:Zd P T=some (g,n))(hn:vs.length=n)
  (hb:w.heap[b]?=some (.cells c.toArray T' (0,0))) (hp:KC c off vs l') (h1:∀v∈vs,v.oneCell'=true) :
  ∃w',(execOp a.eval ⟨d,.store T x y,ty,pos,aft,gd⟩).run P w = .ok .skip w'/\w'.heap=w.heap.setIfInBounds b (.cells l'.toArray T' (0,0))/\w'.os=w.os/\w'.tape=w.tape/\w'.output=w.output/\w'.drawn=w.drawn:=by
 obtain⟨w',h2,h3⟩:=run_storeCells_at (P:=P) b T' vs 0 off c l' w hb h1 hp;refine⟨w',?_,h3⟩;subst hn;simp[execOp,hx,hy,Instr.storeAt,Instr.sureAddr,storeVar,hv,Ys ht,h2]
def PF:List Value->Prop
 |[]=>True
 |v::r=>v.oneCell'=true/\PF r
theorem Zn:∀ {l:List Value},PF l->∀v∈l,v.oneCell'=true
 |v::l,⟨h1,h2⟩,u,hu=>by
  rcases List.mem_cons.1 hu with rfl | hu
  ·exact h1
  exact Zn h2 u hu
theorem QS{v:Value}{n:Nat}{c:List Value}(hx:ev m x=some (.pointer (some ⟨b,off,none⟩)))(hy:ev m y=some v)(hv:v.cells=vs.toArray)(ht:Zd P T=some (g,n))(hn:vs.length=n)
  (ho:Own bs b (.cells c.toArray T' (0,0)) f) (hp:KC c off vs l') (h1:PF vs) (k:JS P ops Q l N m ⟨w0,F0,f (.cells l'.toArray T' (0,0)),G⟩) (hu:Vy T'=true:=by rfl):JS P ops Q (⟨none,.store T x y,ty,pos,aft,none⟩::l) N m ⟨w0,F0,bs,G⟩:=λa w ha hw =>
 wpList_plain rfl λ_ hK=>by
  obtain⟨w',h2,h3⟩:=El (P:=P) (d:=none) (ty:=ty) (pos:=pos) (aft:=aft) (gd:=none) (ha.ev hx) (ha.ev hy) hv ht hn (hw.own ho) hp (Zn h1);obtain⟨pre,post,e1,e2⟩:=ho.split;subst e1;rw[e2]at k;exact upon_skip h2 (hK _ _ (k _ _ ha (hw.write pre h3 (XR hu))))
end
inductive Gf:List (Nat×Obj)->Nat->Obj->(Obj->List (Nat×Obj))->List (Nat×Obj)->Prop
 |here {b:Nat} {o:Obj} {r:List (Nat×Obj)}:Gf ((b,o)::r) b o (λo'=>(b,o')::r) r
 |there {x:Nat×Obj} {l r:List (Nat×Obj)} {b:Nat} {o:Obj} {f:Obj->List (Nat×Obj)}:Gf l b o f r->Gf (x::l) b o (λo'=>x::f o') (x::r)
theorem Gf.own{l r:List (Nat×Obj)}(h:Gf l b o f r):Own l b o f:=by
 induction h with
 |here=>exact .here
 |there h ih=>exact .there ih
theorem Gf.sub{l r:List (Nat×Obj)}(h:Gf l b o f r):∀o',r.Sublist (f o'):=by
 induction h with
 |here=>exact λ_=>List.sublist_cons_self _ _
 |there h ih=>exact λo'=>(ih o').cons_cons _
theorem Ju{G0:Gs->Prop}{pos:String}{v:Value}{n:Nat}{c:List Value}(hx:ev m x=some (.pointer (some ⟨b,off,none⟩)))(hy:ev m y=some v)(hv:v.cells=vs.toArray)(ht:Zd P T=some (g,n))(hn:vs.length=n)
  (ho:Gf bs b (.cells c.toArray T' (0,0)) f bs') (hs:bs0.Sublist bs') (hg0:∀F,G F->G0 F) (hp:KC c off vs l') (h1:PF vs) (k:JD P ops Q ⟨w0,F0,bs0,G0⟩ l N m ⟨w0,F0,f (.cells l'.toArray T' (0,0)),G⟩) (hu:Vy T'=true:=by rfl):JD P ops Q ⟨w0,F0,bs0,G0⟩ (⟨none,.store T x y,ty,pos,aft,none⟩::l) N m ⟨w0,F0,bs,G⟩:=λ_ a w ha hw=>by
  obtain⟨w',h2,h3⟩:=El (P:=P) (d:=none) (ty:=ty) (pos:=pos) (aft:=aft) (gd:=none) (ha.ev hx) (ha.ev hy) hv ht hn (hw.own ho.own) hp (Zn h1);have sub:∀o' w,St ⟨w0,F0,f o',G⟩ w->St ⟨w0,F0,bs0,G0⟩ w:=λo' w h=>h.imp (hs.trans (ho.sub o')) hg0;obtain⟨pre,post,e1,e2⟩:=ho.own.split;subst e1;have hS:St ⟨w0,F0,f (.cells l'.toArray T' (0,0)),G⟩ w':=by rw[e2];exact hw.write pre h3 (XR hu)
  refine .inr ⟨rfl,?_⟩;rw[if_pos (by simp[Region.wanted])];exact upon_skip h2 ⟨sub _ _ hS,k (sub _) _ _ ha hS⟩
theorem JC{id:Nat}{l:List Oper}(hb0:bs0.Sublist bs)(hm:P.follows .mixedOrders=true)(hB:lexB .any l=true)(h:JD P l.toArray (XM (Q .normal)) ⟨w0,F0,bs0,G⟩ l N m ⟨w0,F0,bs,G⟩):J P (.region id l.toArray true) Q N m ⟨w0,F0,bs,G⟩ :=
 λa w ha hw=>RX hm hB (hw.drew.imp hb0 λ_ h=>h) (h (λ_ h=>h.imp hb0 λ_ h=>h) a _ ha hw.drew)
theorem JY{id:Nat}{l:List Oper}(n:Nat)(hb0:bs0.Sublist bs)(hm:P.follows .mixedOrders=true)(hB:EA l n=true)(hB2:lexB .any (l.take n)=true)
  (h:JD P (l.take n).toArray (XM λa w=>wpList P l.toArray Q (l.drop n) a w) ⟨w0,F0,bs0,G⟩ (l.take n) N m ⟨w0,F0,bs,G⟩):J P (.region id l.toArray true) Q N m ⟨w0,F0,bs,G⟩ :=
 λa w ha hw=>H4 n hm hB hB2 (hw.drew.imp hb0 λ_ h=>h) (h (λ_ h=>h.imp hb0 λ_ h=>h) a _ ha hw.drew)
theorem Jf{cs:Array Value}{fr:Nat×Nat}(hr:C2 bs b (.cells cs T fr) bs')(k:J P c Q N m ⟨w0,F0,bs',λF=>G F/\F b=some (cs,T)⟩):J P c Q N m ⟨w0,F0,bs,G⟩:=λa w ha hw=>by
 obtain⟨pre,post,rfl,rfl⟩:=hr.split;exact k a w ha (hw.freeze pre)
theorem B8{cs:Array Value}{fr:Nat×Nat}(hr:C2 bs b (.cells cs T fr) bs')(k:JS P ops Q l N m ⟨w0,F0,bs',λF=>G F/\F b=some (cs,T)⟩):JS P ops Q l N m ⟨w0,F0,bs,G⟩:=λa w ha hw=>by
 obtain⟨pre,post,rfl,rfl⟩:=hr.split;exact k a w ha (hw.freeze pre)
def E5:Nat->List Value->Sl
 |_,[]=>[]
 |k,v::r=>(k,v)::E5 (k+1) r
theorem W9:∀(args:List Value) (k t:Nat) (v:Value),look (E5 k args) t=some v->k<=t/\args[t-k]?=some v
 |[],k,t,v,h=>by simp[E5,look]at h
 |u::r,k,t,v,h=>by
  simp only[E5,look]at h;cases hb:Nat.beq k t with
  |true =>
   rw[hb]at h;have:k=t:=by simpa using hb
   subst this;simpa using h
  |false =>
   rw[hb]at h;obtain⟨h1,h2⟩:=W9 r (k+1) t v (by simpa using h);refine⟨O,?_⟩;rw[show t-k=(t-(k+1))+1 by omega];simpa using h2
omit [Df] in
theorem QQ.intro{f:FuncId}{val:γ->Value}{fact:γ->Gs->Prop}{G:Gs->Prop}(hf:P.funcs[f]?=some fn)(hb:fn.body=some c)(hn:(fn.name == "runtime.NumGoroutine")=false)(hN:fn.ntmps=N)(hl:Nat.ble args.length N=true)
  (hw:Fits F w) (hg:∀F',Gs.le F F'->G F') (h:J (df:=KB) P c (bodyPost P fn (Mb w F val fact)) N (E5 0 args) ⟨w,F,[],G⟩):QQ P f args w F val fact:=by
 refine⟨enters_of hf hn (by rw[hb];rfl),calls_of_wp hf hb (h _ w ⟨?_,rfl,λt v ht=>?_⟩ (St.start hw hg))⟩
 ·have:=Nat.le_of_ble_eq_true hl
  simp[hN];omega
 obtain⟨_,h2⟩:=W9 args 0 t v ht
 have hlt:t<args.length:=by rcases Nat.lt_or_ge t args.length with g | g;exact g;rw[Nat.sub_zero,List.getElem?_eq_none g]at h2;cases h2
 simp only[Nat.sub_zero]at h2
 rw[Array.getElem?_append,if_pos (by simpa using hlt)]
 simpa using h2
theorem QQ.go{f:FuncId}{val:γ->Value}{fact:γ->Gs->Prop}{G:Gs->Prop}[u:Up G](hf:P.funcs[f]?=some fn)(hw:Fits F w)(hg:G F)
  (h:J (df:=KB) P c (bodyPost P fn (Mb w F val fact)) N (E5 0 args) ⟨w,F,[],G⟩) (hb:fn.body=some c:=by rfl) (hn:(fn.name == "runtime.NumGoroutine")=false:=by rfl) (hN:fn.ntmps=N:=by rfl) (hl:Nat.ble args.length N=true:=by rfl):QQ P f args w F val fact :=
 QQ.intro hf hb hn hN hl hw (λ_ k=>u.up k hg) h
omit [Df] in
theorem QAH{val:γ->Value}{fact:γ->Gs->Prop}{bs:List (Nat×Obj)}{G:Gs->Prop}(c:γ)(hr:∀a w,JO (df:=KB) N m a->St ⟨w0,F0,bs,G⟩ w->(results fn a.tmps).run P w = .ok (val c) w)(hg:∀F,G F->fact c F):Fin (df:=KB) (bodyPost P fn (Mb w0 F0 val fact)) .ret N m ⟨w0,F0,bs,G⟩:=λa w ha hw=>by
 obtain⟨F,h⟩:=id hw
 exact⟨ha.df,val c,hr a w ha hw,c,F,rfl,h.ext,h.le,h.old,h.fits,λF' hF'=>hg F' (h.g F' hF')⟩
inductive Dq(P:Program)(m:Sl)(bs:List (Nat×Obj)):List ResultVar->List Value->Prop
 |nil:Dq P m bs [] []
 |tmp {t:Tmp} {v:Value} {r:List ResultVar} {vs:List Value} (h:look m t=some v) (k:Dq P m bs r vs):Dq P m bs (.tmp t::r) (v::vs)
 |cX {t:Tmp} {T T':TypeId} {b n:Nat} {c:List Value} {v:Value} {fr:Nat×Nat} {f:Obj->List (Nat×Obj)} {r:List ResultVar} {vs:List Value} (h:look m t=some (.pointer (some ⟨b,0,none⟩))) (ht:Zd P T=some (false,n)) (ho:Own bs b (.cells c.toArray T' fr) f) (hg:MG c 0 [v]) (k:Dq P m bs r vs):Dq P m bs (.cell t T::r) (v::vs)
 |J4 {t:Tmp} {T T':TypeId} {b:Nat} {c:List Value} {fr:Nat×Nat} {f:Obj->List (Nat×Obj)} {r:List ResultVar} {vs:List Value} (h:look m t=some (.pointer (some ⟨b,0,none⟩))) (ht:Zd P T=some (true,c.length)) (ho:Own bs b (.cells c.toArray T' fr) f) (k:Dq P m bs r vs):Dq P m bs (.cell t T::r) (.agg c.toArray::vs)
def G3(tmps:Array Value):ResultVar->Sem Value
 |.tmp t=>pure (tmps.getD t undef)
 |.cell p t=>do loadVar t (<-asAddr (tmps.getD p undef))
theorem Dq.run(h:Dq P m bs rs vs){a:Act}{w:World}(ha:JO N m a)(hw:St ⟨w0,F0,bs,G⟩ w):
  (rs.mapM (G3 a.tmps)).run P w = .ok vs w:=by
 induction h with
 |nil=>rfl
 |tmp h k ih =>
  rename_i t v r vs;have e:=ha.get _ _ h;have e2:(G3 a.tmps (.tmp t)).run P w = .ok v w:=by simp[G3,e]
  rw[List.mapM_cons,Sem.run_bind,e2];simp[ih]
 |cX h ht ho hg k ih =>
  rename_i t T T' b n c v fr f r vs;have e:=ha.get _ _ h;have hc:=ZC (hw.own ho) (o:=0);have:=hg.at 0 _ I;simp only[Nat.zero_add]at this;rw[this]at hc;have e2:(G3 a.tmps (.cell t T)).run P w = .ok v w:=by simp[G3,e,asAddr,Zm ht hc]
  rw[List.mapM_cons,Sem.run_bind,e2];simp[ih]
 |J4 h ht ho k ih =>
  rename_i t T T' b c fr f r vs;have e:=ha.get _ _ h;have:=K5 (P:=P) ht rfl (w:=w) (b:=b) (off:=0) (λj v hv=>by rw[Nat.zero_add,ZC (hw.own ho)];exact hv);have e2:(G3 a.tmps (.cell t T)).run P w = .ok (.agg c.toArray) w:=by simp[G3,e,asAddr,this]
  rw[List.mapM_cons,Sem.run_bind,e2];simp[ih]
theorem IT(fn:Func)(tmps:Array Value):results fn tmps=(do let vs <-fn.results.mapM (G3 tmps);pure (if h:vs.size=1 then vs[0]else .tuple vs)):=by
 unfold results;exact congrArg (λ(g:ResultVar->Sem Value)=>(do let vs <-fn.results.mapM g;pure (if h:vs.size=1 then vs[0]else .tuple vs):Sem Value)) (funext λx=>by cases x<;>rfl)
theorem Gz{rs:List ResultVar}{vs:List Value}(hrs:fn.results=rs.toArray)(h:Dq P m bs rs vs){a:Act}{w:World}(ha:JO N m a)(hw:St ⟨w0,F0,bs,G⟩ w):
  (results fn a.tmps).run P w = .ok (match vs with | [v]=>v | vs=>.tuple vs.toArray) w:=by
 have:=h.run ha hw;rw[IT,hrs,List.mapM_toArray];simp only[Sem.run_bind,Sem.run_map,this,Result.andThen_ok,Sem.run_pure]
 match vs with
 |[]=>rfl
 |[v]=>rfl
 |v::u::r=>rfl
omit [Df] in
theorem QM{val:γ->Value}{fact:γ->Gs->Prop}{bs:List (Nat×Obj)}{G:Gs->Prop}{v:Value}(c:γ)(hrs:fn.results=rs.toArray)(h:Dq P m bs rs [v])(hv:val c=v)(hg:∀F,G F->fact c F):Fin (df:=KB) (bodyPost P fn (Mb w0 F0 val fact)) .ret N m ⟨w0,F0,bs,G⟩ :=
 QAH c (λa w ha hw=>by rw[hv];exact Gz hrs h ha hw) hg
omit [Df] in
theorem J7{val:γ->Value}{fact:γ->Gs->Prop}{bs:List (Nat×Obj)}{G:Gs->Prop}{v u:Value}(c:γ)(hrs:fn.results=rs.toArray)(h:Dq P m bs rs (v::u::vs))(hv:val c = .tuple (v::u::vs).toArray)(hg:∀F,G F->fact c F):Fin (df:=KB) (bodyPost P fn (Mb w0 F0 val fact)) .ret N m ⟨w0,F0,bs,G⟩ :=
 QAH c (λa w ha hw=>by rw[hv];exact Gz hrs h ha hw) hg
end
end
section
variable[Dr][df:Df]
section
variable{P:Program}{N:Nat}{m:Sl}{S:World->Prop}{ty:TypeId}{v:Value}
def yL:BinOp->Value->Value->Option Value
 |.add,.int .i64 a,.int .i64 b=>some (.int .i64 (IntKind.i64.wrap (a+b)))
 |.sub,.int .i64 a,.int .i64 b=>some (.int .i64 (IntKind.i64.wrap (a-b)))
 |.mul,.int .i64 a,.int .i64 b=>some (.int .i64 (IntKind.i64.wrap (a*b)))
 |.add,.int .u64 a,.int .u64 b=>some (.int .u64 (IntKind.u64.wrap (a+b)))
 |.sub,.int .u64 a,.int .u64 b=>some (.int .u64 (IntKind.u64.wrap (a-b)))
 |.mul,.int .u64 a,.int .u64 b=>some (.int .u64 (IntKind.u64.wrap (a*b)))
 |.eql,.int .i64 a,.int .i64 b=>some (.bool (a==b))
 |.neq,.int .i64 a,.int .i64 b=>some (.bool (a != b))
 |.lss,.int .i64 a,.int .i64 b=>some (.bool (decide (a<b)))
 |.leq,.int .i64 a,.int .i64 b=>some (.bool (decide (a<=b)))
 |.gtr,.int .i64 a,.int .i64 b=>some (.bool (decide (a>b)))
 |.geq,.int .i64 a,.int .i64 b=>some (.bool (decide (a>=b)))
 |.eql,.int .u64 a,.int .u64 b=>some (.bool (a==b))
 |.neq,.int .u64 a,.int .u64 b=>some (.bool (a != b))
 |.lss,.int .u64 a,.int .u64 b=>some (.bool (decide (a<b)))
 |.leq,.int .u64 a,.int .u64 b=>some (.bool (decide (a<=b)))
 |.gtr,.int .u64 a,.int .u64 b=>some (.bool (decide (a>b)))
 |.geq,.int .u64 a,.int .u64 b=>some (.bool (decide (a>=b)))
 |.eql,.int .u8 a,.int .u8 b=>some (.bool (a==b))
 |.neq,.int .u8 a,.int .u8 b=>some (.bool (a != b))
 |.lss,.int .u8 a,.int .u8 b=>some (.bool (decide (a<b)))
 |.leq,.int .u8 a,.int .u8 b=>some (.bool (decide (a<=b)))
 |.gtr,.int .u8 a,.int .u8 b=>some (.bool (decide (a>b)))
 |.geq,.int .u8 a,.int .u8 b=>some (.bool (decide (a>=b)))
 |.eql,.int .i32 a,.int .i32 b=>some (.bool (a==b))
 |.neq,.int .i32 a,.int .i32 b=>some (.bool (a != b))
 |.lss,.int .i32 a,.int .i32 b=>some (.bool (decide (a<b)))
 |.leq,.int .i32 a,.int .i32 b=>some (.bool (decide (a<=b)))
 |.gtr,.int .i32 a,.int .i32 b=>some (.bool (decide (a>b)))
 |.geq,.int .i32 a,.int .i32 b=>some (.bool (decide (a>=b)))
 |.eql,.string a,.string b=>some (.bool (a.toList==b.toList))
 |.neq,.string a,.string b=>some (.bool (!(a.toList==b.toList)))
 |_,_,_=>none
theorem jo{op:BinOp}{T:TypeId}{x y:Operand}{vx vy:Value}(h:yL op vx vy=some v)(w:World):(do eqGuard op T x y vx vy;binOp op T vx vy:Sem Value).run P w = .ok v w:=by
  unfold yL at h;split at h<;>first
    | (cases h;done)
    | (simp only[Option.some.injEq]at h
       subst h;simp[eqGuard,binOp,Op.intArith,Op.intCmp,Op.stringOp])
theorem QR{op:BinOp}{vx vy:Value}(hx:ev m x=some vx)(hy:ev m y=some vy)(h:yL op vx vy=some v):Qt P N m S (.binOp op T x y yT) ty v:=λa w _ _ _ _ ha _=>by
 have:=jo (P:=P) (T:=T) (x:=x) (y:=y) h w;simp only[execOp,ha.ev hx,ha.ev hy];simp only[Sem.run_bind]at this ⊢;rw[this];rfl
theorem Qk{a b:Int}(hx:ev m x=some (.int .i64 a))(hy:ev m y=some (.int .i64 b))(h : -9223372036854775808<=a+b/\a+b<=9223372036854775807):Qt P N m S (.binOp .add T x y yT) ty (.int .i64 (a+b)):=by
 have:=QR (P:=P) (N:=N) (m:=m) (S:=S) (ty:=ty) (T:=T) (yT:=yT) (op:=.add) hx hy rfl;rw[IntWalk.i64_in _ h]at this;exact this
theorem Jk{a b:Int}(hx:ev m x=some (.int .i64 a))(hy:ev m y=some (.int .i64 b))(h : -9223372036854775808<=a-b/\a-b<=9223372036854775807):Qt P N m S (.binOp .sub T x y yT) ty (.int .i64 (a-b)):=by
 have:=QR (P:=P) (N:=N) (m:=m) (S:=S) (ty:=ty) (T:=T) (yT:=yT) (op:=.sub) hx hy rfl;rw[IntWalk.i64_in _ h]at this;exact this
theorem VN{a b:Int}(hx:ev m x=some (.int .i64 a))(hy:ev m y=some (.int .i64 b))(h : -9223372036854775808<=a*b/\a*b<=9223372036854775807):Qt P N m S (.binOp .mul T x y yT) ty (.int .i64 (a*b)):=by
 have:=QR (P:=P) (N:=N) (m:=m) (S:=S) (ty:=ty) (T:=T) (yT:=yT) (op:=.mul) hx hy rfl;rw[IntWalk.i64_in _ h]at this;exact this
theorem Lv{k:IntKind}{a b:Int}(hx:ev m x=some (.int k a))(hy:ev m y=some (.int k b))(h:b≠0):Qt P N m S (.binOp .quo T x y yT) ty (.int k (k.wrap (a.tdiv b))):=λs w _ _ _ _ ha _=>by
 simp[execOp,ha.ev hx,ha.ev hy,eqGuard,binOp,Op.intDiv,h]
theorem uZ{k:IntKind}{a b:Int}(hx:ev m x=some (.int k a))(hy:ev m y=some (.int k b))(h:b≠0):Qt P N m S (.binOp .rem T x y yT) ty (.int k (a.tmod b)):=λs w _ _ _ _ ha _=>by
 simp[execOp,ha.ev hx,ha.ev hy,eqGuard,binOp,Op.intDiv,h]
theorem WO{a b:Int}(hx:ev m x=some (.int .i64 a))(hy:ev m y=some (.int .i64 b))(ha:0<=a)(ha':a<=9223372036854775807)(hb:0<b):Qt P N m S (.binOp .quo T x y yT) ty (.int .i64 (a/b)):=by
 have:=Lv (P:=P) (N:=N) (m:=m) (S:=S) (ty:=ty) (T:=T) (yT:=yT) hx hy O;have e:a.tdiv b=a/b:=Int.tdiv_eq_ediv_of_nonneg ha;have h0:0<=a/b:=Int.ediv_nonneg ha O;have h1:a/b<=a:=Int.ediv_le_self b ha;rw[e,IntWalk.i64_in _ ⟨O,O⟩]at this;exact this
theorem Kr{k:IntKind}{a b:Int}(hx:ev m x=some (.int k a))(hy:ev m y=some (.int k b))(ha:0<=a)(hb:0<b):Qt P N m S (.binOp .rem T x y yT) ty (.int k (a%b)):=by
 have:=uZ (P:=P) (N:=N) (m:=m) (S:=S) (ty:=ty) (T:=T) (yT:=yT) hx hy O;rw[Int.tmod_eq_emod_of_nonneg ha]at this;exact this
theorem xK{a b:ByteArray}(hx:ev m x=some (.string a))(hy:ev m y=some (.string b))(h:((a.size+b.size:Nat):Int)<=9223372036854775807):Qt P N m S (.binOp .add T x y yT) ty (.string (a++b)):=λs w _ _ _ _ ha _=>by
 have h':¬((a.size+b.size:Nat):Int)>IntKind.i64.max:=by
  have:IntKind.i64.max=9223372036854775807:=wv;omega
 simp only[execOp,ha.ev hx,ha.ev hy,eqGuard,binOp,Op.stringOp,if_neg h'];rfl
theorem YD{b:Bool}(hx:ev m x=some (.bool b)):Qt P N m S (.unOp .not T x) ty (.bool (!b)):=λs w _ _ _ _ ha _=>by
 simp[execOp,ha.ev hx,Op.unary]
def SX(P:Program)(T:TypeId):Option IntKind:=match P.underlying T with
 |some (.int k)=>some k
 |_=>none
theorem SC{src dst:TypeId}{k:IntKind}{n:Int}(hx:ev m x=some (.int k' n))(hs:(P.underlying src).isSome=true)(hk:SX P dst=some k):Qt P N m S (.convert src dst x) ty (.int k (k.wrap n)):=λs w _ _ _ _ ha _=>by
 obtain⟨d,hd⟩:=Option.isSome_iff_exists.1 hs;unfold SX at hk;split at hk
 ·rename_i k'' hu;cases hk;simp only[execOp,ha.ev hx,convert,Sem.run_bind,run_underlying hd,run_underlying hu,Result.andThen_ok];rfl
 cases hk
theorem Ag{n:Int}(h : -9223372036854775808<=n/\n<=9223372036854775807):IntKind.i64.wrap n=n:=IntWalk.i64_in _ h
theorem SD{src dst:TypeId}{n:Int}(hx:ev m x=some (.int k' n))(hs:(P.underlying src).isSome=true)(hk:SX P dst=some .i64)(h : -9223372036854775808<=n/\n<=9223372036854775807):Qt P N m S (.convert src dst x) ty (.int .i64 n):=by
 have:=SC (P:=P) (N:=N) (m:=m) (S:=S) (ty:=ty) hx hs hk;rw[Ag h]at this;exact this
def Bj(P:Program)(T:TypeId):Bool:=match P.underlying T with
 |some .string=>true
 |_=>false
theorem Z6{b:Builtin}{args:Array Operand}{tys:Array TypeId}{d:Option Tmp}{pos:String}{g:Option (Nat×Bool)}:execOp a.eval ⟨d,.call ⟨.builtin b,args,tys⟩,ty,pos,aft,g⟩=builtin b tys ty (args.map λ| .const _=>true | _=>false) (args.map a.eval):=rfl
theorem xI{s:ByteArray}(hx:ev m x=some (.string s))(hT:Bj P T=true):Qt P N m S (.call ⟨.builtin .len,#[x],#[T]⟩) ty (.int .i64 s.size):=λa w _ _ _ _ ha _=>by
 unfold Bj at hT;split at hT
 ·rename_i hu;rw[Z6];simp[builtin,Builtin.len_,ha.ev hx,run_underlying hu,goInt]
 cases hT
def Ga(P:Program)(T:TypeId):Option TypeId:=match P.underlying T with
 |some (.slice e)=>some e
 |_=>none
theorem JR(h:Ga P T=some e):P.underlying T=some (.slice e):=by
 unfold Ga at h;split at h
 ·cases h;assumption
 cases h
theorem QW{n c:Nat}(hx:ev m x=some (.slice q n c))(hT:Ga P T=some e):Qt P N m S (.call ⟨.builtin .len,#[x],#[T]⟩) ty (.int .i64 n):=λa w _ _ _ _ ha _=>by
 rw[Z6];simp[builtin,Builtin.len_,ha.ev hx,run_underlying (JR hT),goInt]
theorem ub{a b:Int}(hx:ev m x=some (.int .i64 a))(hy:ev m y=some (.int .i64 b)):Qt P N m S (.call ⟨.builtin .min,#[x,y],#[T,T']⟩) ty (.int .i64 (if b<a then b else a)):=λs w _ _ _ _ ha _=>by
 rw[Z6];simp[builtin,ha.ev hx,ha.ev hy,Builtin.min_,Builtin.min2]
theorem qI{a b:Int}(hx:ev m x=some (.int .i64 a))(hy:ev m y=some (.int .i64 b)):Qt P N m S (.call ⟨.builtin .max,#[x,y],#[T,T']⟩) ty (.int .i64 (if b>a then b else a)):=λs w _ _ _ _ ha _=>by
 rw[Z6];simp[builtin,ha.ev hx,ha.ev hy,Builtin.max_,Builtin.max2]
theorem xJ{s:ByteArray}{i:Nat}(hx:ev m x=some (.string s))(hy:ev m y=some (.int .i64 (i:Int)))(hT:Bj P T=true)(hi:i<s.size):Qt P N m S (.index T x y) ty (.int .u8 (s.data[i].toNat:Int)):=λa w _ _ _ _ ha _=>by
 unfold Bj at hT;split at hT
 ·rename_i hu;have e:s[i]?=some (s.data[i]):=by
   rw[getElem?_pos s i hi];rfl
  simp[execOp,ha.ev hx,ha.ev hy,Instr.index,asIntOf,run_underlying hu,e]
 cases hT
theorem TF{s:ByteArray}{lo hi:Option Value}{l h:Nat}(hT:Bj P T=true)(hlo:(lo=none/\l=0)\/lo=some (.int .i64 (l:Int)))(hhi:(hi=none/\h=s.size)\/hi=some (.int .i64 (h:Int)))(h1:l<=h)(h2:h<=s.size)(w:World):
  (Instr.slice T (.string s) lo hi none).run P w = .ok (.string (s.extract l h)) w:=by
 unfold Bj at hT;split at hT
 ·rename_i hu;rcases hlo with ⟨rfl,rfl⟩ | rfl<;>rcases hhi with ⟨rfl,rfl⟩ | rfl <;>
   simp[Instr.slice,run_underlying hu,Instr.sliceBounds,Instr.sliceBound,asIntOf,h1,h2]
 cases hT
def Fw(m:Sl):Option Operand->Option (Option Value)
 |none=>some none
 |some x=>(ev m x).map some
theorem JO.Fw(h:JO N m a){x:Option Operand}{v:Option Value}(hx:Fw m x=some v):x.map a.eval=v:=by
 cases x with
 |none=>simpa[YteldggljlnakmaaGreatDoor.Fw]using hx
 |some x =>
  cases hv:YteldggljlnakmaaGreatDoor.ev m x with
  |none=>simp[YteldggljlnakmaaGreatDoor.Fw,hv]at hx
  |some u=>simp[YteldggljlnakmaaGreatDoor.Fw,hv]at hx;simp[h.ev hv,hx]
theorem IX{lo hi:Option Operand}{vl vh:Option Value}{s:ByteArray}{l h:Nat}(hx:ev m x=some (.string s))(el:Fw m lo=some vl)(eh:Fw m hi=some vh)(hT:Bj P T=true)
  (hlo:(vl=none/\l=0)\/vl=some (.int .i64 (l:Int))) (hhi:(vh=none/\h=s.size)\/vh=some (.int .i64 (h:Int))) (h1:l<=h) (h2:h<=s.size):Qt P N m S (.slice T x lo hi none) ty (.string (s.extract l h)):=λa w _ _ _ _ ha _=>by
 have e:=TF (P:=P) hT hlo hhi h1 h2 w;unfold Bj at hT;split at hT
 ·rename_i hu;simp[execOp,ha.ev hx,ha.Fw el,ha.Fw eh,Instr.sliceAt,run_underlying hu,e]
 cases hT
end
end
section
variable[Dr][df:Df]
section
variable{P:Program}{Q:Exit->Act->World->Prop}{N:Nat}{m:Sl}{E E0:Env}{ops:Array Oper}{l:List Oper}{w0:World}{F0:Gs}{bs:List (Nat×Obj)}{G:Gs->Prop}{ty:TypeId}{v:Value}{S:World->Prop}
theorem V1(b off k:Nat):(⟨b,off,none⟩:Addr).add k=⟨b,off+k,none⟩:=by simp[Addr.add]
theorem Qj{n c sz i:Nat}(hx:ev m x=some (.slice (some ⟨b,off,none⟩) n c))(hy:ev m y=some (.int .i64 (i:Int)))(hT:Ga P T=some e)(hs:Zd P e=some (g,sz))(hi:i<n):Qt P N m S (.indexAddr T x y) ty (.pointer (some ⟨b,off+i*sz,none⟩)):=λa w _ _ _ _ ha _=>by
 simp[execOp,ha.ev hx,ha.ev hy,Instr.indexAt,asIntOf,run_underlying (JR hT),Ys hs,hi,V1]
theorem Xm{n:Nat}{c:List Value}{fr:Nat×Nat}{f:Obj->List _}(h:ev m x=some (.pointer (some ⟨b,off,none⟩)))(ht:Zd P T=some (false,n))(ho:Own bs b (.cells c.toArray T' fr) f)(hg:c[off]?=some v):
  Qt P N m (St ⟨w0,F0,bs,G⟩) (.load T x) ty v:=λa w _ _ _ _ ha hw=>by
 have hc:w.cell? ⟨b,off,none⟩=some v:=by rw[ZC (hw.own ho)];exact hg
 simp[execOp,ha.ev h,Instr.loadAt,Instr.sureAddr,Zm ht hc]
theorem KC.mk':∀(n:Nat) (l vs:List Value),n+vs.length<=l.length->KC l n vs (l.take n++vs++l.drop (n+vs.length))
 |0,l,[],_=>by simpa using KC.nil
 |0,x::l,v::vs,h=>by
  have:=KC.mk' 0 l vs (by simp_all);exact .here this
 |n+1,x::l,vs,h=>by
  have:=KC.mk' n l vs (by grind);rw[Nat.add_right_comm];simpa using KC.skip this
 |0,[],v::vs,h=>by grind
 |n+1,[],vs,h=>by grind
inductive Qp(T:TypeId)(sz:Nat):Value->Nat->List Value->List (Nat×Obj)->Prop
 |nil:Qp T sz (.slice none 0 0) 0 [] []
 |some {b n cap:Nat} {l rest:List Value} (h1:l.length=n*sz) (h2:l.length+rest.length=cap*sz) (h3:n<=cap) (h4:cap<=maxLen):Qp T sz (.slice (some ⟨b,0,none⟩) n cap) n l [(b,.cells (l++rest).toArray T (0,0))]
theorem Qp.one{sz n:Nat}{v:Value}{l:List Value}(h:Qp T sz v n l ob):v.oneCell'=true/\v.cells=[v].toArray:=by
 cases h<;>exact⟨rfl,rfl⟩
structure Src(E:Env)(sz:Nat)(x:Value)(k:Nat)(news:List Value):Prop where
 len:news.length=k*sz
 rd:((∃c,x = .slice none 0 c)/\k=0/\news=[])\/∃a c,x = .slice (some a) k c/\∀w,St E w->∀j v,news[j]?=some v->w.cell? (a.add j)=some v
theorem Src.row{sz c:Nat}{cs:Array Value}(hr:∀F,G F->F b=some (cs,T))(hg:∀j v,news[j]?=some v->cs[off+j]?=some v)(hl:news.length=k*sz):Src ⟨w0,F0,bs,G⟩ sz (.slice (.some ⟨b,off,none⟩) k c) k news :=
 ⟨hl,.inr ⟨_,_,rfl,λw hw j v hv=>by rw[V1];exact cell_of_row hw hr (hg j v hv)⟩⟩
theorem Src.nil{sz c:Nat}:Src E sz (.slice none 0 c) 0 []:=⟨w9,.inl ⟨⟨_,rfl⟩,rfl,rfl⟩⟩
def ZM(P:Program)(T:TypeId):Option Nat:=(P.info? T).map (·.bytes)
theorem H5{sz:Nat}{x:Value}(hl:news.length=k*sz)(h:((∃c,x = .slice none 0 c)/\k=0/\news=[])\/∃a c,x = .slice (some a) k c/\∀j v,news[j]?=some v->w.cell? (a.add j)=some v):
  (Builtin.firstCells sz k x).run P w = .ok news.toArray w:=by
 rcases h with ⟨⟨_,rfl⟩,rfl,rfl⟩ | ⟨a,c,rfl,h⟩
 ·rfl
 grind[run_firstCells_some]
theorem GX{t:TypeId}{sz n:Nat}{x y:Value}{olds:List Value}{ob:List (Nat×Obj)}(ht:Ga P t=some e)(hs:Zd P e=some (g,sz))(hz:J1 P e=some z)(hzl:z.length=sz)(hby:ZM P e=some bytes)
  (hr:Qp e sz x n olds ob) (hs2:Src ⟨w0,F0,ob++bs,G⟩ sz y k news) (hw:St ⟨w0,F0,ob++bs,G⟩ w) (h63:n+k<=9223372036854775807) (h47:(n+k)*bytes<=140737488355328) (h1:∀v∈news,v.oneCell'=true) (hu:Vy e=true) :
  ∃v' ob' w',(Builtin.append_ #[t,t] ty #[x,y]).run P w = .ok v' w'/\Qp e sz v' (n+k) (olds++news) ob'/\St ⟨w0,F0,ob'++bs,G⟩ w':=by
 have hi:∃i,P.info? e=some i/\i.size=sz/\i.bytes=bytes/\∃zv,i.zero=some zv/\zv.cells=z.toArray:=by
  unfold ZM at hby;unfold J1 at hz;unfold Zd at hs;cases hie:P.info? e with
  |none=>simp_all
  |some i =>
   rw[hie]at hby hz hs;dsimp only at hz hs;simp only[Option.map_some,Option.some.injEq]at hby;refine⟨i,rfl,?_,hby,?_⟩
   ·grind
   cases hzz:i.zero<;>grind
 obtain⟨i,hi1,hi2,hi3,zv,hi4,hi5⟩:=hi;subst hi2 hi3;have hzc:∀q,(Builtin.zeroCells zv.cells q).toList.length=q*i.size:=λq=>by grind[Builtin.zeroCells]
 have hu':∀c fr c' fr',Obj.cells c e fr≠.cells c' 201 fr':=λc fr=>XR hu;have new:∀ {w':World} (l rest:List Value) (v':Value) (cap:Nat) (bs':List (Nat×Obj)),St ⟨w0,F0,bs',G⟩ w'->bs.Sublist bs'->v' = .slice (some ⟨w'.heap.size,0,none⟩) (n+k) cap->l.length=(n+k)*i.size->l.length+rest.length=cap*i.size->n+k<=cap->cap<=maxLen ->
   ∃ob',Qp e i.size v' (n+k) l ob'/\St ⟨w0,F0,ob'++bs,G⟩ (w'.alloc (.cells (l++rest).toArray e)):=by
  intro w' l rest v' cap bs' hw' hsub hv' h2 h3 h4 h5;subst hv';exact⟨_,.some h2 h3 h4 h5,(hw'.imp hsub λ_ h=>h).alloc _ (hu' _ _)⟩
 have hcut:∀need old,need<=9223372036854775807->need<=grownCap w need old e:=λneed old _=>grownCap_ge w need old e;cases hr with
 |nil =>
  simp only[Nat.zero_add,List.nil_append]at *
  rcases hs2.rd with ⟨⟨_,rfl⟩,rfl,rfl⟩ | ⟨a,c,rfl,hrd⟩
  ·refine⟨.slice none 0 0,[],w,?_,.nil,hw⟩;simp[Builtin.append_,run_underlying (JR ht),sizeOf,typeInfo,hi1,Builtin.lenOf,Builtin.firstCells]
  by_cases hk:k=0
  ·subst hk;have hn0:news=[]:=by have:=hs2.len;simp_all
   subst hn0;refine⟨.slice none 0 0,[],w,?_,.nil,hw⟩;have:=run_firstCells_some (P:=P) w i.size 0 a 0 c [] w9 (λj v hv=>by grind);simp[Builtin.append_,run_underlying (JR ht),sizeOf,typeInfo,hi1,Builtin.lenOf,this]
  have hrun:=run_append_nil (P:=P) (w:=w) t ty e i zv (JR ht) hi1 hi4 a k c news hs2.len (hrd w hw) O O O;have hge:=hcut k 0 h63;obtain⟨ob',h2,h3⟩:=new news (Builtin.zeroCells zv.cells (grownCap w k 0 e-k)).toList _ (grownCap w k 0 e) bs hw.drew QJ3 rfl hs2.len (by rw[hzc,hs2.len,<-Nat.add_mul];simp_all) hge (grownCap_le_maxLen w k 0 e (by trivial));refine⟨_,ob',_,hrun,h2,?_⟩;have e1:(news++(Builtin.zeroCells zv.cells (grownCap w k 0 e-k)).toList).toArray=news.toArray++Builtin.zeroCells zv.cells (grownCap w k 0 e-k):=by apply Array.ext';simp
  grind
 |some g1 g2 g3 g4 =>
  rename_i b cap rest;have hbw:w.heap[b]?=some (.cells (olds++rest).toArray e (0,0)):=hw.own (f:=λo'=>(b,o')::bs) .here;have hold:∀j v,olds[j]?=some v->w.cell? ((⟨b,0,none⟩:Addr).add j)=some v:=λj v hv=>by
   rw[V1,Nat.zero_add,ZC hbw,List.getElem?_append];have:j<olds.length:=by rcases Nat.lt_or_ge j olds.length with q | q;exact q;rw[List.getElem?_eq_none q]at hv;cases hv
   rw[if_pos this];exact hv
  by_cases hroom:n+k<=cap
  ·have hmul:(n+k)*i.size<=cap*i.size:=Nat.mul_le_mul_right _ hroom;rw[Nat.add_mul]at hmul;have hp:=KC.mk' (n*i.size) (olds++rest) news (by rw[List.length_append,hs2.len];omega);obtain⟨w',h2,h3⟩:=run_storeCells_at (P:=P) b e news 0 (n*i.size) (olds++rest) _ w hbw h1 hp;have e1:(olds++rest).take (n*i.size)=olds:=by rw[<-g1];simp
   have e2:(olds++rest).drop (n*i.size+news.length)=rest.drop news.length:=by
    rw[<-g1,List.drop_append,List.drop_of_length_le O,Nat.add_sub_cancel_left,List.nil_append]
   rw[e1,e2]at h3;have hfc:=H5 (P:=P) (w:=w) hs2.len (hs2.rd.imp id λ⟨a,c,h,h'⟩=>⟨a,c,h,h' w hw⟩);refine⟨.slice (some ⟨b,0,none⟩) (n+k) cap,[(b,.cells (olds++news++rest.drop news.length).toArray e (0,0))],w',?_,.some ?_ ?_ hroom g4,?_⟩
   ·have hlen:(Builtin.lenOf y).run P w = .ok k w:=by
     rcases hs2.rd with ⟨⟨_,rfl⟩,rfl,_⟩ | ⟨a,c,rfl,_⟩<;>rfl
    simp[Builtin.append_,run_underlying (JR ht),sizeOf,typeInfo,hi1,hlen,hroom,hfc,V1,h2]
   ·rw[List.length_append,g1,hs2.len,Nat.add_mul]
   ·rw[List.length_append,List.length_drop,hs2.len,g1];omega
   exact St.write [] hw h3 (hu' _ _)
  rcases hs2.rd with ⟨⟨_,rfl⟩,rfl,rfl⟩ | ⟨a,c,rfl,hrd⟩
  ·exact absurd g3 hroom
  have hfit:=growslice_fits (need:=n+k) (old:=cap) (bytes:=i.bytes) O h47;have hrun:=run_append_grow (P:=P) (w:=w) t ty e i zv (JR ht) hi1 hi4 ⟨b,0,none⟩ n cap olds g1 hold a k c news hs2.len (hrd w hw) O O hfit;have hge:=hcut (n+k) cap h63;have hl2:(olds++news).length=(n+k)*i.size:=by rw[List.length_append,g1,hs2.len,Nat.add_mul]
  obtain⟨ob',h2,h3⟩:=new (olds++news) (Builtin.zeroCells zv.cells (grownCap w (n+k) cap e-(n+k))).toList _ (grownCap w (n+k) cap e) _ hw.drew (List.sublist_cons_self _ _) rfl hl2 (by rw[hzc,hl2,<-Nat.add_mul];congr 1;omega) hge (grownCap_le_maxLen w (n+k) cap e (by simp only[maxLen];omega));refine⟨_,ob',_,hrun,h2,?_⟩;have e1:(olds++news++(Builtin.zeroCells zv.cells (grownCap w (n+k) cap e-(n+k))).toList).toArray=olds.toArray++news.toArray++Builtin.zeroCells zv.cells (grownCap w (n+k) cap e-(n+k)):=by apply Array.ext';simp
  rw[e1]at h3;exact h3
theorem DA{d:Nat}{pos:String}{t:TypeId}{sz n:Nat}{X Y:Operand}{x y:Value}{olds:List Value}(hx:ev m X=some x)(hy:ev m Y=some y)(ht:Ga P t=some e)(hs:Zd P e=some (g,sz))(hz:J1 P e=some z)(hzl:z.length=sz)(hby:ZM P e=some bytes)
  (hr:Qp e sz x n olds ob) (hs2:Src ⟨w0,F0,ob++bs,G⟩ sz y k news) (h63:n+k<=9223372036854775807) (h47:(n+k)*bytes<=140737488355328) (h1:∀v∈news,v.oneCell'=true)
  (kk:∀v' ob',Qp e sz v' (n+k) (olds++news) ob'->JS P ops Q l N ((d,v')::m) ⟨w0,F0,ob'++bs,G⟩) (hu:Vy e=true:=by rfl) (hd:Jq N (some d)=true:=by rfl) :
  JS P ops Q (⟨some d,.call ⟨.builtin .append,#[X,Y],#[t,t]⟩,ty,pos,aft,none⟩::l) N m ⟨w0,F0,ob++bs,G⟩:=λa w ha hw =>
 wpList_plain rfl λK hK=>by
  obtain⟨v',ob',w',h2,h3,h4⟩:=GX (ty:=ty) ht hs hz hzl hby hr hs2 hw h63 h47 h1 hu;refine upon_value ?_ (hK _ _ (kk v' ob' h3 _ w' (ha.put hd v') h4));rw[Z6];simp[builtin,ha.ev hx,ha.ev hy,h2]
theorem Kn{d:Nat}{pos:String}{t:TypeId}{sz n:Nat}{X Y:Operand}{x y:Value}{olds:List Value}{bs0:List _}{G0:Gs->Prop}(hx:ev m X=some x)(hy:ev m Y=some y)(ht:Ga P t=some e)(hs:Zd P e=some (g,sz))(hz:J1 P e=some z)(hzl:z.length=sz)(hby:ZM P e=some bytes)
  (hr:Qp e sz x n olds ob) (hs2:Src ⟨w0,F0,ob++bs,G⟩ sz y k news) (h63:n+k<=9223372036854775807) (h47:(n+k)*bytes<=140737488355328) (h1:∀v∈news,v.oneCell'=true) (hs0:bs0.Sublist bs) (hg0:∀F,G F->G0 F)
  (kk:∀v' ob',Qp e sz v' (n+k) (olds++news) ob'->JD P ops Q ⟨w0,F0,bs0,G0⟩ l N ((d,v')::m) ⟨w0,F0,ob'++bs,G⟩) (hu:Vy e=true:=by rfl) (hd:Jq N (some d)=true:=by rfl) :
  JD P ops Q ⟨w0,F0,bs0,G0⟩ (⟨some d,.call ⟨.builtin .append,#[X,Y],#[t,t]⟩,ty,pos,aft,none⟩::l) N m ⟨w0,F0,ob++bs,G⟩:=λ_ a w ha hw=>by
  obtain⟨v',ob',w',h2,h3,h4⟩:=GX (ty:=ty) ht hs hz hzl hby hr hs2 hw h63 h47 h1 hu;have sub:∀w',St ⟨w0,F0,ob'++bs,G⟩ w'->St ⟨w0,F0,bs0,G0⟩ w':=λw' h=>h.imp (hs0.trans (List.sublist_append_right _ _)) hg0;refine .inr ⟨rfl,?_⟩;refine upon_value ?_ ⟨sub _ h4,kk v' ob' h3 sub _ w' (ha.put hd v') h4⟩;rw[Z6];simp[builtin,ha.ev hx,ha.ev hy,h2]
def JL(z:List Value):Nat->List Value
 |0=>[]
 |n+1=>z++JL z n
theorem Xf(z:List Value):∀n,(JL z n).length=n*z.length
 |0=>by simp[JL]
 |n+1=>by rw[JL,List.length_append,Xf z n,Nat.add_mul];omega
theorem Nh(z:List Value):∀(n j:Nat),j<n*z.length->(JL z n)[j]?=z[j%z.length]?
 |0,j,h=>O
 |n+1,j,h=>by
  rw[JL,List.getElem?_append];split
  ·grind[Nat.mod_eq_of_lt]
  rw[Nh z n _ (by grind)]
  grind[Nat.mod_eq_sub_mod]
theorem Zl(v:Value):∀n,JL [v] n=List.replicate n v
 |0=>rfl
 |n+1=>by rw[JL,Zl v n];rfl
theorem TW{z:Array Value}{n:Nat}:madeCells z (n*z.size)=(JL z.toList n).toArray:=by
 apply Array.ext_getElem?
 grind[madeCells,Nat.eq_zero_or_pos,Nat.mod_lt,Nh,JL,Xf]
theorem FY{t:TypeId}{sz n:Nat}{kl:IntKind}(ht:Ga P t=some e)(hs:Zd P e=some (g,sz))(hz:J1 P e=some z)(hzl:z.length=sz)(hby:ZM P e=some bytes)(h63:(n:Int)<=9223372036854775807)(h48:n*bytes<=281474976710656):
  (Instr.makeSlice t (.int kl n) (.int kl n)).run P w = .ok (.slice (some ⟨w.heap.size,0,none⟩) n n) (w.alloc (.cells (JL z n).toArray e)):=by
 have hi:∃i,P.info? e=some i/\i.size=sz/\i.bytes=bytes/\∃zv,i.zero=some zv/\zv.cells=z.toArray:=by
  unfold ZM at hby;unfold J1 at hz;unfold Zd at hs;cases hie:P.info? e with
  |none=>simp_all
  |some i =>
   rw[hie]at hby hz hs;simp at hby;refine⟨i,rfl,?_,hby,?_⟩
   ·grind
   cases hzz:i.zero<;>grind
 obtain⟨i,hi1,hi2,hi3,zv,hi4,hi5⟩:=hi;have hb:(i.bytes:Int)*(n:Int)<=281474976710656:=by
  grind
 have:=run_make w t e i zv (JR ht) hi1 hi4 kl kl n n O (Int.le_refl _) hb h63;have e2:i.size=zv.cells.size:=by simp_all
 grind[Int.toNat_natCast,TW]
theorem Y8{d:Nat}{pos:String}{t:TypeId}{sz n:Nat}{X Y:Operand}{kl:IntKind}(hx:ev m X=some (.int kl (n:Int)))(hy:ev m Y=some (.int kl (n:Int)))(ht:Ga P t=some e)(hs:Zd P e=some (g,sz))(hz:J1 P e=some z)(hzl:z.length=sz)(hby:ZM P e=some bytes)(h63:(n:Int)<=9223372036854775807)(h48:n*bytes<=281474976710656)
  (k:∀b,JS P ops Q l N ((d,.slice (some ⟨b,0,none⟩) n n)::m) ⟨w0,F0,(b,.cells (JL z n).toArray e (0,0))::bs,G⟩) (hu:Vy e=true:=by rfl) (hd:Jq N (some d)=true:=by rfl) :
  JS P ops Q (⟨some d,.makeSlice t X Y,ty,pos,aft,none⟩::l) N m ⟨w0,F0,bs,G⟩:=λa w ha hw =>
 wpList_plain rfl λ_ hK=>upon_value (by
  simp[execOp,ha.ev hx,ha.ev hy,Sem.run_bind,FY ht hs hz hzl hby h63 h48,Result.andThen_ok,Sem.run_pure]) (hK _ _ (k _ _ _ (ha.put hd _) (hw.alloc _ (XR hu))))
end
end
section
variable[Dr][df:Df]
def YV(P:Program)(T:TypeId):Option (List (Nat×Nat)):=match P.info? T,P.underlying T with
 |some _,some (.struct fields)=>fields.toList.mapM λf=>(P.info? f.type).map λi=>(f.offset,i.size)
 |_,_=>none
inductive Dx(pl:List (Nat×Nat)):List (Nat×Value)->List Value->List Value->Prop
 |nil {l:List Value}:Dx pl [] l l
 |cons {i off sz:Nat} {v:Value} {vs cur cur' res:List Value} {r:List (Nat×Value)} (hf:pl[i]?=some (off,sz)) (hv:v.cells=vs.toArray) (hn:vs.length=sz) (hp:KC cur off vs cur') (k:Dx pl r cur' res):Dx pl ((i,v)::r) cur res
theorem Au(off:Nat):∀(vs:List Value) (j:Nat) (cur cur':List Value),KC cur (off+j) vs cur'->(vs.zipIdx j).foldl (λcs (x:Value×Nat)=>cs.setIfInBounds (off+x.2) x.1) cur.toArray=cur'.toArray
 |[],j,cur,cur',h=>by have:=h.eq;simp at this;simp[this]
 |v::vs,j,cur,cur',h=>by
  have hle:=h.le;have hp2:KC (cur.set (off+j) v) (off+(j+1)) vs cur':=by
   have key:∀(n:Nat) (cur l':List Value),KC cur n (v::vs) l'->KC (cur.set n v) (n+1) vs l':=by
    intro n
    induction n with
    |zero=>intro cur l' h;cases h with | here h=>exact .skip h
    |succ n ih=>intro cur l' h;cases h with | skip h=>exact .skip (ih _ _ h)
   exact key _ _ _ h
  rw[List.zipIdx_cons,List.foldl_cons];have:=Au off vs (j+1) _ _ hp2;simpa using this
theorem Dx.fill{cur res:List Value}(h:Dx pl ps cur res):Instr.fill (pl.toArray[·]?) cur.toArray ps=some res.toArray:=by
 induction h with
 |nil=>rfl
 |cons hf hv hn hp k ih =>
  rename_i i off sz v vs cur cur' res r;have hle:=hp.le;unfold Instr.fill;have e1:pl.toArray[i]?=some (off,sz):=by simpa using hf
  simp only[e1,hv,List.size_toArray,hn,ne_eq,not_true_eq_false,decide_false,Bool.false_or,decide_eq_true_eq];rw[if_neg O];have e2:vs.toArray.zipIdx.foldl (λcs (x:Value×Nat)=>cs.setIfInBounds (off+x.2) x.1) cur.toArray=cur'.toArray:=by
   have:=Au off vs 0 cur cur' (by simpa using hp);rw[<-this,<-Array.foldl_toList];simp
  rw[e2];exact ih
section
variable{P:Program}{Q:Exit->Act->World->Prop}{N:Nat}{m:Sl}{E E0:Env}{ops:Array Oper}{l:List Oper}
theorem X1{ops':Array Oper}{l':List Oper}(h:JS P ops' Q l' N m E):JD P ops (XM λa w=>wpList P ops' Q l' a w) E0 [] N m E:=λ_=>h
theorem Qv(h:Fin Q .normal N m E):JD P ops (XM (Q .normal)) E0 [] N m E:=λ_=>h
theorem Qn{t:Nat}{b:Bool}(h:look m t=some (.bool b))(ht:b=true->JS P ops Q l N ((t,.bool true)::m) E)(hf:b=false->JS P ops Q l N ((t,.bool false)::m) E):JS P ops Q l N m E:=λa w ha hw=>by
 cases b with
 |true=>exact ht rfl a w ⟨ha.size,ha.df,λi v hi=>by
   simp only[look]at hi;cases hb:Nat.beq t i with
   |true=>rw[hb]at hi;have:t=i:=(by simpa using hb);subst this;exact ha.get _ _ (by rw[h];simpa using hi)
   |false=>rw[hb]at hi;exact ha.get _ _ hi⟩ hw
 |false=>exact hf rfl a w ⟨ha.size,ha.df,λi v hi=>by
   simp only[look]at hi;cases hb:Nat.beq t i with
   |true=>rw[hb]at hi;have:t=i:=(by simpa using hb);subst this;exact ha.get _ _ (by rw[h];simpa using hi)
   |false=>rw[hb]at hi;exact ha.get _ _ hi⟩ hw
theorem Vq{t:Nat}{b:Bool}(h:look m t=some (.bool b))(ht:b=true->JD P ops Q E0 l N ((t,.bool true)::m) E)(hf:b=false->JD P ops Q E0 l N ((t,.bool false)::m) E):JD P ops Q E0 l N m E:=λhE a w ha hw=>by
 cases b with
 |true=>exact ht rfl hE a w ⟨ha.size,ha.df,λi v hi=>by
   simp only[look]at hi;cases hb:Nat.beq t i with
   |true=>rw[hb]at hi;have:t=i:=(by simpa using hb);subst this;exact ha.get _ _ (by rw[h];simpa using hi)
   |false=>rw[hb]at hi;exact ha.get _ _ hi⟩ hw
 |false=>exact hf rfl hE a w ⟨ha.size,ha.df,λi v hi=>by
   simp only[look]at hi;cases hb:Nat.beq t i with
   |true=>rw[hb]at hi;have:t=i:=(by simpa using hb);subst this;exact ha.get _ _ (by rw[h];simpa using hi)
   |false=>rw[hb]at hi;exact ha.get _ _ hi⟩ hw
section
variable{d:Option Tmp}{o:Op}{ty:TypeId}{pos:String}{aft:Array Edge}{g t:Nat}{want:Bool}
theorem QP(hg:(ops[g]?).bind (·.dst)=some t)(hb:look m t=some (.bool want))(ht:JS P ops Q (⟨d,o,ty,pos,aft,none⟩::l) N m E)(hd:Jq N d=true:=by rfl):JS P ops Q (⟨d,o,ty,pos,aft,some (g,want)⟩::l) N m E :=
 QBj hg hb (λ_=>ht) (λh=>by cases want<;>cases h) hd
theorem JB(hg:(ops[g]?).bind (·.dst)=some t)(hb:look m t=some (.bool want))(ht:JD P ops Q E0 (⟨d,o,ty,pos,aft,none⟩::l) N m E)(hd:Jq N d=true:=by rfl):JD P ops Q E0 (⟨d,o,ty,pos,aft,some (g,want)⟩::l) N m E :=
 QE7 hg hb (λ_=>ht) (λh=>by cases want<;>cases h) hd
theorem QN{d:Nat}{b:Bool}(hg:(ops[g]?).bind (·.dst)=some t)(hb:look m t=some (.bool b))(hw:b=!want)(hf:JS P ops Q l N ((d,undef)::m) E)(hd:Jq N (some d)=true:=by rfl):JS P ops Q (⟨some d,o,ty,pos,aft,some (g,want)⟩::l) N m E :=
 QBj hg hb (λh=>by subst h;cases b<;>cases hw) (λ_=>hf) hd
theorem JK{d:Nat}{b:Bool}(hg:(ops[g]?).bind (·.dst)=some t)(hb:look m t=some (.bool b))(hw:b=!want)(hf:JD P ops Q E0 l N ((d,undef)::m) E)(hd:Jq N (some d)=true:=by rfl):JD P ops Q E0 (⟨some d,o,ty,pos,aft,some (g,want)⟩::l) N m E :=
 QE7 hg hb (λh=>by subst h;cases b<;>cases hw) (λ_=>hf) hd
end
theorem QAB{x y:Code}(m':Sl)(bs':List (Nat×Obj))(G':Gs->Prop)(h1:J P x (XM λa w=>JO N m' a/\St ⟨w0,F0,bs',G'⟩ w) N m ⟨w0,F0,bs,G⟩)(h2:J P y Q N m' ⟨w0,F0,bs',G'⟩):J P (.seq x y) Q N m ⟨w0,F0,bs,G⟩:=λa w ha hw=>by
 refine wp_seq (wp_mono (h1 a w ha hw) ?_);intro e a' w' h;cases e with
 |normal=>exact h2 a' w' h.1 h.2
 |_=>exact h.elim
theorem J9{m':Sl}(hm:YT m m':=by repeat' (first | exact trivial | refine⟨rfl,?_⟩))(hb:bs'.Sublist bs:=by first | exact List.Sublist.refl _ | (repeat' (first | exact List.Sublist.refl _ | exact List.nil_sublist _ | refine List.Sublist.cons_cons _ ?_ | refine List.Sublist.cons _ ?_)))(hg:∀F,G F->G' F:=by intro F h;first | exact h | exact⟨h,trivial⟩ | (repeat' (first | exact trivial | exact h.2 | exact h.1.2 | exact h.1.1.2 | exact h.1.1.1.2 | exact h.1.1.1.1.2 | exact h.1.1.1.1.1.2 | exact h.1.1.1.1.1.1.2 | exact h.1.1.1.1.1.1.1.2 | exact h.1.1.1.1.1.1.1.1.2 | exact h.1.1.1.1.1.1.1.1.1.2 | exact h.1 | exact h.1.1 | exact h.1.1.1 | exact h.1.1.1.1 | exact h.1.1.1.1.1 | exact h.1.1.1.1.1.1 | exact h.1.1.1.1.1.1.1 | exact h.1.1.1.1.1.1.1.1 | exact h.1.1.1.1.1.1.1.1.1 | refine And.intro ?_ ?_))):Fin (XM λa w=>JO N m' a/\St ⟨w0,F0,bs',G'⟩ w) .normal N m ⟨w0,F0,bs,G⟩ :=
 λa w ha hw=>⟨ha.sub hm,hw.imp hb hg⟩
end
theorem Hg{x y:Code}(M:ι->Sl)(B:ι->List (Nat×Obj))(H:ι->Gs->Prop)
  (h1:J P x (XM λa w=>∃i,JO N (M i) a/\St ⟨w0,F0,B i,H i⟩ w) N m ⟨w0,F0,bs,G⟩) (h2:∀i,J P y Q N (M i) ⟨w0,F0,B i,H i⟩):J P (.seq x y) Q N m ⟨w0,F0,bs,G⟩:=λa w ha hw=>by
 refine wp_seq (wp_mono (h1 a w ha hw) ?_);intro e a' w' h;cases e with
 |normal=>obtain⟨i,h3,h4⟩:=h;exact h2 i a' w' h3 h4
 |_=>exact h.elim
theorem XG{M:ι->Sl}{B:ι->List (Nat×Obj)}{H:ι->Gs->Prop}(i:ι)(hm:YT m (M i):=by repeat' (first | exact trivial | refine⟨rfl,?_⟩))(hb:(B i).Sublist bs:=by first | exact List.Sublist.refl _ | (repeat' (first | exact List.Sublist.refl _ | exact List.nil_sublist _ | refine List.Sublist.cons_cons _ ?_ | refine List.Sublist.cons _ ?_)))(hg:∀F,G F->H i F:=by intro F h;first | exact h | exact⟨h,trivial⟩ | (repeat' (first | exact trivial | exact h.2 | exact h.1.2 | exact h.1.1.2 | exact h.1.1.1.2 | exact h.1.1.1.1.2 | exact h.1.1.1.1.1.2 | exact h.1.1.1.1.1.1.2 | exact h.1.1.1.1.1.1.1.2 | exact h.1.1.1.1.1.1.1.1.2 | exact h.1.1.1.1.1.1.1.1.1.2 | exact h.1 | exact h.1.1 | exact h.1.1.1 | exact h.1.1.1.1 | exact h.1.1.1.1.1 | exact h.1.1.1.1.1.1 | exact h.1.1.1.1.1.1.1 | exact h.1.1.1.1.1.1.1.1 | exact h.1.1.1.1.1.1.1.1.1 | refine And.intro ?_ ?_))):
  Fin (XM λa w=>∃i,JO N (M i) a/\St ⟨w0,F0,B i,H i⟩ w) .normal N m ⟨w0,F0,bs,G⟩:=λa w ha hw=>⟨i,ha.sub hm,hw.imp hb hg⟩
inductive LS:Sl->Sl->Prop
 |refl {m:Sl}:LS m m
 |cons {k:Nat} {v:Value} {l m:Sl} (hk:(look m k).isNone=true) (h:LS l m):LS ((k,v)::l) m
theorem LS.look{l:Sl}(h:LS l m){t:Nat}{u:Value}(hu:YteldggljlnakmaaGreatDoor.look m t=some u):YteldggljlnakmaaGreatDoor.look l t=some u:=by
 induction h with
 |refl=>exact hu
 |cons hk h ih =>
  rename_i k v l m;have hne:Nat.beq k t=false:=by
   cases hb:Nat.beq k t with
   |false=>rfl
   |true=>have:k=t:=(by simpa using hb);subst this;rw[hu]at hk;cases hk
  simp only[YteldggljlnakmaaGreatDoor.look,hne,cond_false];exact ih hu
section
variable{P:Program}{Q:Exit->Act->World->Prop}{N:Nat}{m l:Sl}{w0:World}{F0:Gs}{bs bs1:List (Nat×Obj)}{G G1:Gs->Prop}{x y:Code}
theorem B0(t:Nat)(v:Value)(h1:J P x (XM λa w=>JO N ((t,v)::m) a/\St ⟨w0,F0,bs,G⟩ w) N m ⟨w0,F0,bs,G⟩)(h2:J P y Q N ((t,v)::m) ⟨w0,F0,bs,G⟩):J P (.seq x y) Q N m ⟨w0,F0,bs,G⟩:=QAB _ _ _ h1 h2
theorem X3{t:Nat}{v:Value}(he:LS l m)(ht:look l t=some v)(hb:bs.Sublist bs1)(hg:∀F,G1 F->G F):Fin (XM λa w=>JO N ((t,v)::m) a/\St ⟨w0,F0,bs,G⟩ w) .normal N l ⟨w0,F0,bs1,G1⟩:=λa w ha hw =>
 ⟨⟨ha.size,ha.df,λi u hi=>by
  simp only[look]at hi;cases hb:Nat.beq t i with
  |true=>rw[hb]at hi;have:t=i:=(by simpa using hb);subst this;exact ha.get _ _ (by rw[ht];simpa using hi)
  |false=>rw[hb]at hi;exact ha.get _ _ (he.look (by simpa using hi))⟩,hw.imp hb hg⟩
end
section
variable{P:Program}{N:Nat}{m:Sl}{S:World->Prop}{ty:TypeId}{v:Value}
theorem Qh{c:Operand}(hc:ev m c=some (.bool true))(hx:ev m x=some v)(hy:(ev m y).isSome=true):Qt P N m S (.pick c x y) ty v:=by
 obtain⟨u,hu⟩:=Option.isSome_iff_exists.1 hy;exact xG hc hx hu
theorem Qi{c:Operand}(hc:ev m c=some (.bool false))(hx:(ev m x).isSome=true)(hy:ev m y=some v):Qt P N m S (.pick c x y) ty v:=by
 obtain⟨u,hu⟩:=Option.isSome_iff_exists.1 hx;exact xG hc hu hy
theorem QAk{a:Int}(hx:ev m x=some (.int .i64 a))(hy:ev m y=some (.int .i64 1))(h:0<=a):Qt P N m S (.binOp .and T x y yT) ty (.int .i64 (a%2)):=λs w _ _ _ _ ha _=>by
 have e:IntKind.i64.wrap (((BitVec.ofInt 64 a &&& BitVec.ofInt 64 1).toNat:Nat):Int)=a%2:=by
  have h1:(BitVec.ofInt 64 (1:Int)).toNat=1:=rfl;rw[BitVec.toNat_and,h1,Nat.and_one_is_mod,BitVec.toNat_ofInt];have h2:((((a%((2^64:Nat):Int)).toNat%2:Nat)):Int)=a%2:=by
   have h3:(((2^64:Nat):Int))=18446744073709551616:=wv;rw[h3];omega
  rw[h2];exact Ag O
 have h1:BitVec.ofInt 64 (1:Int)=1#64:=rfl;rw[h1]at e;simp[execOp,ha.ev hx,ha.ev hy,eqGuard,binOp,Op.intBits,IntKind.bits];exact e
theorem xC{k:IntKind}{a:Int}(hx:ev m x=some (.int .i64 a))(hy:ev m y=some (.int k 1)):Qt P N m S (.binOp .shr T x y yT) ty (.int .i64 (a/2)):=λs w _ _ _ _ ha _=>by
 have e:a.fdiv 2=a/2:=Int.fdiv_eq_ediv_of_nonneg a wv;simp[execOp,ha.ev hx,ha.ev hy,eqGuard,binOp,Op.shift,IntKind.bits,e]
theorem Wk{n c:Nat}(hx:ev m x=some (.slice q n c))(hy:ev m y=some (.slice none 0 0))(hT:Ga P T=some e):Qt P N m S (.binOp .eql T x y yT) ty (.bool q.isNone):=λa w _ _ _ _ ha _=>by
 have:=Lib.run_eql_slice_nil (P:=P) w T e q n c 0 0 (JR hT);simp[execOp,ha.ev hx,ha.ev hy,eqGuard,this]
theorem Jr{parts:Array (Nat×Operand)}{res:List Value}(hp:WQ m parts.toList=some ps)(hl:YV P T=some pl)(hz:J1 P T=some z)(hb:Dx pl ps z res):Qt P N m S (.build T parts) ty (.agg res.toArray):=λa w _ _ _ _ ha _=>by
 have hbt:P.built T ps=some res.toArray:=by
  unfold YV at hl;unfold J1 at hz;unfold Program.built;cases hi:P.info? T with
  |none=>rw[hi]at hl;cases hl
  |some i =>
   rw[hi]at hl hz;cases hu:P.underlying T with
   |none=>rw[hu]at hl;cases hl
   |some d =>
    rw[hu]at hl;cases d with
    |struct fields =>
     dsimp only at hl hz ⊢;cases hzz:i.zero with
     |none=>rw[hzz]at hz;cases hz
     |some zv =>
      rw[hzz]at hz;simp only[Option.map_some,Option.some.injEq]at hz;rw[hl];have:=hb.fill;rw[<-hz]at this;simpa using this
    |_=>cases hl
 have e1:(parts.map λ(i,x)=>(i,a.eval x)).toList=ps:=by simpa using ha.parts hp
 have:=run_build (P:=P) w T (parts.map λ(i,x)=>(i,a.eval x)) _ (by rw[e1];exact hbt);simp only[execOp,Sem.run_bind,this,Result.andThen_ok,Sem.run_pure]
end
end
def QJP(n:Nat)(l:Sl):Bool:=(l.take n).all λkv=>(look (l.drop n) kv.1).isNone
theorem exd(n:Nat){l m:Sl}(hb:QJP n l=true)(hm:l.drop n=m):LS l m:=by
 subst hm;unfold QJP at hb;have key:∀(a m:Sl),(a.all λkv=>(look m kv.1).isNone)=true->LS (a++m) m:=by
  intro a m
  induction a with
  |nil=>intro _;exact .refl
  |cons x a ih =>
   intro h;rw[List.all_cons,Bool.and_eq_true]at h;exact .cons h.1 (ih h.2)
 have:=key _ _ hb
 rwa [List.take_append_drop]at this
theorem QL3[Dr]{P:Program}{N:Nat}{m:Sl}{w0:World}{F0:Gs}{fn:Func}{val:Unit->Value}{fact:Unit->Gs->Prop}{bs:List (Nat×Obj)}{G:Gs->Prop}{t:Tmp}{v:Value}(hrs:fn.results=[ResultVar.tmp t].toArray)(h:look m t=some v)(hv:val ()=v)(hg:∀F,G F->fact () F):Fin (df:=KB) (bodyPost P fn (Mb w0 F0 val fact)) .ret N m ⟨w0,F0,bs,G⟩ :=
 QM () hrs (.tmp h .nil) hv hg
def Gf.u1{x0:Nat×Obj}{r:List (Nat×Obj)}:Gf (x0::(b,o)::r) b o (λo'=>x0::(b,o')::r) (x0::r):=.there (.here)
def Gf.u2{x0:Nat×Obj}{r:List (Nat×Obj)}:Gf (x0::x1::(b,o)::r) b o (λo'=>x0::x1::(b,o')::r) (x0::x1::r):=.there (.there (.here))
def Gf.u3{x0 x2:Nat×Obj}{r:List (Nat×Obj)}:Gf (x0::x1::x2::(b,o)::r) b o (λo'=>x0::x1::x2::(b,o')::r) (x0::x1::x2::r):=.there (.there (.there (.here)))
def Gf.u4{x0 x2 x3:Nat×Obj}{r:List (Nat×Obj)}:Gf (x0::x1::x2::x3::(b,o)::r) b o (λo'=>x0::x1::x2::x3::(b,o')::r) (x0::x1::x2::x3::r):=.there (.there (.there (.there (.here))))
def Gf.u5{x0 x2 x3 x4:Nat×Obj}{r:List (Nat×Obj)}:Gf (x0::x1::x2::x3::x4::(b,o)::r) b o (λo'=>x0::x1::x2::x3::x4::(b,o')::r) (x0::x1::x2::x3::x4::r):=.there (.there (.there (.there (.there (.here)))))
def Gf.u6{x0 x2 x3 x4 x5:Nat×Obj}{r:List (Nat×Obj)}:Gf (x0::x1::x2::x3::x4::x5::(b,o)::r) b o (λo'=>x0::x1::x2::x3::x4::x5::(b,o')::r) (x0::x1::x2::x3::x4::x5::r):=.there (.there (.there (.there (.there (.there (.here))))))
theorem wN{a b:Int}(h:a=b:=by omega):some (Value.int .i64 a)=some (Value.int .i64 b):=congrArg (λz:Int=>some (Value.int .i64 z)) h
def wO{t:Tmp}{v:Value}(h:look m t=some v):Dq P m bs [.tmp t] [v]:=.tmp h .nil
def wP{t t':Tmp}{v v':Value}(h:look m t=some v)(h':look m t'=some v'):Dq P m bs [.tmp t,.tmp t'] [v,v']:=.tmp h (.tmp h' .nil)
theorem wQ{u v a b x y:Value}(hf:pl=[(0,1),(1,1)])(ha:u.cells=[a].toArray)(hb:v.cells=[b].toArray):Dx pl [(0,u),(1,v)] [x,y] [a,b]:=by subst hf;exact .cons (vs:=[a]) I ha rfl .h1 (.cons (vs:=[b]) I hb rfl (.skip .h1) .nil)
theorem wH[Dr][df:Df]{P:Program}{N:Nat}{m:Sl}{w0:World}{F0:Gs}{bs:List (Nat×Obj)}{G:Gs->Prop}{T T' ty:TypeId}{x:Operand}{b:Nat}{l:List Value}{u0 u1:Value}{fr:Nat×Nat}{f:Obj->List (Nat×Obj)}(h:ev m x=some (.pointer (some ⟨b,0,none⟩)))(ht:Zd P T=some (true,2))(ho:Own bs b (.cells (u0::u1::l).toArray T' fr) f):Qt P N m (St ⟨w0,F0,bs,G⟩) (.load T x) ty (.agg [u0,u1].toArray):=QX (vs:=[u0,u1]) h ht ho .h2 rfl
theorem wI[Dr][df:Df]{P:Program}{N:Nat}{m:Sl}{w0:World}{F0:Gs}{bs:List (Nat×Obj)}{G:Gs->Prop}{T T' ty:TypeId}{x:Operand}{b:Nat}{l:List Value}{u0 u1 u2:Value}{fr:Nat×Nat}{f:Obj->List (Nat×Obj)}(h:ev m x=some (.pointer (some ⟨b,0,none⟩)))(ht:Zd P T=some (true,3))(ho:Own bs b (.cells (u0::u1::u2::l).toArray T' fr) f):Qt P N m (St ⟨w0,F0,bs,G⟩) (.load T x) ty (.agg [u0,u1,u2].toArray):=QX (vs:=[u0,u1,u2]) h ht ho .h3 rfl
theorem wJ[Dr][df:Df]{P:Program}{N:Nat}{m:Sl}{w0:World}{F0:Gs}{bs:List (Nat×Obj)}{G:Gs->Prop}{T T' ty:TypeId}{x:Operand}{b:Nat}{l:List Value}{u0 u1 u2 u3:Value}{fr:Nat×Nat}{f:Obj->List (Nat×Obj)}(h:ev m x=some (.pointer (some ⟨b,0,none⟩)))(ht:Zd P T=some (true,4))(ho:Own bs b (.cells (u0::u1::u2::u3::l).toArray T' fr) f):Qt P N m (St ⟨w0,F0,bs,G⟩) (.load T x) ty (.agg [u0,u1,u2,u3].toArray):=QX (vs:=[u0,u1,u2,u3]) h ht ho .h4 rfl
theorem wL[Dr][df:Df]{P:Program}{N:Nat}{m:Sl}{w0:World}{F0:Gs}{bs:List (Nat×Obj)}{G:Gs->Prop}{T T' ty:TypeId}{x:Operand}{b:Nat}{l:List Value}{u0 u1 u2 u3 u4 u5 u6 u7:Value}{fr:Nat×Nat}{f:Obj->List (Nat×Obj)}(h:ev m x=some (.pointer (some ⟨b,0,none⟩)))(ht:Zd P T=some (true,8))(ho:Own bs b (.cells (u0::u1::u2::u3::u4::u5::u6::u7::l).toArray T' fr) f):Qt P N m (St ⟨w0,F0,bs,G⟩) (.load T x) ty (.agg [u0,u1,u2,u3,u4,u5,u6,u7].toArray):=QX (vs:=[u0,u1,u2,u3,u4,u5,u6,u7]) h ht ho .h8 rfl
theorem wM[Dr][df:Df]{P:Program}{N:Nat}{m:Sl}{w0:World}{F0:Gs}{bs:List (Nat×Obj)}{G:Gs->Prop}{T T' ty:TypeId}{x:Operand}{b:Nat}{l:List Value}{a0 a1 a2 a3 u0 u1 u2 u3:Value}{fr:Nat×Nat}{f:Obj->List (Nat×Obj)}(h:ev m x=some (.pointer (some ⟨b,4,none⟩)))(ht:Zd P T=some (true,4))(ho:Own bs b (.cells (a0::a1::a2::a3::u0::u1::u2::u3::l).toArray T' fr) f):Qt P N m (St ⟨w0,F0,bs,G⟩) (.load T x) ty (.agg [u0,u1,u2,u3].toArray):=QX (vs:=[u0,u1,u2,u3]) h ht ho (.skip (.skip (.skip (.skip .h4)))) I

section
open Go Go.RowKit
section
variable[Dr][df:Df]
inductive AFr where
 |th (y:Code) | bl (id:Nat)
inductive AG where
 |j (c:Code) | s (ops:Array Oper) (l:List Oper) | f (e:Exit)
variable{P:Program}{Q:Exit->Act->World->Prop}{N:Nat}{m m':Sl}{E:Env}
@[reducible] def wC (P:Program) (Q:Exit->Act->World->Prop):List AFr->Exit->Act->World->Prop
 |[]=>Q
 |.th y::r=>Exit.then (y.wp P (wC P Q r)) (wC P Q r)
 |.bl id::r=>Exit.inBlock id (wC P Q r)
@[reducible] def wD (P:Program) (Q:Exit->Act->World->Prop) (N:Nat) (E:Env):AG->List AFr->Sl->Prop
 |.j c,st,m=>J P c (wC P Q st) N m E
 |.s ops l,st,m=>JS P ops (wC P Q st) l N m E
 |.f e,st,m=>Fin (wC P Q st) e N m E
def wE(m:Sl):Op->Option Value
 |.move x=>ev m x
 |.assign x=>ev m x
 |.binOp op _ x y _=>(ev m x).bind λvx=>(ev m y).bind λvy=>yL op vx vy
 |.pick c x y=>match ev m c with
  |some (.bool true)=>if(ev m y).isSome then ev m x else none
  |some (.bool false)=>if(ev m x).isSome then ev m y else none
  |_=>none
 |.extract x i=>match ev m x with
  |some (.tuple vs)=>vs[i]?
  |_=>none
 |_=>none
def wF(N:Nat):AG->List AFr->Sl->Option (AG×List AFr×Sl)
 |.j (.seq x y),st,m=>some (.j x,.th y::st,m)
 |.j (.region _ ⟨l⟩ false),st,m=>some (.s l.toArray l,st,m)
 |.j (.block id c),st,m=>some (.j c,.bl id::st,m)
 |.j .skip,st,m=>some (.f .normal,st,m)
 |.j .ret,st,m=>some (.f .ret,st,m)
 |.j (.exit id),st,m=>some (.f (.exit id),st,m)
 |.f .normal,.th y::st,m=>some (.j y,st,m)
 |.f .normal,.bl _::st,m=>some (.f .normal,st,m)
 |.f (.exit i),.th _::st,m=>some (.f (.exit i),st,m)
 |.f (.exit i),.bl id::st,m=>match Nat.beq i id with
  |true=>some (.f .normal,st,m)
  |false=>some (.f (.exit i),st,m)
 |.f .ret,_::st,m=>some (.f .ret,st,m)
 |.s _ [],st,m=>some (.f .normal,st,m)
 |.s ops (⟨some d,o,_,_,_,none⟩::l),st,m=>match wE m o,Jq N (some d)with
  |some v,true=>some (.s ops l,st,(d,v)::m)
  |_,_=>none
 |.s ops (⟨d,o,ty,pos,aft,some (g,want)⟩::l),st,m=>match ((ops[g]?).bind (·.dst)).bind (look m),Jq N d with
  |some (.bool b),true=>match Bool.xor b want with
   |false=>some (.s ops (⟨d,o,ty,pos,aft,none⟩::l),st,m)
   |true=>some (.s ops l,st,upd m d undef)
  |_,_=>none
 |_,_,_=>none
def wG(N:Nat):Nat->AG->List AFr->Sl->Option (AG×List AFr×Sl)
 |0,g,st,m=>some (g,st,m)
 |n+1,g,st,m=>match wF N g st m with
  |some (g',st',m')=>wG N n g' st' m'
  |none=>none
theorem QJc{S:World->Prop}{o:Op}{v:Value}(h:wE m o=some v):Qt P N m S o ty v:=by
 unfold wE at h;split at h
 ·exact QD h
 ·exact QE h
 ·obtain⟨vx,h1,h2⟩:=Option.bind_eq_some_iff.1 h;obtain⟨vy,h3,h4⟩:=Option.bind_eq_some_iff.1 h2;exact QR h1 h3 h4
 ·split at h
  ·rename_i hc;split at h
   ·rename_i hy;exact Qh hc h hy
   cases h
  ·rename_i hc;split at h
   ·rename_i hy;exact Qi hc hy h
   cases h
  cases h
 ·split at h
  ·rename_i hx;exact QU hx h
  cases h
 cases h
theorem QIG{g g':AG}{st st':List AFr}(h:wF N g st m=some (g',st',m'))(k:wD P Q N E g' st' m'):wD P Q N E g st m:=by
 unfold wF at h;split at h
 ·cases h;exact QG k
 ·cases h;exact QB k
 ·cases h;exact QO k
 ·cases h;exact QK k
 ·cases h;exact QT k
 ·cases h;exact Y5 k
 ·cases h;exact QC k
 ·cases h;exact Qa k
 ·cases h;exact XD k
 ·split at h
  ·rename_i he;cases h;have he:=Nat.eq_of_beq_eq_true he;subst he;exact XE k
  rename_i he;cases h;exact J0 he k
 ·rename_i fr _;cases h;cases fr with
  |th y=>exact T9 k
  |bl id=>exact MF k
 ·cases h;exact QF k
 ·split at h
  ·rename_i hv hd;cases h;exact QA (QJc hv) k hd
  cases h
 ·split at h
  ·rename_i hb hd;obtain⟨t,h1,h2⟩:=Option.bind_eq_some_iff.1 hb;split at h
   ·rename_i hx;cases h;exact QBj h1 h2 (λ_=>k) (λe=>by subst e;simp at hx) hd
   rename_i hx;cases h;exact QBj h1 h2 (λe=>by subst e;simp at hx) (λ_=>k) hd
  cases h
 cases h
theorem Cv:∀(n:Nat) {g g':AG} {st st':List AFr} {m m':Sl},wG N n g st m=some (g',st',m')->wD P Q N E g' st' m'->wD P Q N E g st m
 |0,g,g',st,st',m,m',h,k=>by cases h;exact k
 |n+1,g,g',st,st',m,m',h,k=>by
  unfold wG at h;split at h
  ·rename_i h1;exact QIG h1 (Cv n h k)
  cases h
variable(n:Nat){g':AG}{st':List AFr}
theorem wA(h:wG N n (.j c) [] m=some (g',st',m'))(k:wD P Q N E g' st' m'):J P c Q N m E:=Cv (g:=.j c) (st:=[]) n h k
theorem wB{l:List Oper}(h:wG N n (.s ops l) [] m=some (g',st',m'))(k:wD P Q N E g' st' m'):JS P ops Q l N m E:=Cv (g:=.s ops l) (st:=[]) n h k
theorem QLj{y:Code}(h:wG N n (.j c) [.th y] m=some (g',st',m'))(k:wD P Q N E g' st' m'):J P c (Exit.then (y.wp P Q) Q) N m E:=Cv (g:=.j c) (st:=[.th y]) n h k
theorem QLi{l:List Oper}{y:Code}(h:wG N n (.s ops l) [.th y] m=some (g',st',m'))(k:wD P Q N E g' st' m'):JS P ops (Exit.then (y.wp P Q) Q) l N m E:=Cv (g:=.s ops l) (st:=[.th y]) n h k
theorem QLk{y:Code}(h:wG N n (.f .normal) [.th y] m=some (g',st',m'))(k:wD P Q N E g' st' m'):Fin (Exit.then (y.wp P Q) Q) .normal N m E:=Cv (g:=.f .normal) (st:=[.th y]) n h k
end
end
theorem QZ:Zd prog 3=some (false,1):=wu
theorem Hj:J1 prog 3=some [.int .i64 0]:=wu
theorem Ws:ZM prog 3=some 8:=wu
theorem k_3:SX prog 3=some .i64:=wu
theorem vJ:(prog.underlying 3).isSome=true:=wu
theorem Y9:Zd prog 4=some (false,1):=wu
theorem z_4:J1 prog 4=some [.bool false]:=wu
theorem QJa:ZM prog 4=some 1:=wu
theorem QDe:Zd prog 5=some (false,1):=wu
theorem z_5:J1 prog 5=some [.int .u8 0]:=wu
theorem QIE:ZM prog 5=some 1:=wu
theorem QHC:(prog.underlying 5).isSome=true:=wu
theorem YZ:Zd prog 9=some (false,1):=wu
theorem z_9:J1 prog 9=some [.string .empty]:=wu
theorem QEp:ZM prog 9=some 16:=wu
theorem XO:Bj prog 9=true:=wu
theorem JP:Zd prog 45=some (false,1):=wu
theorem yk:J1 prog 45=some [.string .empty]:=wu
theorem kj:ZM prog 45=some 16:=wu
theorem Wd:Bj prog 45=true:=wu
theorem Ry:Zd prog 54=some (true,2):=wu
theorem yj:J1 prog 54=some [.string .empty,.string .empty]:=wu
theorem QEq:ZM prog 54=some 32:=wu
theorem QBz:YV prog 54=some [(0,1),(1,1)]:=wu
theorem Gv:Zd prog 32=some (false,1):=wu
theorem UJ:J1 prog 32=some [.int .i64 0]:=wu
theorem Rz:Zd prog 39=some (false,1):=wu
theorem je:Ga prog 39=some 54:=wu
theorem KR:Zd prog 29=some (false,1):=wu
theorem YI:Ga prog 29=some 45:=wu
theorem F4:Ga prog 48=some 68:=wu
theorem YY:Zd prog 49=some (false,1):=wu
theorem vB:J1 prog 49=some [.slice none 0 0]:=wu
theorem yJ:ZM prog 49=some 24:=wu
theorem Xk:Ga prog 49=some 68:=wu
theorem GM:Zd prog 38=some (false,1):=wu
theorem KW:Ga prog 38=some 49:=wu
theorem Q5:Zd prog 23=some (false,1):=wu
theorem Qd:Ga prog 23=some 3:=wu
theorem Xq:Zd prog 68=some (true,2):=wu
theorem Gp:J1 prog 68=some [.string .empty,.slice none 0 0]:=wu
theorem FJ:ZM prog 68=some 40:=wu
theorem Uz:YV prog 68=some [(0,1),(1,1)]:=wu
theorem GA:Y4 prog 68 0=some (0,45):=wu
theorem Ka:Y4 prog 68 1=some (1,23):=wu
theorem GL:Zd prog 73=some (false,1):=wu
theorem VZ:Ga prog 73=some 201:=wu
theorem Qm:Zd prog 75=some (true,2):=wu
theorem GZ:J1 prog 75=some [.int .i64 0,.slice none 0 0]:=wu
theorem QEB:YV prog 75=some [(0,1),(1,1)]:=wu
theorem Pa:Y4 prog 75 0=some (0,3):=wu
theorem EM:Y4 prog 75 1=some (1,73):=wu
theorem JA:Zd prog 77=some (true,4):=wu
theorem VU:J1 prog 77=some [.int .i64 0,.slice none 0 0,.int .i64 0,.slice none 0 0]:=wu
theorem QCN:ZM prog 77=some 64:=wu
theorem Uy:YV prog 77=some [(0,2),(2,2)]:=wu
theorem Yw:Y4 prog 77 0=some (0,75):=wu
theorem Yv:Y4 prog 77 1=some (2,75):=wu
theorem Q2:Zd prog 164=some (true,2):=wu
theorem ZE:J1 prog 164=some [.bool false,.slice none 0 0]:=wu
theorem xP:YV prog 164=some [(0,1),(1,1)]:=wu
theorem Yx:Y4 prog 164 0=some (0,4):=wu
theorem XV:Y4 prog 164 1=some (1,23):=wu
theorem Yr:Zd prog 107=some (false,1):=wu
theorem UK:J1 prog 107=some [.slice none 0 0]:=wu
theorem Py:ZM prog 107=some 24:=wu
theorem ZI:Ga prog 107=some 160:=wu
theorem XQ:Zd prog 160=some (true,5):=wu
theorem Kz:J1 prog 160=some [.int .i64 0,.slice none 0 0,.int .i64 0,.slice none 0 0,.slice none 0 0]:=wu
theorem yK:ZM prog 160=some 88:=wu
theorem U2:YV prog 160=some [(0,4),(4,1)]:=wu
theorem WC:Y4 prog 160 0=some (0,77):=wu
theorem K9:Y4 prog 160 1=some (4,23):=wu
theorem VV:Zd prog 102=some (false,1):=wu
theorem K3:Ga prog 102=some 107:=wu
theorem kA:Zd prog 72=some (false,1):=wu
theorem QIk:J1 prog 72=some [.slice none 0 0]:=wu
theorem We:Ga prog 72=some 77:=wu
theorem Va:Ga prog 158=some 32:=wu
theorem OG:SX prog 261=some .u64:=wu
theorem QAN:(prog.underlying 261).isSome=true:=wu
theorem Ns:Zd prog 201=some (false,1):=wu
theorem QDW:J1 prog 201=some [.int .u64 0]:=wu
theorem Nr:Zd prog 37=some (false,1):=wu
theorem Ma:Ga prog 37=some 9:=wu
theorem D8:Zd prog 206=some (false,1):=wu
theorem Gw:Zd prog 207=some (false,1):=wu
theorem IM:Ga prog 207=some 5:=wu
theorem pk:J1 prog 209=some [.pointer none,.slice none 0 0]:=wu
theorem Ti:Y4 prog 209 0=some (0,206):=wu
theorem Mx:Y4 prog 209 1=some (1,207):=wu
theorem mixed:prog.follows .mixedOrders=true:=wu
end Go.Proofs.YteldggljlnakmaaGreatDoor
namespace Ig
def dv(b:Int):List Int->Int
 |[]=>0
 |x::l=>x+b*dv b l
def DG(b:Int)(l:List Int):Prop:=∀x∈l,0<=x/\x<b
def NZ(l:List Int):Prop:=l.getLast?≠some 0
@[simp] theorem Tl (b:Int):dv b []=0:=rfl
@[simp] theorem Yy (b x:Int) (l:List Int):dv b (x::l)=x+b*dv b l:=rfl
theorem ZW(b:Int)(l m:List Int):dv b (l++m)=dv b l+b^l.length*dv b m:=by
 induction l with
 |nil=>simp
 |cons x l ih=>simp only[List.cons_append,Yy,ih,List.length_cons];rw[Int.pow_succ];grind
theorem XW(b x:Int)(l:List Int):dv b (l++[x])=dv b l+b^l.length*x:=by
 rw[ZW];simp
theorem DG.nil(b:Int):DG b []:=by intro x hx;cases hx
theorem DG.cons{b x:Int}{l:List Int}(h0:0<=x)(h1:x<b)(h:DG b l):DG b (x::l):=by
 intro y hy;rcases List.mem_cons.1 hy with rfl | hy
 ·exact⟨h0,h1⟩
 exact h y hy
def DG.head{b x:Int}{l:List Int}(h:DG b (x::l)):0<=x/\x<b:=h x w9
def DG.tail{b x:Int}{l:List Int}(h:DG b (x::l)):DG b l:=λy hy=>h y (by simp[hy])
def DG.append{b:Int}{l m:List Int}(h:DG b l)(k:DG b m):DG b (l++m):=by
 intro x hx;rcases List.mem_append.1 hx with hx | hx
 ·exact h x hx
 exact k x hx
def DG.left{b:Int}{l m:List Int}(h:DG b (l++m)):DG b l:=λx hx=>h x (by simp[hx])
def DG.right{b:Int}{l m:List Int}(h:DG b (l++m)):DG b m:=λx hx=>h x (by simp[hx])
def DG.take{b:Int}{l:List Int}(h:DG b l)(n:Nat):DG b (l.take n):=λx hx=>h x (List.mem_of_mem_take hx)
def DG.drop{b:Int}{l:List Int}(h:DG b l)(n:Nat):DG b (l.drop n):=λx hx=>h x (List.mem_of_mem_drop hx)
def DG.replicate{b:Int}(hb:0<b)(n:Nat):DG b (List.replicate n 0):=by
 intro x hx;have:=List.eq_of_mem_replicate hx;omega
def DG.getD{b:Int}{l:List Int}(hb:0<b)(h:DG b l)(i:Nat):0<=l.getD i 0/\l.getD i 0<b:=by
 by_cases hi:i<l.length
 ·have:l.getD i 0=l[i]:=by simp[List.getD,hi]
  rw[this];exact h _ (List.getElem_mem hi)
 have:l.getD i 0=0:=by simp[List.getD,hi]
 omega
def DG.set{b:Int}{l:List Int}(h:DG b l)(i:Nat){x:Int}(h0:0<=x)(h1:x<b):DG b (l.set i x):=by
 intro y hy;rcases List.mem_or_eq_of_mem_set hy with hy | rfl
 ·exact h y hy
 exact⟨h0,h1⟩
def pow_pos{b:Int}(hb:0<b)(n:Nat):0<b^n:=Int.pow_pos hb
def YR{b:Int}(hb:1<=b){m n:Nat}(h:m<=n):b^m<=b^n:=by
 obtain⟨k,rfl⟩:=Nat.exists_eq_add_of_le h;rw[Int.pow_add];have h1:=pow_pos (b:=b) O m;have h2:=pow_pos (b:=b) O k;have h3:b^m*1<=b^m*b^k:=Int.mul_le_mul_of_nonneg_left O O;omega
def Qx{b:Int}(hb:0<b):∀ {l:List Int},DG b l->0<=dv b l
 |[],_=>w9
 |x::l,h=>by
  have:=Qx hb h.tail;have:=Int.mul_nonneg (Int.le_of_lt hb) this;have:=h.head;simp;omega
def Z9{b:Int}(hb:0<b):∀ {l:List Int},DG b l->dv b l<b^l.length
 |[],_=>w9
 |x::l,h=>by
  have h1:=Z9 hb h.tail;have h2:=h.head;have h3:b*(dv b l+1)<=b*b^l.length:=Int.mul_le_mul_of_nonneg_left O (Int.le_of_lt hb);rw[List.length_cons,Int.pow_succ,Int.mul_comm (b^l.length) b];rw[Int.mul_add]at h3;simp;omega
def Ph(b:Int)(n:Nat):dv b (List.replicate n 0)=0:=by
 induction n with
 |zero=>rfl
 |succ n ih=>simp[List.replicate_succ,ih]
def Kb(b:Int)(l:List Int)(n:Nat)(h:n<=l.length):dv b l=dv b (l.take n)+b^n*dv b (l.drop n):=by
 have:=ZW b (l.take n) (l.drop n);rw[List.take_append_drop,List.length_take,Nat.min_eq_left h]at this;exact this
theorem Wb{α:Type}(l:List α)(n:Nat)(h:n<l.length):l.take (n+1)=l.take n++[l[n]]:=by
 rw[List.take_succ_eq_append_getElem h]
theorem GC(b:Int)(l:List Int)(n:Nat)(h:n<l.length):dv b (l.take (n+1))=dv b (l.take n)+b^n*l[n]:=by
 rw[Wb l n h,XW,List.length_take,Nat.min_eq_left O]
def De{b:Int}(hb:0<b){l:List Int}(h:DG b l)(hn:NZ l)(hl:l≠[]):b^(l.length-1)<=dv b l:=by
 obtain⟨m,x,rfl⟩:∃m x,l=m++[x]:=⟨l.dropLast,l.getLast hl,(List.dropLast_concat_getLast hl).symm⟩;rw[XW];have h1:x≠0:=by intro e;subst e;exact hn w9
 have h2:=h x w9;have h3:=Qx hb h.left;have h4:=pow_pos hb m.length;have h5:b^m.length*1<=b^m.length*x:=Int.mul_le_mul_of_nonneg_left O O;simp;omega
def Q3(l:List Int):List Int:=(l.reverse.dropWhile (·==0)).reverse
def YU(l:List Int):Q3 (l++[0])=Q3 l:=by simp[Q3]
def Wx(l:List Int){x:Int}(h:x≠0):Q3 (l++[x])=l++[x]:=by simp[Q3,h]
def R4:Q3 []=[]:=rfl
def IL(l:List Int):l=[]\/∃m x,l=m++[x]:=by
 by_cases hl:l=[]
 ·exact .inl hl
 exact .inr ⟨l.dropLast,l.getLast hl,(List.dropLast_concat_getLast hl).symm⟩
def Ud{P:List Int->Prop}(h0:P [])(h1:∀l x,P l->P (l++[x]))(l:List Int):P l:=by
 have:∀m:List Int,P m.reverse:=by
  intro m;induction m with
  |nil=>exact h0
  |cons x m ih=>rw[List.reverse_cons];exact h1 _ _ ih
 simpa using this l.reverse
def Nv(l:List Int):∃n,l=Q3 l++List.replicate n 0:=by
 induction l using Ud with
 |h0=>exact⟨0,rfl⟩
 |h1 l x ih =>
  by_cases hx:x=0
  ·subst hx;obtain⟨n,hn⟩:=ih;refine⟨n+1,?_⟩;rw[YU,List.replicate_succ',<-List.append_assoc,<-hn]
  exact⟨0,by rw[Wx l hx];simp⟩
def Bh(l:List Int):Q3 l=l.take (Q3 l).length:=by
 obtain⟨n,hn⟩:=Nv l;have:l.take (Q3 l).length=(Q3 l++List.replicate n 0).take (Q3 l).length:=by rw[<-hn]
 rw[this];simp
def Xn(l:List Int):(Q3 l).length<=l.length:=by
 obtain⟨n,hn⟩:=Nv l;have:=congrArg List.length hn;simp at this;omega
def XB(b:Int)(l:List Int):dv b (Q3 l)=dv b l:=by
 obtain⟨n,hn⟩:=Nv l;have:dv b l=dv b (Q3 l++List.replicate n 0):=by rw[<-hn]
 rw[this,ZW,Ph];simp
def Xi(l:List Int):NZ (Q3 l):=by
 induction l using Ud with
 |h0=>simp[R4,NZ]
 |h1 l x ih =>
  by_cases hx:x=0
  ·subst hx;rw[YU];exact ih
  rw[Wx l hx];simp[NZ,hx]
def DG.Q3{b:Int}{l:List Int}(h:DG b l):DG b (Q3 l):=by rw[Bh];exact h.take _
def Pj{b:Int}(hb:0<b):∀ {l m:List Int},DG b l->DG b m->l.length=m.length->dv b l=dv b m->l=m
 |[],[],_,_,_,_=>rfl
 |x::l,y::m,h,k,hl,e=>by
  have h1:=h.head;have h2:=k.head;simp only[Yy]at e;have e1:x=y:=by
   have a1:(x+b*dv b l)%b=x:=by rw[Int.add_mul_emod_self_left];exact Int.emod_eq_of_lt h1.1 h1.2
   have a2:(y+b*dv b m)%b=y:=by rw[Int.add_mul_emod_self_left];exact Int.emod_eq_of_lt h2.1 h2.2
   rw[<-a1,<-a2,e]
  subst e1;have e2:b*dv b l=b*dv b m:=O;have e3:=Int.eq_of_mul_eq_mul_left O e2;rw[Pj hb h.tail k.tail (by simpa using hl) e3]
def Xg{b:Int}(hb:1<b){l m:List Int}(h:DG b l)(k:DG b m)(km:NZ m)(hl:l.length<m.length):dv b l<dv b m:=by
 have h1:=Z9 O h;have h2:=De O k km (by intro e;subst e;simp at hl);have h3:b^l.length<=b^(m.length-1):=YR O O;omega
def zu{b:Int}(hb:1<b){l m:List Int}(h:DG b l)(k:DG b m)(hn:NZ l)(kn:NZ m)(e:dv b l=dv b m):l=m:=by
 refine Pj O h k ?_ e;rcases Nat.lt_trichotomy l.length m.length with g | g | g
 ·have:=Xg hb h k kn g;omega
 ·exact g
 have:=Xg hb k h hn g;omega
def KJ{b:Int}(hb:1<b){l:List Int}(h:DG b l)(hn:NZ l):dv b l=0↔l=[]:=by
 constructor
 ·intro e;exact zu hb h (DG.nil b) hn (by simp[NZ]) (by simpa using e)
 rintro rfl;rfl
def Rt(x:Int):Int:=if x<0 then -1 else if x=0 then 0 else 1
def Zb(x y:Int):Int:=if x<y then -1 else if x=y then 0 else 1
def yG(x y:Int):Zb x y=Rt (x-y):=by unfold Zb Rt;split<;>split<;>(try split)<;>omega
def I8{b:Int}(hb:0<b){l m:List Int}{x y:Int}(h:DG b l)(k:DG b m)(hl:l.length=m.length)(hxy:x<y):
  dv b (l++[x])<dv b (m++[y]):=by
 rw[XW,XW,hl];have h1:=Z9 hb h;have h2:=Qx hb k;rw[hl]at h1;have h3:b^m.length*(x+1)<=b^m.length*y:=Int.mul_le_mul_of_nonneg_left O (Int.le_of_lt (pow_pos hb _));rw[Int.mul_add]at h3;omega
def To{b:Int}(hb:0<b){l m:List Int}(h:DG b l)(k:DG b m)(hl:l.length=m.length)(n:Nat)(hn:n<l.length)
  (hs:l.drop (n+1)=m.drop (n+1)) (hxy:l[n]<m[n]' O):dv b l<dv b m:=by
 rw[Kb b l (n+1) O,Kb b m (n+1) O,hs,Wb l n hn,Wb m n O];have:=I8 hb (h.take n) (k.take n) tA hxy;omega
end Ig
namespace Go.Proofs.YteldggljlnakmaaGreatDoor
variable{w w' w0:World}{B E N b bytes i j k off s:Nat}{a:Act}{c:Code}{o:Obj}{ds la u:List Int}{A0 A1 A2 A3 A4 A5 A6 A7 A8 A9 α γ ι:Type}{T T' e ty yT:TypeId}{args cs l l' news vs z:List Value}{ops:Array Oper}{Q Q':Exit->Act->World->Prop}{g:Bool}{K:Act->World->Prop}{x y:Operand}{bs bs' bs0:List (Nat×Obj)}{q:Option Addr}{P:Program}{f:Obj->List (Nat×Obj)}{fn:Func}{aft:Array Edge}{x1:Nat×Obj}{v1 v3 v4 v5 x2 x3 x4 x5 x6 x7 x8:Value}{ps:List (Nat×Value)}{rs:List ResultVar}{k':IntKind}{ob:List _}{pl:List (Nat×Nat)}{h:Int}{F F0:Gs}{G G':Gs->Prop}{m:Sl}
open Go.RowKit Ig
def W:Int:=18446744073709551616
theorem GH:W=18446744073709551616:=rfl
def Ji:0<W:=wv
def MX:1<W:=wv
def Yo(w:World)(s:Int)(q:Option Addr)(n cap:Nat)(z:Int):Prop :=
 (q=none/\n=0/\cap=0/\s=z/\-9223372036854775808<=z/\z<=9223372036854775807) \/
 ∃(b off:Nat) (l:List Int),q=some ⟨b,off,none⟩/\n=l.length/\l.length<=cap/\(cap:Int)<=9223372036854775807/\Cells w q Ja l /\
  DG W l/\NZ l/\l≠[]/\(s=1\/s = -1)/\z=s*dv W l/\9223372036854775808<=dv W l
def XU(w:World)(v:Value)(z:Int):Prop:=∃s q n cap,v = .agg #[.int .i64 s,.slice q n cap]/\Yo w s q n cap z
theorem Yo.ext(h:Ext w w'){s:Int}{q:Option Addr}{n cap:Nat}{z:Int}(hv:Yo w s q n cap z):Yo w' s q n cap z:=by
 rcases hv with hv | ⟨b,off,l,h1,h2,h3,h4,h5,h6⟩
 ·exact .inl hv
 exact .inr ⟨b,off,l,h1,h2,h3,h4,h5.ext h,h6⟩
theorem XU.ext(h:Ext w w'){v:Value}{z:Int}(hv:XU w v z):XU w' v z:=by
 obtain⟨s,q,n,cap,rfl,hp⟩:=hv;exact⟨s,q,n,cap,rfl,hp.ext h⟩
def XU.small(w:World){z:Int}(h0 : -9223372036854775808<=z)(h1:z<=9223372036854775807):XU w (.agg #[.int .i64 z,.slice none 0 0]) z :=
 ⟨z,none,0,0,rfl,.inl ⟨rfl,rfl,rfl,rfl,h0,h1⟩⟩
def ZR(w:World)(R:Value->World->Prop)(e:Ending)(w':World):Prop:=∃v,e = .returned v/\R v w'/\Ext w w'
def Jd(z:Int):Int:=if z<0 then -z else z
theorem DX{z:Int}(h:z<0):Jd z = -z:=if_pos h
theorem Wo{z:Int}(h:0<=z):Jd z=z:=if_neg O
theorem K7(z:Int):Jd z=z.natAbs:=by grind[Jd]
def sg(neg:Bool)(n:Int):Int:=if neg then -n else n
theorem zB(neg:Bool)(q:Option Addr)(cap:Nat)(w:World):
  Calls prog 132 #[.bool neg,.slice q 0 cap] w λe w'=>ZR w (λv w'=>XU w' v 0) e w':=by
 go_wp2
 exact bodyPost_ret (by simp[results,results132,go_sem]) I ⟨_,rfl,XU.small _ wv wv,(Ext.refl _).alloc _⟩
theorem zA(neg:Bool)(b off cap:Nat)(x:Int)(w:World)(hc:w.cell? ⟨b,off,none⟩=some (.int .u64 x))(h0:0<=x)(h1:x<=9223372036854775807)(hb:b<w.heap.size):
  Calls prog 132 #[.bool neg,.slice (some ⟨b,off,none⟩) 1 cap] w λe w'=>ZR w (λv w'=>XU w' v (sg neg x)) e w':=by
 cases neg
 ·go_wp2
  exact bodyPost_ret (v:=.agg #[.int .i64 x,.slice none 0 0]) (by simp[results,results132,go_sem]) I ⟨_,rfl,XU.small _ O O,(Ext.refl _).alloc _⟩
 go_enter func132,ntmps132
 go_wp2
 exact bodyPost_ret (v:=.agg #[.int .i64 (-x),.slice none 0 0]) (by simp[results,results132,go_sem]) I ⟨_,rfl,XU.small _ O O,(Ext.refl _).alloc _⟩
theorem CS(neg:Bool)(b off cap:Nat)(x:Int)(w:World)(hc:w.cell? ⟨b,off,none⟩=some (.int .u64 x))(h1:9223372036854775808<=x)(hb:b<w.heap.size):
  Calls prog 132 #[.bool neg,.slice (some ⟨b,off,none⟩) 1 cap] w λe w'=>e = .returned (.agg #[.int .i64 (if neg then -1 else 1),.slice (some ⟨b,off,none⟩) 1 cap])/\Ext w w':=by
 cases neg
 ·go_enter func132,ntmps132
  go_wp2
  exact bodyPost_ret (by simp[results,results132,go_sem]) I ⟨rfl,(Ext.refl _).alloc _⟩
 go_enter func132,ntmps132
 go_wp2
 exact bodyPost_ret (by simp[results,results132,go_sem]) I ⟨rfl,(Ext.refl _).alloc _⟩
theorem CR(neg:Bool)(q:Option Addr)(n cap:Nat)(w:World)(hn:2<=n):
  Calls prog 132 #[.bool neg,.slice q n cap] w λe w'=>e = .returned (.agg #[.int .i64 (if neg then -1 else 1),.slice q n cap])/\Ext w w':=by
 cases neg
 ·go_enter func132,ntmps132
  go_wp2
  exact bodyPost_ret (by simp[results,results132,go_sem]) I ⟨rfl,(Ext.refl _).alloc _⟩
 go_enter func132,ntmps132
 go_wp2
 exact bodyPost_ret (by simp[results,results132,go_sem]) I ⟨rfl,(Ext.refl _).alloc _⟩
theorem Vg(neg:Bool)(v:Value)(l:List Int)(w:World)(hs:SL w v Ja l)(hd:DG W l)(hn:NZ l):
  Calls prog 132 #[.bool neg,v] w λe w'=>ZR w (λv w'=>XU w' v (sg neg (dv W l))) e w':=by
 obtain⟨q,cap,rfl,h2,h3,h4⟩:=hs
 match l,hd,hn,h2,h4 with
 |[],hd,hn,h2,h4=>exact(zB neg q cap w).mono λe w' h=>by cases neg<;>exact h
 |[x],hd,hn,h2,h4 =>
  obtain⟨b,off,rfl,hb,hc⟩:=h4 0 w9;have hx:=hd.head;have e1:dv W [x]=x:=w9;rw[e1];by_cases hx1:x<=9223372036854775807
  ·exact zA neg b off cap x w hc hx.1 hx1 hb.lt
  refine(CS neg b off cap x w hc O hb.lt).mono λe w' ⟨h,k⟩=>⟨_,h,⟨_,_,_,_,rfl,.inr ⟨b,off,[x],rfl,rfl,h2,h3,h4.ext k,hd,hn,w9,?_,?_,O⟩⟩,k⟩
  all_goals grind[sg]
 |x::y::l,hd,hn,h2,h4 =>
  obtain⟨b,off,rfl,hb,hc⟩:=h4 0 w9;refine(CR neg _ _ cap w w9).mono λe w' ⟨h,k⟩=>⟨_,h,⟨_,_,_,_,rfl,.inr ⟨b,off,x::y::l,rfl,rfl,h2,h3,h4.ext k,hd,hn,w9,?_,?_,?_⟩⟩,k⟩
  ·omega
  ·grind[sg]
  have:=De Ji hd hn w9;have h6:=YR (b:=W) wv (m:=1) (n:=(x::y::l).length-1) w9;have h7:W^1=18446744073709551616:=wv;omega
theorem CG(s:Int)(b off n cap:Nat)(w:World):
  Calls prog 131 #[.agg #[.int .i64 s,.slice (some ⟨b,off,none⟩) n cap]] w λe w'=>e = .returned (.tuple #[.bool (decide (s<0)),.slice (some ⟨b,off,none⟩) n cap])/\Ext w w':=by
 go_wp2
 go_quiet (fail)
 go_wp2
 go_ret2
 exact⟨rfl,((Ext.refl _).alloc _).drewN _⟩
theorem Ii(w:World):
  Calls prog 131 #[.agg #[.int .i64 0,.slice none 0 0]] w λe w'=>e = .returned (.tuple #[.bool false,.slice none 0 0])/\Ext w w':=by
 go_wp2
 go_ret2
 exact⟨rfl,(Ext.refl _).alloc _⟩
theorem Ol(n:Int)(h0 : -9223372036854775808<=n)(h:n<0):IntKind.u64.wrap (wrap64 (-n))=Jd n:=by
 grind[DX,wrap64,IntKind.wrap,IntKind.signed,IntKind.bits]
theorem Gy(n:Int)(w:World)(h0 : -9223372036854775808<=n)(h1:n<=9223372036854775807):
  Calls prog 145 #[.int .i64 n] w λe w'=>e = .returned (.int .u64 (Jd n))/\w=w':=by
 by_cases h:n<0
 ·have H:=Lib.hid (Ol n h0 h);go_wp2
  go_ret
  exact⟨congrArg (λx=>Ending.returned (.int .u64 x)) H.out,rfl⟩
 have H:=Lib.hid (Wo (z:=n) O);go_wp2
 go_ret
 exact⟨congrArg (λx=>Ending.returned (.int .u64 x)) H.out.symm,rfl⟩
theorem U5(z:Int)(w:World)(hz:(z==0)=false)(h0 : -9223372036854775808<=z)(h1:z<=9223372036854775807):
  Calls prog 131 #[.agg #[.int .i64 z,.slice none 0 0]] w λe w'=>(∃b,e = .returned (.tuple #[.bool (decide (z<0)),.slice (some ⟨b,0,none⟩) 1 1])/\YX w' b 201 Ja [Jd z])/\Ext w w':=by
 have hn:=λw=>run_neq_slice_nil_any w 73 201 none 0 0 0 0 underlying73;go_enter func131,ntmps131
 go_wp2
 go_region_held3 (λw'=>w'.cell? ⟨w.heap.size,0,none⟩=some (.int .i64 z)) (go_keep) (first | (go_at_call 145;refine(Gy _ _ h0 h1).mono ?_;rintro e w' ⟨rfl,rfl⟩))
 go_wp2
 go_ret2
 exact⟨⟨_,rfl,(YX.QHh _ _ 201 Ja [Jd z] _ I w9).drew⟩,(((Ext.refl _).alloc _).alloc _).drew⟩
theorem Yf(v:Value)(z:Int)(w:World)(hv:XU w v z):
  Calls prog 131 #[v] w λe w'=>ZR w (λr w'=>∃p l,r = .tuple #[.bool (decide (z<0)),p]/\SL w' p Ja l/\DG W l/\NZ l/\dv W l=Jd z) e w':=by
 obtain⟨s,q,n,cap,rfl,hp⟩:=hv;rcases hp with ⟨rfl,rfl,rfl,rfl,h0,h1⟩ | ⟨b,off,l,rfl,rfl,h3,h4,h5,h6,h7,h8,h9,h10,h11⟩
 ·by_cases hz:s=0
  ·subst hz;exact(Ii w).mono λe w' ⟨h,k⟩=>⟨_,h,⟨_,[],rfl,SL.nil _ _,DG.nil _,by simp[NZ],rfl⟩,k⟩
  refine(U5 s w (by simp_all) h0 h1).mono λe w' ⟨⟨b,h,hb⟩,k⟩=>⟨_,h,⟨_,[Jd s],rfl,SL.G5 hb 1 (Nat.le_refl _) w9,?_,?_,w9⟩,k⟩
  all_goals grind[Jd,K7,GH,DG.cons,DG.nil,NZ]
 have hz:decide (s<0)=decide (z<0)/\dv W l=Jd z:=by
  rcases h9 with rfl | rfl
  ·grind[Wo]
  grind[dv,DX]
 refine(CG s b off _ cap w).mono λe w' ⟨h,k⟩=>⟨_,h,⟨_,l,by grind,⟨_,_,rfl,h3,h4,h5.ext k⟩,h6,h7,hz.2⟩,k⟩
theorem PV{l:List Int}(h:k<l.length):l.getD k default=l[k]:=by simp_all
theorem KS(v:Value)(l:List Int)(w:World)(hs:SL w v Ja l):
  Calls prog 207 #[v] w λe w'=>(∃v',e = .returned v'/\SL w v' Ja (Q3 l))/\w=w':=by
 obtain⟨q,cap,rfl,hcap,hmax,hc⟩:=hs;have HC:=Lib.hid hc;clear hc;go_enter func207,ntmps207
 go_wp2
 go_loop [3] (λn=>∃k:Nat,k<=l.length/\n = .int .i64 k/\Q3 l=Q3 (l.take k)) λn=>(intOf n).toNat
 case atStart=>grind
 case round =>
  obtain⟨k,hk,rfl,he⟩:=hrel;have HE:=Lib.hid he;clear he;cases k with
  |zero =>
   go_wp2
   go_ret
   exact⟨⟨_,rfl,by rw[HE.out];exact⟨q,cap,rfl,by simp[Q3],hmax,λi hi=>by trivial⟩⟩,rfl⟩
  |succ k =>
   obtain⟨b,off,rfl,hb,hc⟩:=HC.out k O;simp only[Ja]at hc;have HT:=Lib.hid (Wb l k O);rw[PV O]at hc;generalize hx:l[k]=x at hc;have HX:=Lib.hid hx;clear hx;by_cases h0:x=0
   ·have h1:(x==0)=true:=by grind
    go_wp2
    go_round
    case rel=>exact⟨k,O,rfl,by rw[HE.out,HT.out,HX.out,h0,YU]⟩
    simp[measure,intOf]
   have h1:(x==0)=false:=by simp[h0]
   go_wp2
   go_ret
   have e1:Q3 l=l.take (k+1):=by rw[HE.out,HT.out,HX.out,Wx _ h0,<-HX.out,<-HT.out]
   exact⟨⟨_,rfl,by rw[e1];exact⟨_,cap,by rw[List.length_take,Nat.min_eq_left O];rfl,by rw[List.length_take];omega,hmax,HC.out.take _⟩⟩,rfl⟩
def sz(z:Int):Nat:=if z=0 then 0 else z.natAbs.log2+1
def BF(z:Int):z.natAbs<2^sz z:=by
 unfold sz;split
 ·simp[*]
 exact Nat.lt_log2_self
theorem XA(z:Int)(k:Nat):sz z<=k↔z.natAbs<2^k:=by
 constructor
 ·intro h;exact Nat.lt_of_lt_of_le (BF z) (Nat.pow_le_pow_right wv h)
 intro h;unfold sz;split
 ·exact Nat.zero_le _
 rename_i hz;have:z.natAbs.log2<k:=(Nat.log2_lt O).2 h;omega
theorem Zi(a b:Int):sz (a*b)<=sz a+sz b:=by
 rw[XA,Int.natAbs_mul,Nat.pow_add];have h1:=BF a;have h2:=BF b
 calc a.natAbs*b.natAbs<=a.natAbs*2^sz b:=Nat.mul_le_mul_left _ (Nat.le_of_lt h2)
  _<2^sz a*2^sz b:=Nat.mul_lt_mul_of_pos_right h1 (Nat.pow_pos wv)
def Nw(a b:Int):sz (a+b)<=max (sz a) (sz b)+1:=by
 rw[XA,Nat.pow_succ];have h1:=(XA a (max (sz a) (sz b))).1 (Nat.le_max_left _ _);have h2:=(XA b (max (sz a) (sz b))).1 (Nat.le_max_right _ _);omega
def KA{a b:Int}(h:a.natAbs<=b.natAbs):sz a<=sz b:=by
 rw[XA];exact Nat.lt_of_le_of_lt h (BF b)
def Kq(a:Int):sz (-a)=sz a:=by unfold sz;simp
def Md(a:Int):sz (Jd a)=sz a:=by unfold Jd;split<;>simp[Kq]
theorem QA1{l:List Int}(h:DG W l)(hn:NZ l):l.length<=sz (dv W l):=by
 by_cases hl:l=[]
 ·subst hl;simp
 have h1:=De Ji h hn hl;have h2:=BF (dv W l);have h0:=Qx Ji h;have h3:(2:Int)^(l.length-1)<=W^(l.length-1):=by
  generalize l.length-1=k
  induction k with
  |zero=>simp
  |succ k ih=>rw[Int.pow_succ,Int.pow_succ];exact Int.mul_le_mul ih wv wv (Int.le_of_lt (pow_pos Ji k))
 have h4:(2:Int)^(l.length-1)<2^sz (dv W l):=by
  have:((dv W l).natAbs:Int)<((2^sz (dv W l):Nat):Int):=O;rw[Int.natCast_pow]at this;have e:((dv W l).natAbs:Int)=dv W l:=O;rw[e]at this;have e2:((2:Nat):Int)=2:=rfl;rw[e2]at this;omega
 have h5:2^(l.length-1)<2^sz (dv W l):=by
  have:((2^(l.length-1):Nat):Int)<((2^sz (dv W l):Nat):Int):=by
   rw[Int.natCast_pow,Int.natCast_pow];exact h4
  omega
 have:=(Nat.pow_lt_pow_iff_right (by decide:1<2)).1 h5;omega
theorem Ug(v:Value)(z:Int)(w:World)(hv:XU w v z):
  Calls prog 63 #[v] w λe w'=>e = .returned (.int .i64 (Rt z))/\Ext w w':=by
 obtain⟨s,q,n,cap,rfl,hp⟩:=hv;have hs:Rt z=if s<0 then -1 else if s=0 then 0 else 1:=by
  rcases hp with ⟨_,_,_,rfl,_⟩ | ⟨b,off,l,_,_,_,_,_,_,_,_,h,hz,hb⟩
  ·rfl
  unfold Rt;rcases h with rfl | rfl
  ·rw[Int.one_mul]at hz;rw[if_neg O,if_neg O];rfl
  rw[if_pos O];rfl
 have HS:=Lib.hid hs;clear hs hp;rcases Int.lt_trichotomy s 0 with g | g | g
 all_goals
  go_enter func63,ntmps63
  go_wp2
  go_ret
  exact⟨by rw[HS.out];simp[g]<;>omega,(Ext.refl _).alloc _⟩
def Yo.isNone{s:Int}{n cap:Nat}{z:Int}(h:Yo w s q n cap z):
  (q=none/\n=0/\cap=0/\s=z/\-9223372036854775808<=z/\z<=9223372036854775807)\/(∃b off,q=some ⟨b,off,none⟩):=by
 rcases h with h | ⟨b,off,_,h,_⟩
 ·exact .inl h
 exact .inr ⟨b,off,h⟩
abbrev IZ:Array Value:=#[.int .i64 0,.slice none 0 0]
theorem CP(s:Int)(w:World)(h0 : -9223372036854775807<=s)(h1:s<=9223372036854775807):
  Calls prog 64 #[.agg #[.int .i64 s,.slice none 0 0]] w λe w'=>e = .returned (.agg #[.int .i64 (-s),.slice none 0 0])/\Ext w w':=by
 have hn:=λw=>Lib.run_eql_slice_nil (P:=prog) w 73 201 none 0 0 0 0 underlying73;have hm':(s != -9223372036854775808)=true:=tA;go_enter func64,ntmps64
 go_wp2
 exact bodyPost_ret (v:=.agg #[.int .i64 (-s),.slice none 0 0]) (by simp[results,results64,go_sem]) I ⟨rfl,((Ext.refl _).alloc _).alloc _⟩
theorem Yo.kp(h:Kp w w'){s:Int}{q:Option Addr}{n cap:Nat}{z:Int}(hv:Yo w s q n cap z):Yo w' s q n cap z:=by
 rcases hv with hv | ⟨b,off,l,h1,h2,h3,h4,h5,h6⟩
 ·exact .inl hv
 exact .inr ⟨b,off,l,h1,h2,h3,h4,h5.kp h wv,h6⟩
def AD:¬DT 75:=wv
def Kp.Bm{a:World}(h:Kp a w){R T:Nat}(hT:Kg w R T)(hD:¬DT T)(v0 v1:Value):Kp a ((w.setCell ⟨R,0,none⟩ v0).setCell ⟨R,1,none⟩ v1) :=
 (h.set hT hD 0 v0).set (hT.set _ _ _) hD 1 v1
theorem SM(s:Int)(q:Option Addr)(n cap:Nat)(z:Int)(w:World)(hv:Yo w s q n cap z)(hq:q.isNone=false\/(s != -9223372036854775808)=false):
  Calls prog 64 #[.agg #[.int .i64 s,.slice q n cap]] w λe w'=>ZR w (λv w'=>XU w' v (-z)) e w':=by
 have hn:=λw=>Lib.run_eql_slice_nil (P:=prog) w 73 201 q n cap 0 0 underlying73;have hz0:Hid (sg (!decide (z<0)) (Jd z) = -z):=by
  show sg (!decide (z<0)) (Jd z) = -z;unfold sg Jd;by_cases h:z<0<;>simp[h]
 have HV:Hid (XU w (.agg #[.int .i64 s,.slice q n cap]) z):=⟨_,_,_,_,rfl,hv⟩;have hB:Bx ((w.alloc (.cells #[.int .i64 s,.slice q n cap] 75)).alloc (.cells IZ 75)) (w.heap.size+1) 75 IZ.toList:=by
  have:=Bx.new (w.alloc (.cells #[.int .i64 s,.slice q n cap] 75)) 75 IZ;simpa using this
 have HB:=Lib.hid hB;clear hB hv;cases hqn:q.isNone
 all_goals
  rw[hqn]at hq;simp only[reduceCtorEq,true_or,false_or]at hq;rw[hqn]at hn;clear hqn;go_enter func64,ntmps64
  go_wp2_with fail
  refine(Yf _ z _ (HV.out.ext (((Ext.refl _).alloc _).alloc _))).mono ?_;rintro e w1 ⟨_,rfl,⟨p,l,rfl,hsl,hd,hnz,hval⟩,hx⟩;go_wp2_with fail
  refine(Vg _ p l _ hsl hd hnz).mono ?_;rw[hval,hz0.out];rintro e w2 ⟨_,rfl,⟨s',q',n',cap',rfl,hp'⟩,hx2⟩;have hB2:=(HB.out.ext hx).ext hx2;obtain⟨c0,c1,f0,f1⟩:=hB2.two;have HB2:=Lib.hid hB2;clear hval hB2;go_wp2
  refine bodyPost_ret (v:=.agg #[.int .i64 s',.slice q' n' cap']) (by simp[results,results64,go_sem,c0,c1]) I ⟨_,rfl,⟨_,_,_,_,rfl,hp'.kp ((Kp.refl _).Bm HB2.out.PT AD _ _)⟩,?_⟩;exact((((((Ext.refl w).alloc _).alloc _).trans hx).trans hx2).Xv w9 _).Xv w9 _
theorem TU(v:Value)(z:Int)(w:World)(hv:XU w v z):
  Calls prog 64 #[v] w λe w'=>ZR w (λv w'=>XU w' v (-z)) e w':=by
 obtain⟨s,q,n,cap,rfl,hp⟩:=hv;rcases hp.isNone with ⟨rfl,rfl,rfl,rfl,h0,h1⟩ | ⟨b,off,rfl⟩
 ·by_cases hm:s = -9223372036854775808
  ·exact SM _ _ _ _ _ w hp (.inr (by simpa using hm))
  exact(CP s w O h1).mono λe w' ⟨he,hx⟩=>⟨_,he,XU.small _ O O,hx⟩
 exact SM _ _ _ _ _ w hp (.inl rfl)
end Go.Proofs.YteldggljlnakmaaGreatDoor
namespace Ig
def Qc(l:List Int)(k:Nat):Int:=if h:k<l.length then l[k]else 0
theorem ZY{l:List Int}{k:Nat}(h:k<l.length):Qc l k=l[k]:=dif_pos h
theorem By{l:List Int}{k:Nat}(h:l.length<=k):Qc l k=0:=dif_neg O
def DG.Qc{b:Int}(hb:0<b){l:List Int}(h:DG b l)(k:Nat):0<=Qc l k/\Qc l k<b:=by
 unfold Ig.Qc;split
 ·exact h _ (List.getElem_mem _)
 omega
def Vl(b:Int)(l:List Int)(k:Nat):dv b (l.take (k+1))=dv b (l.take k)+b^k*Qc l k:=by
 grind[ZY,GC,By,List.take_of_length_le]
def VC{l:List Int}{p:Nat}(h:p<l.length)(v:Int)(r:Nat):Qc (l.set p v) r=if r=p then v else Qc l r:=by
 unfold Qc
 grind
def HM(b:Int){l:List Int}{p:Nat}(h:p<l.length)(v:Int):dv b (l.set p v)=dv b l+b^p*(v-Qc l p):=by
 have h1:=Kb b (l.set p v) (p+1) (by grind);have h2:=Kb b l (p+1) O;have e1:(l.set p v).drop (p+1)=l.drop (p+1):=by simp[List.drop_set_of_lt]
 have e2:(l.set p v).take (p+1)=l.take p++[v]:=by
  grind[Wb,List.take_set_of_le]
 rw[h1,h2,e1,e2,XW,GC b l p h,ZY h,List.length_take,Nat.min_eq_left O]
 grind
theorem XC{l:List Int}{k:Nat}(h:k<l.length):l.drop k=Qc l k::l.drop (k+1):=by rw[List.drop_eq_getElem_cons h,ZY h]
def AZ{D V2 v' U3 u' t:Int}(hD:0<D)(hv1:v'<D)(hu0:0<=u')
  (ht0:0<=t) (ht:t*V2<=U3) (htv:t<=V2) (_hv0:0<=v'):(t-1)*(V2*D+v')<=U3*D+u':=by
 have h1:t*V2*D<=U3*D:=Int.mul_le_mul_of_nonneg_right ht O;have h2:t*v'<=t*D:=Int.mul_le_mul_of_nonneg_left O ht0;have h3:t*D<=V2*D:=Int.mul_le_mul_of_nonneg_right htv O
 grind
def PQ{D V2 v' U3 u' t:Int}(hv0:0<=v')(hu1:u'<D)(hD:0<D)
  (ht0:0<=t) (ht:U3<t*V2):U3*D+u'<t*(V2*D+v'):=by
 have h1:(U3+1)*D<=t*V2*D:=Int.mul_le_mul_of_nonneg_right O O;have h2:=Int.mul_nonneg ht0 hv0
 grind
theorem ZX{u v q:Int}(hv:0<v)(h1:q*v<=u)(h2:u<(q+1)*v):u/v=q:=by
 have e:(q+1)*v=q*v+v:=by grind
 have:u=(u-q*v)+q*v:=O;rw[this,Int.add_mul_ediv_right _ _ O,Int.ediv_eq_zero_of_lt O O];omega
theorem Zy{u v q:Int}(h1:q*v<=u)(h2:u<(q+1)*v):u%v=u-q*v:=by
 have e:(q+1)*v=q*v+v:=by grind
 have:u=(u-q*v)+q*v:=O;rw[this,Int.add_mul_emod_self_right,Int.emod_eq_of_lt O O];omega
section
variable{b:Int}(hb:1<b)
include hb
theorem Z8{l:List Int}{n:Nat}(hl:DG b l)(h:l.length=n+3):
  dv b l=((Qc l (n+2)*b+Qc l (n+1))*b+Qc l n)*b^n+dv b (l.take n)/\0<=dv b (l.take n)/\dv b (l.take n)<b^n:=by
 have h1:=Vl b l n;have h2:=Vl b l (n+1);have h3:=Vl b l (n+2);have h4:=Z9 O (hl.take n);rw[List.length_take,Nat.min_eq_left O]at h4;refine⟨?_,Qx O (hl.take n),h4⟩
 grind
theorem KH{l:List Int}{n:Nat}(hl:DG b l)(h:l.length=n+2):
  dv b l=(Qc l (n+1)*b+Qc l n)*b^n+dv b (l.take n)/\0<=dv b (l.take n)/\dv b (l.take n)<b^n:=by
 have h1:=Vl b l n;have h2:=Vl b l (n+1);have h4:=Z9 O (hl.take n);rw[List.length_take,Nat.min_eq_left O]at h4;refine⟨?_,Qx O (hl.take n),h4⟩
 grind
omit hb
structure Vo(b:Int)(u v:List Int)(n:Nat):Prop where
 hu:DG b u
 hv:DG b v
 lu:u.length=n+3
 lv:v.length=n+2
 nz:0<Qc v (n+1)
 lt:dv b u<b*dv b v
include hb
theorem Vo.top{u v:List Int}{n:Nat}(h:Vo b u v n):Qc u (n+2)<=Qc v (n+1):=by
 obtain⟨a1,a2,a3⟩:=Z8 hb h.hu h.lu;obtain⟨b1,b2,b3⟩:=KH hb h.hv h.lv;have hlt:=h.lt;have hb0:0<b:=O;have d1:=h.hu.Qc hb0 n;have d2:=h.hu.Qc hb0 (n+1);have d3:=h.hv.Qc hb0 n;refine Int.not_lt.1 λhc=>?_;have e1:(Qc v (n+1)+1)*(b*b*b^n)<=Qc u (n+2)*(b*b*b^n):=Int.mul_le_mul_of_nonneg_right O (Int.mul_nonneg (Int.mul_nonneg O O) O);have e2:0<=Qc u _*(b*b^n):=Int.mul_nonneg d2.1 (Int.mul_nonneg O O);have e3:0<=Qc u n*b^n:=Int.mul_nonneg d1.1 O;have e4:(Qc v n+1)*b^n<=b*b^n:=Int.mul_le_mul_of_nonneg_right O O;have e5:b*((Qc v n+1)*b^n)<=b*(b*b^n):=Int.mul_le_mul_of_nonneg_left e4 O;have e7:b*(dv b (v.take n)+1)<=b*b^n:=Int.mul_le_mul_of_nonneg_left O O;rw[a1,b1]at hlt
 grind
end
end Ig
namespace Go.Proofs.YteldggljlnakmaaGreatDoor
variable{w w' w0:World}{B E N b bytes i j k off s:Nat}{a:Act}{c:Code}{o:Obj}{ds la u:List Int}{A0 A1 A2 A3 A4 A5 A6 A7 A8 A9 α γ ι:Type}{T T' e ty yT:TypeId}{args cs l l' news vs z:List Value}{ops:Array Oper}{Q Q':Exit->Act->World->Prop}{g:Bool}{K:Act->World->Prop}{x y:Operand}{bs bs' bs0:List (Nat×Obj)}{q:Option Addr}{P:Program}{f:Obj->List (Nat×Obj)}{fn:Func}{aft:Array Edge}{x1:Nat×Obj}{v1 v3 v4 v5 x2 x3 x4 x5 x6 x7 x8:Value}{ps:List (Nat×Value)}{rs:List ResultVar}{k':IntKind}{ob:List _}{pl:List (Nat×Nat)}{h:Int}{F F0:Gs}{G G':Gs->Prop}{m:Sl}
open Go.RowKit Ig
def XN(x y c:Int):Int:=(x+y+c)%W
def Xx(x y c:Int):Int:=(x+y+c)/W
def Zp(x y c:Int):Int:=(x-y-c)%W
def V5(x y c:Int):Int:=if x<y+c then 1 else 0
theorem GG{x y c:Int}(hx:0<=x/\x<W)(hy:0<=y/\y<W)(hc:0<=c/\c<=1):
  XN x y c+W*Xx x y c=x+y+c/\(0<=XN x y c/\XN x y c<W)/\0<=Xx x y c/\Xx x y c<=1:=by
 grind[XN,Xx,GH]
theorem DI{x y c:Int}(hx:0<=x/\x<W)(hy:0<=y/\y<W)(hc:0<=c/\c<=1):
  Zp x y c-W*V5 x y c=x-y-c/\(0<=Zp x y c/\Zp x y c<W)/\0<=V5 x y c/\V5 x y c<=1:=by
 grind[Zp,V5,GH]
theorem Ye(x y c:Int)(hx:0<=x)(hy:0<=y)(hc:0<=c)(hc1:c<=1)(w:World):
  (callFunc 218 #[.int .u64 x,.int .u64 y,.int .u64 c]).run prog w = .ok (.value (.tuple #[.int .u64 (XN x y c),.int .u64 (Xx x y c)])) w:=by
 rw[run_callFunc_extern (fn:=f218) w9 w8 w8 wu wu,run_add64 x y c hx hy hc hc1];rfl
def II:Array Value->Sem Value:=λargs=>do
 let (x,y,b) <-Extern.MathBitsCarry.three "Sub64" args
 pure (Extern.MathBitsCarry.pair ((x+Extern.MathBitsCarry.m64-y-b)%Extern.MathBitsCarry.m64) (if x<y+b then 1 else 0))
theorem O0(x y b:Nat)(hb:b<=1)(w:World):
  (II #[.int .u64 x,.int .u64 y,.int .u64 b]).run prog w =
   .ok (.tuple #[.int .u64 (((x+18446744073709551616-y-b)%18446744073709551616:Nat):Int),.int .u64 ((if x<y+b then 1 else 0:Nat):Int)]) w:=by
 have:b=0\/b=1:=O;rcases this with rfl | rfl<;>rfl
theorem Ho(x y c:Int)(hx:0<=x/\x<W)(hy:0<=y/\y<W)(hc:0<=c/\c<=1)(w:World):
  (callFunc 251 #[.int .u64 x,.int .u64 y,.int .u64 c]).run prog w = .ok (.value (.tuple #[.int .u64 (Zp x y c),.int .u64 (V5 x y c)])) w:=by
 obtain⟨x,rfl⟩:=Int.eq_ofNat_of_zero_le hx.1;obtain⟨y,rfl⟩:=Int.eq_ofNat_of_zero_le hy.1;obtain⟨c,rfl⟩:=Int.eq_ofNat_of_zero_le hc.1;rw[run_callFunc_extern (fn:=f251) w9 w8 w8 wu wu,O0 x y c O]
 grind[Result.andThen,Zp,V5,GH]
theorem N0(ds:List α)(z x:α)(m:Nat):(ds++List.replicate (m+1) z).set ds.length x=(ds++[x])++List.replicate m z:=by
 grind
theorem EL[Inhabited α](ds:List α)(z:α)(m k:Nat)(hk:k=ds.length):(ds++List.replicate (m+1) z).getD k default=z:=by
 simp_all
def JW{l:List Int}(h:DG W l)(k:Nat):0<=Qc l k/\Qc l k<W:=h.Qc Ji k
theorem J6(l:List Int)(k:Nat):dv W (l.take (k+1))=dv W (l.take k)+W^k*Qc l k:=Vl W l k
def Zt{l:List Int}(h:k<l.length):l.getD k default=Qc l k:=by rw[PV h,ZY h]
def Ed(lx ly:List Int)(k:Nat)(ds:List Int)(c:Int):Prop :=
 ds.length=k/\DG W ds/\(0<=c/\c<=1)/\dv W ds+W^k*c=dv W (lx.take k)+dv W (ly.take k)
theorem Ed.step{lx ly:List Int}{c:Int}(h:Ed lx ly k ds c)(hx:DG W lx)(hy:DG W ly):
  Ed lx ly (k+1) (ds++[XN (Qc lx k) (Qc ly k) c]) (Xx (Qc lx k) (Qc ly k) c):=by
 obtain⟨h1,h2,h3,h4⟩:=h;obtain⟨a1,a2,a3⟩:=GG (JW hx k) (JW hy k) h3;refine⟨by grind,h2.append (DG.cons a2.1 a2.2 (DG.nil _)),a3,?_⟩;rw[XW,h1,J6,J6,Int.pow_succ]
 grind
def Tx(lx ly:List Int)(k:Nat)(ds:List Int)(c:Int):Prop :=
 ds.length=k/\DG W ds/\(0<=c/\c<=1)/\dv W ds-W^k*c=dv W (lx.take k)-dv W (ly.take k)
theorem Tx.step{lx ly:List Int}{c:Int}(h:Tx lx ly k ds c)(hx:DG W lx)(hy:DG W ly):
  Tx lx ly (k+1) (ds++[Zp (Qc lx k) (Qc ly k) c]) (V5 (Qc lx k) (Qc ly k) c):=by
 obtain⟨h1,h2,h3,h4⟩:=h;obtain⟨a1,a2,a3⟩:=DI (JW hx k) (JW hy k) h3;refine⟨by grind,h2.append (DG.cons a2.1 a2.2 (DG.nil _)),a3,?_⟩;rw[XW,h1,J6,J6,Int.pow_succ]
 grind
theorem dJ:(prog.info? 201).map (λi=>(i.zero,i.size,i.bytes))=some (some (.int .u64 0),1,8):=wu
theorem YE(n:Nat)(hn:n<=1000000000000)(w:World):
  (Instr.makeSlice 73 (.int .i64 (n:Int)) (.int .i64 (n:Int))).run prog w = .ok (.slice (some ⟨w.heap.size,0,none⟩) n n) (w.alloc (.cells (madeCells #[.int .u64 0] n) 201)):=by
 obtain⟨i0,hi,hz0,hz1,hz2⟩:=info_parts dJ;have:=run_make w 73 201 i0 _ underlying73 hi hz0 .i64 .i64 n n O O (by grind) O
 grind[Value.cells]
theorem BQ(sw:Bool)(q q':Option Addr)(cap cap':Nat)(lx ly:List Int)(w:World)(hx:DG W lx)(hy:DG W ly)(hcx:Cells w q Ja lx)(hcy:Cells w q' Ja ly)(hlen:lx.length<=100000000000)(hle:ly.length<=lx.length)(hsw:sw=true->ly.length<lx.length):
  Calls prog 202 (if sw then #[.slice q' ly.length cap',.slice q lx.length cap]else #[.slice q lx.length cap,.slice q' ly.length cap']) w λe w' =>
   ZR w (λv w'=>∃l,SL w' v Ja l/\DG W l/\NZ l/\dv W l=dv W lx+dv W ly) e w':=by
 have HX:=Lib.hid hcx;clear hcx;have HY:=Lib.hid hcy;clear hcy;have hmk:=λw=>YE (lx.length+1) O w;have ec:((lx.length+1:Nat):Int)=(lx.length:Int)+1:=O;simp only[ec]at hmk;cases sw
 all_goals
  simp only[Bool.false_eq_true,if_false,if_true,forall_const,false_implies]at hsw ⊢;go_enter func202,ntmps202
  go_wp2
  go_loopw [22,6] (λi c wr=>∃(k:Nat) (ds:List Int) (cc:Int),k<=lx.length/\i = .int .i64 k/\c = .int .u64 cc/\Ed lx ly k ds cc/\YX wr w.heap.size 201 Ja (ds++List.replicate (lx.length+1-k) 0)/\Ext w wr)
   (λi _ _=>lx.length-(intOf i).toNat)
  case atStart=>exact⟨0,[],0,Nat.zero_le _,rfl,rfl,⟨rfl,DG.nil _,wv,w9⟩,YX.made w _ Ja 0 _ _ rfl,(Ext.refl _).alloc _⟩
  case round =>
   obtain⟨k,ds,cc,hk,rfl,rfl,hI,hB,hE⟩:=hrel;have hst:=hI.step hx hy;obtain⟨hd1,hd2,hd3,hd4⟩:=hI;have hd1':=Lib.hid hd1;clear hd1;have hd4':=Lib.hid hd4;clear hd4;by_cases hlt:k<lx.length
   ·obtain⟨b,off,rfl,hb,hc⟩:=HX.out k hlt;rw[Zt hlt]at hc;have hc:=hE.cell hc;simp only[Ja]at hc;have e1:lx.length+1-k=(lx.length-k)+1:=O;rw[e1]at hB;have hcell:=hB.cell (i:=k) (by simp[hd1'.out]);rw[EL _ _ _ _ hd1'.out.symm]at hcell;simp only[Ja]at hcell;have hfr:=hB.frozen k;have hBs:=hB.set k (XN (Qc lx k) (Qc ly k) cc);rw[<-hd1'.out,N0,hd1'.out]at hBs;have HB:=Lib.hid hB;clear hB;have HBs:=Lib.hid hBs;clear hBs;have HS:=Lib.hid hst;clear hst;have hx0:=(JW hx k).1;have hy0:=(JW hy k).1;by_cases hlt2:k<ly.length
    ·obtain⟨b2,off2,rfl,hb2,hc2⟩:=HY.out k hlt2;rw[Zt hlt2]at hc2;have hc2:=hE.cell hc2;simp only[Ja]at hc2;have ha:=λw=>Ye (Qc lx k) (Qc ly k) cc hx0 hy0 hd3.1 hd3.2 w;go_wp2
     go_roundw
     case rel=>exact⟨k+1,_,_,O,by go_num,rfl,HS.out,by rw[show lx.length+1-(k+1)=lx.length-k from by omega];exact HBs.out,Below.setCell hE w9 _⟩
     case measure=>simp[intOf];omega
    have H0:=Lib.hid (By (l:=ly) (k:=k) O);have ha:=λw=>Ye (Qc lx k) 0 cc hx0 (Int.le_refl _) hd3.1 hd3.2 w;go_wp2
    go_roundw
    case rel=>exact⟨k+1,_,_,O,by go_num,rfl,by have:=HS.out;rw[H0.out]at this;exact this,by rw[show lx.length+1-(k+1)=lx.length-k from by omega];have:=HBs.out;rw[H0.out]at this;exact this,Below.setCell hE w9 _⟩
    case measure=>simp[intOf];omega
   have hk':k=lx.length:=O;subst hk';have e1:lx.length+1-lx.length=0+1:=O;rw[e1]at hB;have hcell:=hB.cell (i:=lx.length) (by simp[hd1'.out]);rw[EL _ _ _ _ hd1'.out.symm]at hcell;simp only[Ja]at hcell;have hfr:=hB.frozen lx.length;have hBs:=hB.set lx.length cc;rw[<-hd1'.out,N0,hd1'.out]at hBs;simp only[List.replicate_zero,List.append_nil]at hBs;have hSL:=SL.G5 hBs (lx.length+1) (by simp[hd1'.out]) (by simp[hd1'.out];omega);have el:(ds++[cc]).length=lx.length+1:=by simp[hd1'.out]
   rw[List.take_of_length_le O,el]at hSL;have hEs:Ext w _:=Below.setCell hE (p:=⟨w.heap.size,lx.length,none⟩) w9 (Ja cc);have hfin:DG W (ds++[cc])/\dv W (ds++[cc])=dv W lx+dv W ly:=by
    refine⟨hd2.append (DG.cons hd3.1 (wm GH) (DG.nil _)),?_⟩;rw[XW,hd1'.out,hd4'.out,List.take_of_length_le (Nat.le_refl _),List.take_of_length_le hle]
   have HB:=Lib.hid hB;clear hB;have HBs:=Lib.hid hBs;clear hBs;have HSL:=Lib.hid hSL;clear hSL;have HF:=Lib.hid hfin;clear hfin;have HES:=Lib.hid hEs;clear hEs;clear el e1 hst;go_wp2_with (go_at_call 207;refine(KS _ _ _ HSL.out).mono ?_;rintro e w' ⟨⟨v',rfl,hv⟩,rfl⟩)
   go_ret
   exact⟨_,rfl,⟨_,hv,HF.out.1.Q3,Xi _,by rw[XB,HF.out.2]⟩,HES.out⟩
theorem Tt(v v':Value)(lx ly:List Int)(w:World)(hx:DG W lx)(hy:DG W ly)(hs:SL w v Ja lx)(hs':SL w v' Ja ly)(h1:lx.length<=100000000000)(h2:ly.length<=100000000000):
  Calls prog 202 #[v,v'] w λe w'=>ZR w (λv w'=>∃l,SL w' v Ja l/\DG W l/\NZ l/\dv W l=dv W lx+dv W ly) e w':=by
 obtain⟨q,cap,rfl,hcap,hmax,hc⟩:=hs;obtain⟨q',cap',rfl,hcap',hmax',hc'⟩:=hs';by_cases h:lx.length<ly.length
 ·have:=BQ true q' q cap' cap ly lx w hy hx hc' hc h2 O λ_=>h
  grind
 exact BQ false q q' cap cap' lx ly w hx hy hc hc' h1 O λh=>by cases h
theorem DJ(v v':Value)(lx ly:List Int)(w:World)(hx:DG W lx)(hy:DG W ly)(hs:SL w v Ja lx)(hs':SL w v' Ja ly)(h1:lx.length<=100000000000)(hle:ly.length<=lx.length)(hle2:dv W ly<=dv W lx):
  Calls prog 204 #[v,v'] w λe w'=>ZR w (λv w'=>∃l,SL w' v Ja l/\DG W l/\NZ l/\dv W l=dv W lx-dv W ly) e w':=by
 obtain⟨q,cap,rfl,hcap,hmax,hcx⟩:=hs;obtain⟨q',cap',rfl,hcap',hmax',hcy⟩:=hs';have HX:=Lib.hid hcx;clear hcx;have HY:=Lib.hid hcy;clear hcy;have HLE:=Lib.hid hle2;clear hle2;have hmk:=λw=>YE lx.length O w;go_enter func204,ntmps204
 go_wp2
 go_loopw [14,6] (λi c wr=>∃(k:Nat) (ds:List Int) (cc:Int),k<=lx.length/\i = .int .i64 k/\c = .int .u64 cc/\Tx lx ly k ds cc/\YX wr w.heap.size 201 Ja (ds++List.replicate (lx.length-k) 0)/\Ext w wr)
  (λi _ _=>lx.length-(intOf i).toNat)
 case atStart=>exact⟨0,[],0,Nat.zero_le _,rfl,rfl,⟨rfl,DG.nil _,wv,w9⟩,YX.made w _ Ja 0 _ _ rfl,(Ext.refl _).alloc _⟩
 case round =>
  obtain⟨k,ds,cc,hk,rfl,rfl,hI,hB,hE⟩:=hrel;have hst:=hI.step hx hy;obtain⟨hd1,hd2,hd3,hd4⟩:=hI;have hd1':=Lib.hid hd1;clear hd1;have hd4':=Lib.hid hd4;clear hd4;by_cases hlt:k<lx.length
  ·obtain⟨b,off,rfl,hb,hc⟩:=HX.out k hlt;rw[Zt hlt]at hc;have hc:=hE.cell hc;simp only[Ja]at hc;have e1:lx.length-k=(lx.length-(k+1))+1:=O;rw[e1]at hB;have hcell:=hB.cell (i:=k) (by simp[hd1'.out]);rw[EL _ _ _ _ hd1'.out.symm]at hcell;simp only[Ja]at hcell;have hfr:=hB.frozen k;have hBs:=hB.set k (Zp (Qc lx k) (Qc ly k) cc);rw[<-hd1'.out,N0,hd1'.out]at hBs;have HB:=Lib.hid hB;clear hB;have HBs:=Lib.hid hBs;clear hBs;have HS:=Lib.hid hst;clear hst;have hx0:=JW hx k;have hy0:=JW hy k;clear e1;by_cases hlt2:k<ly.length
   ·obtain⟨b2,off2,rfl,hb2,hc2⟩:=HY.out k hlt2;rw[Zt hlt2]at hc2;have hc2:=hE.cell hc2;simp only[Ja]at hc2;have ha:=λw=>Ho (Qc lx k) (Qc ly k) cc hx0 hy0 hd3 w;go_wp2
    go_roundw
    case rel=>exact⟨k+1,_,_,O,by go_num,rfl,HS.out,HBs.out,Below.setCell hE w9 _⟩
    case measure=>simp[intOf];omega
   have H0:=Lib.hid (By (l:=ly) (k:=k) O);have ha:=λw=>Ho (Qc lx k) 0 cc hx0 ⟨Int.le_refl _,Ji⟩ hd3 w;go_wp2
   go_roundw
   case rel=>exact⟨k+1,_,_,O,by go_num,rfl,by have:=HS.out;rw[H0.out]at this;exact this,by have:=HBs.out;rw[H0.out]at this;exact this,Below.setCell hE w9 _⟩
   case measure=>simp[intOf];omega
  have hk':k=lx.length:=O;subst hk';rw[Nat.sub_self,List.replicate_zero,List.append_nil]at hB;have hSL:=SL.G5 hB lx.length (by simp[hd1'.out]) (by simp[hd1'.out];omega);rw[List.take_of_length_le (by simp[hd1'.out]),hd1'.out]at hSL;have hfin:dv W ds=dv W lx-dv W ly:=by
   have h4:=hd4'.out;rw[List.take_of_length_le (Nat.le_refl _),List.take_of_length_le hle]at h4;have h5:=Z9 Ji hd2;have h6:=Qx Ji hd2;have h8:=HLE.out;rw[hd1'.out]at h5;have h7:cc=0\/cc=1:=O;rcases h7 with rfl | rfl<;>omega
  have HB:=Lib.hid hB;clear hB;have HSL:=Lib.hid hSL;clear hSL;have HF:=Lib.hid hfin;clear hfin;clear hst;go_wp2_with (go_at_call 207;refine(KS _ _ _ HSL.out).mono ?_;rintro e w' ⟨⟨v',rfl,hv⟩,rfl⟩)
  go_ret
  exact⟨_,rfl,⟨_,hv,hd2.Q3,Xi _,by rw[XB,HF.out]⟩,hE⟩
def WD{x y:Int}(h:x<y):Zb x y = -1:=if_pos h
def Hw{x y:Int}(h:y<x):Zb x y=1:=by unfold Zb;omega
theorem Mz(x:Int):Zb x x=0:=by unfold Zb;omega
theorem Za(v v':Value)(lx ly:List Int)(w:World)(hx:DG W lx)(hy:DG W ly)(nx:NZ lx)(ny:NZ ly)(hs:SL w v Ja lx)(hs':SL w v' Ja ly):
  Calls prog 203 #[v,v'] w λe w'=>e = .returned (.int .i64 (Zb (dv W lx) (dv W ly)))/\Ext w w':=by
 obtain⟨q,cap,rfl,hcap,hmax,hcx⟩:=hs;obtain⟨q',cap',rfl,hcap',hmax',hcy⟩:=hs';have HX:=Lib.hid hcx;clear hcx;have HY:=Lib.hid hcy;clear hcy;rcases Nat.lt_trichotomy lx.length ly.length with h | h | h
 ·have HL:=Lib.hid (WD (Xg MX hx hy ny h));go_enter func203,ntmps203
  go_wp2
  go_ret
  exact⟨by rw[HL.out];rfl,Ext.refl _⟩
 ·go_enter func203,ntmps203
  have hb:((lx.length:Int) != (ly.length:Int))=false:=by simp[h]
  have HLL:=Lib.hid h;clear h;go_wp2
  go_loopw [5] (λi wr=>∃k:Nat,k<=lx.length/\i = .int .i64 ((k:Int)-1)/\lx.drop k=ly.drop k/\Ext w wr) λi _=>(intOf i+1).toNat
  case atStart=>exact⟨lx.length,Nat.le_refl _,rfl,by rw[List.drop_eq_nil_of_le (Nat.le_refl _),List.drop_eq_nil_of_le (by grind)],Ext.refl _⟩
  case round =>
   obtain⟨k,hk,rfl,hd,hE⟩:=hrel;have HD:=Lib.hid hd;clear hd;cases k with
   |zero =>
    have HF:Hid (Zb (dv W lx) (dv W ly)=0):=by
     have:=HD.out;grind[Mz]
    go_wp2
    go_ret
    exact⟨by rw[HF.out];rfl,hE⟩
   |succ k =>
    have e1:((k+1:Nat):Int)-1=(k:Int):=O;rw[e1];have hk2:k<ly.length:=wm HLL.out;obtain⟨b,off,rfl,hb1,hc⟩:=HX.out k O;obtain⟨b2,off2,rfl,hb2,hc2⟩:=HY.out k hk2;rw[PV O]at hc hc2;have hc:=hE.cell hc;have hc2:=hE.cell hc2;simp only[Ja]at hc hc2;have HLT:=Lib.hid (To Ji hx hy HLL.out k O HD.out);have HGT:=Lib.hid (To Ji hy hx HLL.out.symm k hk2 HD.out.symm);have HEQ:Hid (lx[k]=ly[k]->lx.drop k=ly.drop k):=by
     intro e;rw[List.drop_eq_getElem_cons O,List.drop_eq_getElem_cons hk2,e,HD.out]
    generalize lx[k]=x at *
    generalize ly[k]=y at *
    clear e1;rcases Int.lt_trichotomy x y with g | g | g
    ·have hne:(x != y)=true:=tA;have HL:=Lib.hid (WD (HLT.out g));go_wp2
     go_quiet (fail)
     go_wp2
     go_quiet (fail)
     go_wp2
     go_ret
     exact⟨by rw[HL.out];rfl,(hE.drewN _).drewN _⟩
    ·have hne:(x != y)=false:=tA;go_wp2
     go_quiet (fail)
     go_wp2
     go_roundw
     case rel=>exact⟨k,O,by go_num,HEQ.out g,hE.drewN _⟩
     case measure=>simp[intOf]
    have hne:(x != y)=true:=tA;have HL:=Lib.hid (Hw (HGT.out g));go_wp2
    go_quiet (fail)
    go_wp2
    go_quiet (fail)
    go_wp2
    go_ret
    exact⟨by rw[HL.out];rfl,(hE.drewN _).drewN _⟩
 have HL:=Lib.hid (Hw (Xg MX hy hx nx h));go_enter func203,ntmps203
 go_wp2
 go_ret
 exact⟨by rw[HL.out];rfl,Ext.refl _⟩
end Go.Proofs.YteldggljlnakmaaGreatDoor
namespace Go.Proofs
open Go.Shelf
def Er:Go.Shelf.Ren:=⟨λ| 169=>138 | n=>n,λ| 70=>206 | 9=>9 | 0=>0 | 72=>209 | 37=>207 | 127=>271 | 3=>3 | 5=>5 | n=>n,λ| n=>n⟩
theorem gn:Go.Proofs.Lays.n169 prog Er:=by constructor<;>intros<;>first | kernel_rfl | decide
theorem Dy:Builder.Extra prog Er:=by constructor<;>intros<;>first | kernel_rfl | decide | (constructor<;>intros<;>first | kernel_rfl | decide)
open Go.RowKit in
theorem Builder_String_any(B b:Nat)(l:List UInt8)(w:World)(h:Lib.IsBuilder 209 5 B b (Lib.byteCells l) w)(hBw:B<=w.heap.size):
  Calls prog 138 #[.pointer (some ⟨b,0,none⟩)] w λe w'=>e = .returned (.string ⟨l.toArray⟩)/\Below B w w':=Any.Builder_String_any gn Dy B b l w h hBw
def AV:Go.Shelf.Ren:=⟨λ| 125=>235 | 128=>268 | 129=>219 | n=>n,λ| 46=>261 | 3=>3 | 51=>298 | 53=>201 | 4=>4 | 5=>5 | 9=>9 | n=>n,λ| n=>n⟩
theorem dA:Go.Proofs.Lays.n125 prog AV:=by constructor<;>intros<;>first | kernel_rfl | decide
theorem bits_Len(x:Int)(w:World)(h0:0<=x)(h1:x<=18446744073709551615):
  Calls prog 235 #[.int .u64 x] w λe w'=>e = .returned (.int .i64 (Lib.bitLen x.toNat))/\w'=w:=Any.bits_Len dA x w h0 h1
def AT:Go.Shelf.Ren:=⟨λ| 134=>208 | 129=>219 | n=>n,λ| 53=>201 | 3=>3 | 4=>4 | 46=>261 | 5=>5 | 9=>9 | n=>n,λ| n=>n⟩
theorem gv:Go.Proofs.Lays.n134 prog AT:=by constructor<;>intros<;>first | kernel_rfl | decide
theorem bits_LeadingZeros64(x:Int)(w:World)(h0:0<=x)(h1:x<=18446744073709551615):
  Calls prog 208 #[.int .u64 x] w λe w'=>e = .returned (.int .i64 (64-(Lib.bitLen x.toNat:Int)))/\w'=w:=Any.bits_LeadingZeros64 gv x w h0 h1
def AX:Go.Shelf.Ren:=⟨λ| 103=>98 | 210=>165 | 206=>198 | n=>n,λ| 9=>9 | 4=>4 | 24=>170 | 3=>3 | n=>n,λ| n=>n⟩
theorem dE:Go.Proofs.Lays.n103 prog AX:=by constructor<;>intros<;>first | kernel_rfl | decide
open Go.RowKit in
theorem strings_CutPrefix(s p:ByteArray)(w:World):
  Calls prog 98 #[.string s,.string p] w λe w'=>e = .returned (.tuple #[.string ⟨(Lib.trimPrefix s.data.toList p.data.toList).toArray⟩,.bool (Lib.hasPrefix s.data.toList p.data.toList)])/\w'=w:=Any.strings_CutPrefix dE s p w
def AW:Go.Shelf.Ren:=⟨λ| 122=>170 | 215=>232 | n=>n,λ| 3=>3 | 4=>4 | n=>n,λ| n=>n⟩
theorem dC:Go.Proofs.Lays.n122 prog AW:=by constructor<;>intros<;>first | kernel_rfl | decide
open Go.RowKit in
theorem cmp_Compare_int(x y:Int)(w:World):
  Calls prog 170 #[.int .i64 x,.int .i64 y] w λe w'=>e = .returned (.int .i64 (Lib.compareInt x y))/\w'=w:=Any.cmp_Compare_int dC x y w
def AR:Go.Shelf.Ren:=⟨λ| 172=>128 | 244=>200 | 245=>201 | 247=>246 | 279=>247 | 280=>248 | 281=>249 | 282=>250 | 287=>273 | 316=>274 | 171=>133 | 205=>275 | 321=>287 | 322=>288 | 243=>205 | 246=>252 | 283=>253 | 284=>254 | 285=>255 | 286=>256 | 129=>219 | 317=>276 | 318=>277 | 319=>278 | 320=>279 | 337=>289 | 338=>290 | n=>n,λ| 9=>9 | 3=>3 | 75=>195 | 76=>196 | 4=>4 | 5=>5 | 167=>287 | 37=>207 | 0=>0 | 85=>288 | 2=>2 | 168=>290 | 53=>201 | 175=>312 | 46=>261 | 210=>316 | 127=>271 | 145=>331 | 143=>329 | 21=>21 | 171=>294 | 173=>296 | 212=>319 | 51=>298 | 20=>20 | 213=>320 | 232=>335 | 233=>336 | 80=>131 | n=>n,λ| 15=>3 | 16=>4 | 17=>5 | 18=>6 | 19=>7 | n=>n⟩
theorem gm:Go.Proofs.Lays.n172 prog AR:=by constructor<;>intros<;>first | kernel_rfl | decide
open Go.RowKit in
theorem strconv_Atoi(s:ByteArray)(n:Int)(hl:s.size<=18)(h:Lib.atoi s.data.toList=some n)(w:World):
  Calls prog 128 #[.string s] w λe w'=>e = .returned (.tuple #[.int .i64 n,.nilIface])/\∃t,w'=Lib.bytesWorld w 5 t:=Any.strconv_Atoi gm s n hl h w
def AU:Go.Shelf.Ren:=⟨λ| 129=>219 | n=>n,λ| 53=>201 | 3=>3 | 4=>4 | 46=>261 | 5=>5 | 9=>9 | n=>n,λ| n=>n⟩
theorem gz:Go.Proofs.Lays.n129 prog AU:=by constructor<;>intros<;>first | kernel_rfl | decide
theorem bits_Len64(x:Int)(w:World)(h0:0<=x)(h1:x<=18446744073709551615):
  Calls prog 219 #[.int .u64 x] w λe w'=>e = .returned (.int .i64 (Lib.bitLen x.toNat))/\w'=w:=Any.bits_Len64 gz x w h0 h1
def AP:Go.Shelf.Ren:=⟨λ| 283=>253 | n=>n,λ| 3=>3 | 9=>9 | 4=>4 | n=>n,λ| n=>n⟩
theorem gj:Go.Proofs.Lays.n283 prog AP:=by constructor<;>intros<;>first | kernel_rfl | decide
open Go.Lib in
theorem internal_strconv_small(i:Nat)(h:i<100)(w:World):
  Calls prog 253 #[.int .i64 i] w λe w'=>e = .returned (.string ⟨(Lib.decDigits i).toArray⟩)/\w'=w:=Any.internal_strconv_small gj i h w
def TZ:Go.Shelf.Ren:=⟨λ| 284=>254 | 129=>219 | 317=>276 | 318=>277 | n=>n,λ| 53=>201 | 3=>3 | 212=>319 | 0=>0 | 4=>4 | 46=>261 | 5=>5 | 9=>9 | n=>n,λ| 17=>5 | n=>n⟩
theorem zH:Go.Proofs.LaysM.n284 prog TZ:=by constructor<;>intros<;>first | kernel_rfl | decide | (constructor<;>intros<;>first | kernel_rfl | decide)
open Go.Lib in
theorem internal_strconv_numDigits(u:Nat)(h1:1<=u)(h2:u<18446744073709551616)(w:World)(htab:Lib.TabIs prog w "internal/strconv.uint64pow10" .u64 Lib.pow10Tab):
  Calls prog 254 #[.int .u64 u] w λe w'=>e = .returned (.int .i64 (Lib.nDigits u))/\w'=w:=Any.internal_strconv_numDigits zH u h1 h2 w htab
def AO:Go.Shelf.Ren:=⟨λ| 285=>255 | n=>n,λ| 37=>207 | 53=>201 | 3=>3 | 4=>4 | 51=>298 | 9=>9 | 5=>5 | 0=>0 | n=>n,λ| n=>n⟩
theorem gi:Go.Proofs.Lays.n285 prog AO:=by constructor<;>intros<;>first | kernel_rfl | decide
open Go.RowKit Go.Sort Go.Lib in
theorem internal_strconv_formatBase10(Dm off cap:Nat)(u:Nat)(d:Array UInt8)(w:World)(hH:Holds (λ(b:UInt8)=>Value.int .u8 (b.toNat:Int)) w Dm off d)(hu:u<10^d.size)(hu64:u<18446744073709551616)(hsz:d.size<4611686018427387904):
  Calls prog 255 #[.slice (some ⟨Dm,off,none⟩) d.size cap,.int .u64 u] w λe w' =>
   e = .returned (.tuple #[])/\∃(n v':Nat) (dk:Array UInt8),w'=(putRow (λ(b:UInt8)=>Value.int .u8 (b.toNat:Int)) w Dm off dk).drewN n/\FmtInv d.size u 0 v' dk:=Any.internal_strconv_formatBase10 gi Dm off cap u d w hH hu hu64 hsz
def Ta:Go.Shelf.Ren:=⟨λ| 171=>133 | 243=>205 | 246=>252 | 283=>253 | 284=>254 | 285=>255 | 286=>256 | 129=>219 | 317=>276 | 318=>277 | 319=>278 | 320=>279 | 337=>289 | 338=>290 | n=>n,λ| 3=>3 | 9=>9 | 2=>2 | 4=>4 | 171=>294 | 0=>0 | 53=>201 | 37=>207 | 5=>5 | 173=>296 | 212=>319 | 51=>298 | 20=>20 | 213=>320 | 46=>261 | 232=>335 | 233=>336 | n=>n,λ| 17=>5 | 18=>6 | 19=>7 | n=>n⟩
theorem zJ:Go.Proofs.LaysM.n171 prog Ta:=by constructor<;>intros<;>first | kernel_rfl | decide | (constructor<;>intros<;>first | kernel_rfl | decide)
open Go.RowKit Go.Sort Go.Lib in
theorem strconv_Itoa(n:Int)(h0 : -9223372036854775808<=n)(h1:n<=9223372036854775807)(w:World)(htab:Lib.TabIs prog w "internal/strconv.uint64pow10" .u64 Lib.pow10Tab):
  Calls prog 133 #[.int .i64 n] w λe w'=>e = .returned (.string ⟨(Lib.itoa n).toArray⟩)/\∃k os,w'=grow (w.drewN k) os:=Any.strconv_Itoa zJ n h0 h1 w htab
def AS:Go.Shelf.Ren:=⟨λ| 145=>61 | 220=>125 | 219=>197 | 217=>242 | 225=>243 | 224=>244 | 267=>245 | 266=>271 | 314=>272 | n=>n,λ| 9=>9 | 4=>4 | 59=>127 | 3=>3 | 5=>5 | 46=>261 | 146=>299 | 51=>298 | n=>n,λ| 1=>0 | n=>n⟩
theorem gq:Go.Proofs.Lays.n145 prog AS:=by constructor<;>intros<;>first | kernel_rfl | decide
open Go.RowKit Go.Lib in
theorem strings_Cut(s sep:ByteArray)(m:Int)(w:World)(hs:s.size<4294967281)(hm:w.cell? ⟨0,0,none⟩=some (.int .i64 m)):
  Calls prog 61 #[.string s,.string sep] w λe w'=>e = .returned (.tuple #[.string ⟨(Lib.cut s.data.toList sep.data.toList).1.toArray⟩,.string ⟨(Lib.cut s.data.toList sep.data.toList).2.1.toArray⟩,.bool (Lib.cut s.data.toList sep.data.toList).2.2])/\∃n,w'=w.drewN n:=Any.strings_Cut gq s sep m w hs hm
def Iz:Go.Shelf.Ren:=⟨λ| 99=>126 | 206=>198 | n=>n,λ| 9=>9 | 4=>4 | 3=>3 | n=>n,λ| n=>n⟩
theorem QA2:Go.Proofs.Lays.n99 prog Iz:=by constructor<;>intros<;>first | kernel_rfl | decide
open Go.RowKit Go.Lib in
theorem strings_HasPrefix(s p:ByteArray)(w:World):
  Calls prog 126 #[.string s,.string p] w λe w'=>e = .returned (.bool (Lib.hasPrefix s.data.toList p.data.toList))/\w'=w:=Any.strings_HasPrefix QA2 s p w
def AY:Go.Shelf.Ren:=⟨λ| 101=>127 | 208=>199 | 206=>198 | n=>n,λ| 9=>9 | 4=>4 | 3=>3 | n=>n,λ| n=>n⟩
theorem dF:Go.Proofs.Lays.n101 prog AY:=by constructor<;>intros<;>first | kernel_rfl | decide
open Go.RowKit Go.Lib in
theorem strings_TrimPrefix(s p:ByteArray)(w:World):
  Calls prog 127 #[.string s,.string p] w λe w'=>e = .returned (.string ⟨(Lib.trimPrefix s.data.toList p.data.toList).toArray⟩)/\w'=w:=Any.strings_TrimPrefix dF s p w
def AQ:Go.Shelf.Ren:=⟨λ| 264=>144 | n=>n,λ| 53=>201 | 46=>261 | n=>n,λ| n=>n⟩
theorem gk:Go.Proofs.Lays.n264 prog AQ:=by constructor<;>intros<;>first | kernel_rfl | decide
open Go.RowKit Go.Lib in
theorem bits_Mul64(x y:Nat)(hx:x<18446744073709551616)(hy:y<18446744073709551616)(w:World):
  Calls prog 144 #[.int .u64 x,.int .u64 y] w λe w'=>e = .returned (.tuple #[.int .u64 ((x*y/18446744073709551616:Nat):Int),.int .u64 ((x*y%18446744073709551616:Nat):Int)])/\w'=w:=Any.bits_Mul64 gk x y hx hy w
def Es:Go.Shelf.Ren:=⟨λ| 105=>136 | 212=>212 | 99=>126 | 165=>213 | 166=>137 | 170=>214 | 169=>138 | 263=>257 | 264=>144 | 206=>198 | 240=>215 | 241=>258 | 276=>259 | 277=>280 | n=>n,λ| 9=>9 | 3=>3 | 4=>4 | 20=>20 | 0=>0 | 46=>261 | 109=>268 | 5=>5 | 72=>209 | 76=>196 | 51=>298 | 146=>299 | 53=>201 | 148=>218 | 70=>206 | 37=>207 | 75=>195 | 127=>271 | 164=>301 | 80=>131 | n=>n,λ| n=>n⟩
theorem dD:Go.Proofs.Lays.n105 prog Es:=by constructor<;>intros<;>first | kernel_rfl | decide | (constructor<;>intros<;>first | kernel_rfl | decide)
theorem D1:Builder.Extra prog Es:=by constructor<;>intros<;>first | kernel_rfl | decide | (constructor<;>intros<;>first | kernel_rfl | decide)
open Go.RowKit Go.Lib in
theorem strings_Repeat(s:ByteArray)(c:Nat)(w:World)(hc:c<=9223372036854775807)(hlen:s.size*c<=140737488355328):
  Calls prog 136 #[.string s,.int .i64 c] w λe w'=>e = .returned (.string ⟨(Lib.repeatL s.data.toList c).toArray⟩)/\Below w.heap.size w w':=Any.strings_Repeat dD D1 s c w hc hlen
end Go.Proofs
namespace Go.Proofs.YteldggljlnakmaaGreatDoor
variable{w w' w0:World}{B E N b bytes i j k off s:Nat}{a:Act}{c:Code}{o:Obj}{ds la u:List Int}{A0 A1 A2 A3 A4 A5 A6 A7 A8 A9 α γ ι:Type}{T T' e ty yT:TypeId}{args cs l l' news vs z:List Value}{ops:Array Oper}{Q Q':Exit->Act->World->Prop}{g:Bool}{K:Act->World->Prop}{x y:Operand}{bs bs' bs0:List (Nat×Obj)}{q:Option Addr}{P:Program}{f:Obj->List (Nat×Obj)}{fn:Func}{aft:Array Edge}{x1:Nat×Obj}{v1 v3 v4 v5 x2 x3 x4 x5 x6 x7 x8:Value}{ps:List (Nat×Value)}{rs:List ResultVar}{k':IntKind}{ob:List _}{pl:List (Nat×Nat)}{h:Int}{F F0:Gs}{G G':Gs->Prop}{m:Sl}
open Go.RowKit
section
variable{P:Program}{N:Nat}{m:Sl}{S:World->Prop}{ty:TypeId}{T yT:TypeId}{x y:Operand}{a b:Nat}{k:IntKind}
theorem UP(n:Int):IntKind.u64.wrap n=n%18446744073709551616:=rfl
theorem Ia(hx:ev m x=some (.int .u64 (a:Int)))(hy:ev m y=some (.int k (b:Int)))(z:Nat)(h:b<=64/\a*2^b%18446744073709551616=z):Qt P N m S (.binOp .shl T x y yT) ty (.int .u64 (z:Int)):=λs w _ _ _ _ ha _=>by
 have h1:min b 64=b:=O;have h2:¬((b:Int)<0):=O;have h3:IntKind.u64.wrap ((a:Int)*2^b)=(z:Int):=by
  rw[UP,<-h.2,Int.natCast_emod,Int.natCast_mul,Int.natCast_pow];rfl
 simp[execOp,ha.ev hx,ha.ev hy,eqGuard,binOp,Op.shift,IntKind.bits,h1,h2,h3]
theorem TN(hx:ev m x=some (.int .u64 (a:Int)))(hy:ev m y=some (.int k (b:Int)))(z:Nat)(h:b<=64/\a/2^b=z):Qt P N m S (.binOp .shr T x y yT) ty (.int .u64 (z:Int)):=λs w _ _ _ _ ha _=>by
 have h1:min b 64=b:=O;have h2:¬((b:Int)<0):=O;have h3:(a:Int)/2^b=(z:Int):=by
  grind
 simp[execOp,ha.ev hx,ha.ev hy,eqGuard,binOp,Op.shift,IntKind.bits,h1,h2];exact h3
theorem G6(n:Nat)(h:n<18446744073709551616):(BitVec.ofInt 64 (n:Int)).toNat=n:=by
 simp_all
theorem xL(hx:ev m x=some (.int .u64 (a:Int)))(hy:ev m y=some (.int .u64 ((4294967295:Nat):Int)))(z:Nat)(h:a<18446744073709551616/\a%4294967296=z):Qt P N m S (.binOp .and T x y yT) ty (.int .u64 (z:Int)):=λs w _ _ _ _ ha _=>by
 have e:IntKind.u64.wrap (((BitVec.ofInt 64 (a:Int) &&& BitVec.ofInt 64 ((4294967295:Nat):Int)).toNat:Nat):Int)=(z:Int):=by
  rw[BitVec.toNat_and,G6 a h.1,G6 _ wv,show(4294967295:Nat)=2^32-1 by decide,Nat.and_two_pow_sub_one_eq_mod,UP];omega
 have e2:(do eqGuard .and T x y (.int .u64 (a:Int)) (.int .u64 ((4294967295:Nat):Int));binOp .and T (.int .u64 (a:Int)) (.int .u64 ((4294967295:Nat):Int)):Sem Value).run P w = .ok (.int .u64 (z:Int)) w:=by
  rw[<-e];rfl
 simp only[execOp,ha.ev hx,ha.ev hy];simp only[Sem.run_bind]at e2 ⊢;simp_all
theorem QD2(hx:ev m x=some (.int .u64 (a:Int)))(hy:ev m y=some (.int .u64 (b:Int)))(z:Nat)(h:a<18446744073709551616/\(∃c k,a=c*2^k/\b<2^k)/\b<18446744073709551616/\a+b=z):Qt P N m S (.binOp .or T x y yT) ty (.int .u64 (z:Int)):=λs w _ _ _ _ ha _=>by
 have e:IntKind.u64.wrap (((BitVec.ofInt 64 (a:Int) ||| BitVec.ofInt 64 (b:Int)).toNat:Nat):Int)=(z:Int):=by
  grind[Nat.mul_comm,Nat.two_pow_add_eq_or_of_lt,Nat.or_lt_two_pow,BitVec.toNat_or,G6,UP]
 have e2:(do eqGuard .or T x y (.int .u64 (a:Int)) (.int .u64 (b:Int));binOp .or T (.int .u64 (a:Int)) (.int .u64 (b:Int)):Sem Value).run P w = .ok (.int .u64 (z:Int)) w:=by
  rw[<-e];rfl
 simp only[execOp,ha.ev hx,ha.ev hy];simp only[Sem.run_bind]at e2 ⊢;simp_all
theorem W3(hx:ev m x=some (.int .u64 (a:Int)))(hy:ev m y=some (.int .u64 (b:Int)))(z:Nat)(h:(a+b)%18446744073709551616=z):Qt P N m S (.binOp .add T x y yT) ty (.int .u64 (z:Int)) :=
 QR hx hy (by show some _=_;rw[UP];grind)
theorem Vc(hx:ev m x=some (.int .u64 (a:Int)))(hy:ev m y=some (.int .u64 (b:Int)))(z:Nat)(h:a*b%18446744073709551616=z):Qt P N m S (.binOp .mul T x y yT) ty (.int .u64 (z:Int)) :=
 QR hx hy (by show some _=_;rw[UP,<-Int.natCast_mul];grind)
theorem W2(hx:ev m x=some (.int .u64 (a:Int)))(hy:ev m y=some (.int .u64 (b:Int)))(z:Nat)(h:b<18446744073709551616/\(a+18446744073709551616-b)%18446744073709551616=z):Qt P N m S (.binOp .sub T x y yT) ty (.int .u64 (z:Int)) :=
 QR hx hy (by show some _=_;rw[UP];grind)
theorem Ib(hx:ev m x=some (.int .u64 (a:Int)))(hy:ev m y=some (.int .u64 (b:Int)))(z:Nat)(h:0<b/\a<18446744073709551616/\a/b=z):Qt P N m S (.binOp .quo T x y yT) ty (.int .u64 (z:Int)):=by
 have:=Lv (P:=P) (N:=N) (S:=S) (ty:=ty) (T:=T) (yT:=yT) hx hy O;have e:IntKind.u64.wrap ((a:Int).tdiv b)=(z:Int):=by
  have h1:=Nat.div_le_self a b
  grind[Int.tdiv_eq_ediv_of_nonneg,Int.natCast_ediv,UP]
 simp_all
theorem QAg(hx:ev m x=some (.int .u64 (a:Int)))(hy:ev m y=some (.int .u64 (b:Int)))(z:Nat)(h:0<b/\a%b=z):Qt P N m S (.binOp .rem T x y yT) ty (.int .u64 (z:Int)):=by
 have:=Kr (P:=P) (N:=N) (S:=S) (ty:=ty) (T:=T) (yT:=yT) hx hy O O
 grind
end
section
variable{D yn1 yn0 u un q r:Nat}
theorem zU(hD:D=4294967296)(h:q*yn1+r=u)(hc:q*yn0<=D*r+un):q*(yn1*D+yn0)<=u*D+un:=by
 subst hD
 grind
def dM(hy:0<yn1*D+yn0)(hq:(u*D+un)/(yn1*D+yn0)<=q)(h:q*(yn1*D+yn0)<=u*D+un):q=(u*D+un)/(yn1*D+yn0) :=
 Nat.le_antisymm ((Nat.le_div_iff_mul_le hy).2 h) hq
def EK(hD:D=4294967296)(hy:0<yn1*D+yn0)(h:q*yn1+r=u)(hq:(u*D+un)/(yn1*D+yn0)<=q)(hc:q*yn0<=D*r+un):q=(u*D+un)/(yn1*D+yn0):=dM hy hq (zU hD h hc)
theorem DZ(hD:D=4294967296)(hy:0<yn1*D+yn0)(h0:yn0<D)(h:q*yn1+r=u)(hq:(u*D+un)/(yn1*D+yn0)<=q)(hqD:q<=D)(hr:D<=r):q=(u*D+un)/(yn1*D+yn0):=by
 refine EK hD hy h hq ?_;have h1:q*yn0<=D*D:=Nat.mul_le_mul hqD O
 grind
theorem Yh(hD:D=4294967296)(hy:0<yn1*D+yn0)(hu:u<yn1*D+yn0)(hun:un<D)(h:q*yn1+r=u)(hc:D<=q\/D*r+un<q*yn0):(u*D+un)/(yn1*D+yn0)<q:=by
 rw[Nat.div_lt_iff_lt_mul hy];rcases hc with hc | hc
 ·have h1:D*(yn1*D+yn0)<=q*(yn1*D+yn0):=Nat.mul_le_mul_right _ hc
  grind
 subst hD
 grind
theorem PU(hD:D=4294967296)(h1:2147483648<=yn1)(hun:un<D):(u*D+un)/(yn1*D+yn0)<=u/yn1:=by
 have h2:0<yn1*D:=by grind
 refine Nat.le_trans (Nat.div_le_div_left (Nat.le_add_right _ yn0) h2) ?_;rw[Nat.mul_comm yn1,<-Nat.div_div_eq_div_mul]
 grind
theorem Et(hD:D=4294967296)(h1:2147483648<=yn1)(h0:yn0<D)(hu:u<yn1*D+yn0):u/yn1<=D+1:=by
 have:u/yn1<D+2:=by
  rw[Nat.div_lt_iff_lt_mul O]
  grind
 omega
end
structure Sx(yn1 yn0 u un:Nat) where
 q:Nat
 r:Nat
 h:q*yn1+r=u
 le:(u*4294967296+un)/(yn1*4294967296+yn0)<=q
 up:q<=4294967297
 lo:r<4294967296
theorem Yg{q yn1 r u:Nat}(h:q*yn1+r=u)(hq:1<=q):(q-1)*yn1+(r+yn1)=u:=by
 obtain⟨k,rfl⟩:∃k,q=k+1:=⟨q-1,O⟩;rw[Nat.add_mul]at h;rw[Nat.add_sub_cancel];omega
def OJ{q a:Nat}(hq:q<4294967296)(ha:a<4294967296):q*a<18446744073709551616:=by
 have:q*a<=4294967295*4294967295:=Nat.mul_le_mul O O;omega
def Mi{S:World->Prop}{src dst:TypeId}{n:Nat}(hx:ev m x=some (.int k' (n:Int)))(hs:(P.underlying src).isSome=true)(hk:SX P dst=some .u64)(h:n<18446744073709551616):Qt P N m S (.convert src dst x) ty (.int .u64 (n:Int)):=by
 have:=SC (P:=P) (N:=N) (m:=m) (S:=S) (ty:=ty) hx hs hk;rw[UP,Int.emod_eq_of_lt O O]at this;exact this
def QQ.same[Dr]{P:Program}{f:FuncId}{args:List Value}{w:World}{F:Gs}{v:Value}(he:Enters P f)(hF:Fits F w)(h:Calls P f args.toArray w λe w'=>e = .returned v/\w'=w):QQ P f args w F (λ(_:Unit)=>v) (λ_ _=>True) :=
 ⟨he,h.mono λe w' ⟨h1,h2⟩=>⟨(),F,h1,by rw[h2];exact RF.refl _,Gs.le_refl F,λ_ _=>rfl,by rw[h2];exact hF,λ_ _=>trivial⟩⟩
theorem OB{y:Nat}(h0:0<y)(h1:y<18446744073709551616):∃s:Nat,(64-(Lib.bitLen y:Int))=s/\s<64/\y*2^s<18446744073709551616/\9223372036854775808<=y*2^s:=by
 obtain⟨g1,g2,g3⟩:=Lib.bitLenAux_bounds 64 y h1 O;have g4:Lib.bitLen y<=64:=Lib.bitLen_le y 64 O h1;change 1<=Lib.bitLen y at g1;change 2^(Lib.bitLen y-1)<=y at g2;change y<2^Lib.bitLen y at g3;generalize Lib.bitLen y=n at *
 refine⟨64-n,O,O,?_,?_⟩
 ·have e:2^n*2^(64-n)=18446744073709551616:=by rw[<-Nat.pow_add,show n+(64-n)=64 by omega]
  rw[<-e];exact Nat.mul_lt_mul_of_pos_right g3 (Nat.two_pow_pos _)
 have e:2^(n-1)*2^(64-n)=9223372036854775808:=by rw[<-Nat.pow_add,show n-1+(64-n)=63 by omega]
 rw[<-e];exact Nat.mul_le_mul_right _ g2
theorem QAz{y s:Nat}(hF:Fits F w)(h1:y<18446744073709551616)(hs:(64-(Lib.bitLen y:Int))=s):QQ prog 208 [.int .u64 (y:Int)] w F (λ(_:Unit)=>.int .i64 (s:Int)) (λ_ _=>True) :=
 QQ.same (enters_of func208 w8 rfl) hF ((bits_LeadingZeros64 (y:Int) w O O).mono λe w' ⟨h2,h3⟩=>⟨by rw[h2,Int.toNat_natCast,hs],h3⟩)
def CW{A R1 R0 u v v1 v0:Nat}(h1:A+R1=u*4294967296+v1)(h2:B+R0=R1*4294967296+v0)(h3:v=v1*4294967296+v0):A*4294967296+B+R0=u*18446744073709551616+v:=by
 subst h3;omega
def Ak{q a r:Nat}(h:((q*a:Nat):Int)>(r:Int)):1<=q:=by
 rcases Nat.eq_zero_or_pos q with h0 | h0
 ·subst h0;simp at h;omega
 exact h0
def QBA{q:Nat}(h:q<4294967296):q*4294967296%18446744073709551616=q*4294967296:=O
def QBB{q p:Nat}(h:q<4294967296)(k:p<4294967296):(q*4294967296+p)%18446744073709551616=q*4294967296+p:=O
theorem pA{h l y:Nat}(hF:Fits F w)(hh:h<y)(hl:l<18446744073709551616)(hy:y<18446744073709551616):
  QQ prog 206 [.int .u64 (h:Int),.int .u64 (l:Int),.int .u64 (y:Int)] w F (λ(_:Unit)=>.tuple #[.int .u64 (((h*18446744073709551616+l)/y:Nat):Int),.int .u64 (((h*18446744073709551616+l)%y:Nat):Int)]) (λ_ _=>True):=by
 obtain⟨s,hs,hs64,hY1,hY2⟩:=OB O hy;obtain⟨Y,hYe⟩:∃Y,Y=y*2^s:=⟨_,rfl⟩;obtain⟨a1,ha1⟩:∃a1,a1=Y/4294967296:=⟨_,rfl⟩;obtain⟨a0,ha0⟩:∃a0,a0=Y%4294967296:=⟨_,rfl⟩;obtain⟨u,hu⟩:∃u,u=h*2^s+l/2^(64-s):=⟨_,rfl⟩;obtain⟨v,hv⟩:∃v,v=l*2^s%18446744073709551616:=⟨_,rfl⟩;obtain⟨v1,hv1⟩:∃v1,v1=v/4294967296:=⟨_,rfl⟩;obtain⟨v0,hv0⟩:∃v0,v0=v%4294967296:=⟨_,rfl⟩;rw[<-hYe]at hY1 hY2;have hA1:2147483648<=a1:=O;have ha0l:a0<4294967296:=O;have hv1l:v1<4294967296:=O;have hv0l:v0<4294967296:=O;have hYa:a1*4294967296+a0=Y:=O;have e64:2^(64-s)*2^s=18446744073709551616:=by rw[<-Nat.pow_add,show 64-s+s=64 by omega]
 have hp:=Nat.two_pow_pos s;have hlow:l/2^(64-s)<2^s:=by rw[Nat.div_lt_iff_lt_mul (Nat.two_pow_pos _),Nat.mul_comm,e64];exact hl
 have hhs:h*2^s+2^s<=Y:=by have:=Nat.mul_le_mul_right (2^s) hh;rw[Nat.succ_mul]at this;omega
 have huY:u<Y:=O;have hNv:u*18446744073709551616+v=(h*18446744073709551616+l)*2^s:=by
  have h1:l*2^s/18446744073709551616=l/2^(64-s):=by rw[<-e64,Nat.mul_div_mul_right _ _ hp]
  have h2:=Nat.div_add_mod (l*2^s) 18446744073709551616;rw[h1,<-hv]at h2;rw[hu,Nat.add_mul,Nat.add_mul,Nat.mul_right_comm];omega
 obtain⟨Q1,hQ1⟩:∃Q1,Q1=(u*4294967296+v1)/(a1*4294967296+a0):=⟨_,rfl⟩;obtain⟨R1,hR1⟩:∃R1,R1=(u*4294967296+v1)%(a1*4294967296+a0):=⟨_,rfl⟩;have hY0:0<a1*4294967296+a0:=O;have hR1l:R1<Y:=by rw[hR1,<-hYa];exact Nat.mod_lt _ hY0
 have hD1:Q1*Y+R1=u*4294967296+v1:=by rw[hQ1,hR1,<-hYa,Nat.mul_comm];exact Nat.div_add_mod _ _
 have hQ1l:Q1<4294967296:=by rw[hQ1,Nat.div_lt_iff_lt_mul hY0,hYa];omega
 obtain⟨Q0,hQ0⟩:∃Q0,Q0=(R1*4294967296+v0)/(a1*4294967296+a0):=⟨_,rfl⟩;obtain⟨R0,hR0⟩:∃R0,R0=(R1*4294967296+v0)%(a1*4294967296+a0):=⟨_,rfl⟩;have hR0l:R0<Y:=by rw[hR0,<-hYa];exact Nat.mod_lt _ hY0
 have hD0:Q0*Y+R0=R1*4294967296+v0:=by rw[hQ0,hR0,<-hYa,Nat.mul_comm];exact Nat.div_add_mod _ _
 have hQ0l:Q0<4294967296:=by rw[hQ0,Nat.div_lt_iff_lt_mul hY0,hYa];omega
 have hall:(Q1*4294967296+Q0)*Y+R0=(h*18446744073709551616+l)*2^s:=by
  rw[<-hNv,Nat.add_mul,Nat.mul_right_comm];exact CW hD1 hD0 O
 have hq:(h*18446744073709551616+l)/y=Q1*4294967296+Q0:=by
  have:=Nat.mul_div_mul_right (h*18446744073709551616+l) y hp;rw[<-this,<-hall,<-hYe,Nat.mul_comm _ Y,Nat.mul_add_div O,Nat.div_eq_of_lt hR0l,Nat.add_zero]
 have hr:(h*18446744073709551616+l)%y=R0/2^s:=by
  have:=Nat.mul_mod_mul_right (2^s) (h*18446744073709551616+l) y;rw[<-hall,<-hYe,Nat.mul_comm _ Y,Nat.mul_add_mod,Nat.mod_eq_of_lt hR0l]at this;rw[this,Nat.mul_div_cancel _ hp]
 refine QQ.intro (G:=λ_=>True) func206 rfl w8 rfl rfl hF tB<|QKt<|QJk rfl<|wR rfl<|QG<|wS rfl<|QA (QR rfl rfl rfl)<|QF<|QC ?_
 refine QL I (λhc=>?_) λhc=>?_
 ·exact absurd hc (by simp at hc;omega)
 refine QLj 10 I ?_;refine QL I (λhc=>?_) λhc=>?_
 ·exact absurd hc (by simp at hc;omega)
 refine QLj 9 I ?_;refine QL I (λhc=>?_) λhc=>?_
 ·refine QG<|JC QJ3 mixed wu<|QI (QD I)<|QI (QD I)<|QI (Ib I I (l/y) (⟨O,O,rfl⟩))<|QI (QD I)<|QI (QD I)<|QI (QAg I I (l%y) (⟨O,rfl⟩))<|QI (QE I)<|QI (QE I)<|Qv<|QC<|QT ?_
  exact J7 () I (wP I I) (by have h0:h=0:=(by simp at hc;omega);subst h0;simp) tB
 refine QLj 5 I<|QJ I (λ_ _ f k=>QAz (s:=s) f O hs) λc35=>QA (Mi I vJ OG O)<|QLi 7 I<|QA (Ia I I (Y) (⟨O,by rw[<-hYe];omega⟩))<|QLi 6 I<|QA (TN (b:=32) rfl rfl (a1) (⟨wv,ha1.symm⟩))<|QLi 6 I<|QA (xL I I (a0) (⟨O,ha0.symm⟩))<|QLi 7 I<|QA (Ia I I (h*2^s) (⟨O,Nat.mod_eq_of_lt O⟩))<|wB 2 I<|QA (W2 (a:=64) rfl rfl (64-s) (⟨O,O⟩))<|QA (TN I I (l/2^(64-s)) (⟨O,rfl⟩)) ?_
 refine QA (QD2 I I (u) (⟨O,⟨h,s,rfl,hlow⟩,O,hu.symm⟩))<|QLi 7 I<|QA (Ia I I (v) (⟨O,hv.symm⟩))<|QLi 6 I<|QA (TN (b:=32) rfl rfl (v1) (⟨wv,hv1.symm⟩))<|QLi 6 I<|QA (xL I I (v0) (⟨O,hv0.symm⟩))<|QLi 7 I<|QA (Ib I I (u/a1) (⟨O,O,rfl⟩))<|QLi 8 I<|QA (Vc I I (u/a1*a1) (wm<|Nat.div_mul_le_self u a1))<|QA (W2 I I (u%a1) (by have:=Nat.div_add_mod u a1;rw[Nat.mul_comm]at this;have:=Nat.div_mul_le_self u a1;omega)) ?_
 refine QLi 3 I ?_;refine Hg (ι:=Unit) (λ_=>[(2,.int .u64 ((Y:Nat):Int)),(8,.int .u64 ((s:Nat):Int)),(9,.int .u64 ((a1:Nat):Int)),(10,.int .u64 ((a0:Nat):Int)),(11,.int .u64 ((u:Nat):Int)),(13,.int .u64 ((v1:Nat):Int)),(14,.int .u64 ((v0:Nat):Int)),(15,.int .u64 ((Q1:Nat):Int))]) (λ_=>[]) (λ_ _=>True) ?_ ?_
 ·refine QO<|EY (ι:=Sx a1 a0 u v1) (λi=>[(2,.int .u64 ((Y:Nat):Int)),(8,.int .u64 ((s:Nat):Int)),(9,.int .u64 ((a1:Nat):Int)),(10,.int .u64 ((a0:Nat):Int)),(11,.int .u64 ((u:Nat):Int)),(13,.int .u64 ((v1:Nat):Int)),(14,.int .u64 ((v0:Nat):Int)),(15,.int .u64 ((i.q:Nat):Int)),(16,.int .u64 ((i.r:Nat):Int))]) (λ_=>[]) (λ_ _=>True) (λi=>i.q) ⟨u/a1,u%a1,by rw[Nat.mul_comm];exact Nat.div_add_mod u a1,PU I hA1 hv1l,Et I hA1 ha0l O,by have:=Nat.mod_lt u (show a1>0 by omega);omega⟩ wg λi=>wA 6 I ?_
  refine Qn (t:=69) rfl (λhb69=>?_) λhb69=>?_
  ·refine QLi 11 I ?_;refine QL I (λhc=>?_) λhc=>?_
   ·refine QLj 6 I<|QA (W2 (b:=1) rfl rfl (i.q-1) (⟨wv,by have:=i.up;have:=QK8 hb69;omega⟩))<|QLi 7 I<|QA (W3 I I (i.r+a1) (wm i.lo))<|QLi 9 I ?_
    refine QL I (λhc=>?_) λhc=>?_
    ·refine Y5 ?_
     repeat first|refine XD ?_|refine J0 w8 ?_
     refine XE ?_;simp only[decide_eq_true_eq]at *;have more:=Yh (un:=v1) (D:=4294967296) rfl O O O i.h (.inl O);exact XG () ⟨rfl,rfl,rfl,rfl,rfl,rfl,rfl,congrArg (λn:Nat=>some (Value.int .u64 (n:Int))) ((DZ I O ha0l (Yg i.h O) (by rw[<-hQ1];rw[<-hQ1]at more;omega) (wm i.up) O).trans hQ1.symm),trivial⟩
    refine QK<|Qa ?_
    simp only[decide_eq_true_eq,decide_eq_false_iff_not]at *;have more:=Yh (un:=v1) (D:=4294967296) rfl O O O i.h (.inl O);exact Qb (⟨i.q-1,i.r+a1,Yg i.h O,O,wm i.up,O⟩:Sx a1 a0 u v1)
   refine Y5 ?_
   repeat first|refine XD ?_|refine J0 w8 ?_
   refine XE ?_;cases hc
  refine wB 5 I<|QA (Vc I I (i.q*a0) (Nat.mod_eq_of_lt (OJ (wm<|QK9 hb69) ha0l)))<|wB 3 I<|QA (Vc (a:=4294967296) rfl rfl (4294967296*i.r) (wm i.lo))<|wB 3 I<|QA (W3 I I (4294967296*i.r+v1) (wm i.lo))<|QLi 5 I ?_
  refine QL I (λhc=>?_) λhc=>?_
  ·refine QLj 6 I<|QA (W2 (b:=1) rfl rfl (i.q-1) (⟨wv,by have:=i.up;have:=Ak (QK8 hc);omega⟩))<|QLi 7 I<|QA (W3 I I (i.r+a1) (wm i.lo))<|QLi 9 I ?_
   refine QL I (λhc=>?_) λhc=>?_
   ·refine Y5 ?_
    repeat first|refine XD ?_|refine J0 w8 ?_
    refine XE ?_;simp only[decide_eq_true_eq]at *;have more:=Yh (un:=v1) (D:=4294967296) rfl O O O i.h (.inr O);exact XG () ⟨rfl,rfl,rfl,rfl,rfl,rfl,rfl,congrArg (λn:Nat=>some (Value.int .u64 (n:Int))) ((DZ I O ha0l (Yg i.h O) (by rw[<-hQ1];rw[<-hQ1]at more;omega) (wm i.up) O).trans hQ1.symm),trivial⟩
   refine QK<|Qa ?_
   simp only[decide_eq_true_eq,decide_eq_false_iff_not]at *;have more:=Yh (un:=v1) (D:=4294967296) rfl O O O i.h (.inr O);exact Qb (⟨i.q-1,i.r+a1,Yg i.h O,O,wm i.up,O⟩:Sx a1 a0 u v1)
  refine Y5 ?_
  repeat first|refine XD ?_|refine J0 w8 ?_
  refine XE ?_;simp only[decide_eq_false_iff_not]at *;exact XG () ⟨rfl,rfl,rfl,rfl,rfl,rfl,rfl,congrArg (λn:Nat=>some (Value.int .u64 (n:Int))) ((EK I O i.h i.le O).trans hQ1.symm),trivial⟩
 intro i;refine wS I<|QA (Vc (b:=4294967296) rfl rfl (u*4294967296%18446744073709551616) (rfl))<|QJj I<|QA (W3 I I ((u*4294967296+v1)%18446744073709551616) O)<|wB 2 I<|QA (Vc I I (Q1*Y%18446744073709551616) (rfl))<|QA (W2 I I (R1) (⟨O,by generalize Q1*Y=B at *;omega⟩))<|QLi 7 I<|QA (Ib I I (R1/a1) (⟨O,O,rfl⟩))<|QLi 8 I<|QA (Vc I I (R1/a1*a1) (wm<|Nat.div_mul_le_self R1 a1))<|QA (W2 I I (R1%a1) (by have:=Nat.div_add_mod R1 a1;rw[Nat.mul_comm]at this;have:=Nat.div_mul_le_self R1 a1;omega))<|QLi 3 I ?_
 refine Hg (ι:=Unit) (λ_=>[(2,.int .u64 ((Y:Nat):Int)),(8,.int .u64 ((s:Nat):Int)),(14,.int .u64 ((v0:Nat):Int)),(15,.int .u64 ((Q1:Nat):Int)),(17,.int .u64 ((R1:Nat):Int)),(18,.int .u64 ((Q0:Nat):Int))]) (λ_=>[]) (λ_ _=>True) ?_ ?_
 ·refine QO<|EY (ι:=Sx a1 a0 R1 v0) (λi=>[(2,.int .u64 ((Y:Nat):Int)),(8,.int .u64 ((s:Nat):Int)),(9,.int .u64 ((a1:Nat):Int)),(10,.int .u64 ((a0:Nat):Int)),(14,.int .u64 ((v0:Nat):Int)),(15,.int .u64 ((Q1:Nat):Int)),(17,.int .u64 ((R1:Nat):Int)),(18,.int .u64 ((i.q:Nat):Int)),(16,.int .u64 ((i.r:Nat):Int))]) (λ_=>[]) (λ_ _=>True) (λi=>i.q) ⟨R1/a1,R1%a1,by rw[Nat.mul_comm];exact Nat.div_add_mod R1 a1,PU I hA1 hv0l,Et I hA1 ha0l O,by have:=Nat.mod_lt R1 (show a1>0 by omega);omega⟩ wg λi=>wA 6 I ?_
  refine Qn (t:=104) rfl (λhb104=>?_) λhb104=>?_
  ·refine QLi 11 I ?_;refine QL I (λhc=>?_) λhc=>?_
   ·refine QLj 6 I<|QA (W2 (b:=1) rfl rfl (i.q-1) (⟨wv,by have:=i.up;have:=QK8 hb104;omega⟩))<|QLi 7 I<|QA (W3 I I (i.r+a1) (wm i.lo))<|QLi 9 I ?_
    refine QL I (λhc=>?_) λhc=>?_
    ·refine Y5 ?_
     repeat first|refine XD ?_|refine J0 w8 ?_
     refine XE ?_;simp only[decide_eq_true_eq]at *;have more:=Yh (un:=v0) (D:=4294967296) rfl O O O i.h (.inl O);exact XG () ⟨rfl,rfl,rfl,rfl,rfl,congrArg (λn:Nat=>some (Value.int .u64 (n:Int))) ((DZ I O ha0l (Yg i.h O) (by rw[<-hQ0];rw[<-hQ0]at more;omega) (wm i.up) O).trans hQ0.symm),trivial⟩
    refine QK<|Qa ?_
    simp only[decide_eq_true_eq,decide_eq_false_iff_not]at *;have more:=Yh (un:=v0) (D:=4294967296) rfl O O O i.h (.inl O);exact Qb (⟨i.q-1,i.r+a1,Yg i.h O,O,wm i.up,O⟩:Sx a1 a0 R1 v0)
   refine Y5 ?_
   repeat first|refine XD ?_|refine J0 w8 ?_
   refine XE ?_;cases hc
  refine wB 5 I<|QA (Vc I I (i.q*a0) (Nat.mod_eq_of_lt (OJ (wm<|QK9 hb104) ha0l)))<|wB 3 I<|QA (Vc (a:=4294967296) rfl rfl (4294967296*i.r) (wm i.lo))<|wB 3 I<|QA (W3 I I (4294967296*i.r+v0) (wm i.lo))<|QLi 5 I ?_
  refine QL I (λhc=>?_) λhc=>?_
  ·refine QLj 6 I<|QA (W2 (b:=1) rfl rfl (i.q-1) (⟨wv,by have:=i.up;have:=Ak (QK8 hc);omega⟩))<|QLi 7 I<|QA (W3 I I (i.r+a1) (wm i.lo))<|QLi 9 I ?_
   refine QL I (λhc=>?_) λhc=>?_
   ·refine Y5 ?_
    repeat first|refine XD ?_|refine J0 w8 ?_
    refine XE ?_;simp only[decide_eq_true_eq]at *;have more:=Yh (un:=v0) (D:=4294967296) rfl O O O i.h (.inr O);exact XG () ⟨rfl,rfl,rfl,rfl,rfl,congrArg (λn:Nat=>some (Value.int .u64 (n:Int))) ((DZ I O ha0l (Yg i.h O) (by rw[<-hQ0];rw[<-hQ0]at more;omega) (wm i.up) O).trans hQ0.symm),trivial⟩
   refine QK<|Qa ?_
   simp only[decide_eq_true_eq,decide_eq_false_iff_not]at *;have more:=Yh (un:=v0) (D:=4294967296) rfl O O O i.h (.inr O);exact Qb (⟨i.q-1,i.r+a1,Yg i.h O,O,wm i.up,O⟩:Sx a1 a0 R1 v0)
  refine Y5 ?_
  repeat first|refine XD ?_|refine J0 w8 ?_
  refine XE ?_;simp only[decide_eq_false_iff_not]at *;exact XG () ⟨rfl,rfl,rfl,rfl,rfl,congrArg (λn:Nat=>some (Value.int .u64 (n:Int))) ((EK I O i.h i.le O).trans hQ0.symm),trivial⟩
 intro i;refine wS I<|QA (Vc (b:=4294967296) rfl rfl (Q1*4294967296) (QBA hQ1l))<|QJj I<|QA (W3 I I (Q1*4294967296+Q0) (QBB hQ1l hQ0l))<|QJj I<|QA (Vc (b:=4294967296) rfl rfl (R1*4294967296%18446744073709551616) (rfl))<|QJj I<|QA (W3 I I ((R1*4294967296+v0)%18446744073709551616) O)<|wB 2 I<|QA (Vc I I (Q0*Y%18446744073709551616) (rfl))<|QA (W2 I I (R0) (⟨O,by generalize Q0*Y=B at *;omega⟩))<|QJj I<|QA (TN I I (R0/2^s) (⟨O,rfl⟩))<|QLi 5 I ?_
 exact J7 () I (wP I I) (by rw[hq,hr]) tB
open Go.RowKit Ig
def Xz(x y:Int):Int:=x*y/W
def Jv(x y:Int):Int:=x*y%W
theorem YN(x y:Int)(w:World)(hx:0<=x/\x<W)(hy:0<=y/\y<W):
  Calls prog 144 #[.int .u64 x,.int .u64 y] w λe w'=>e = .returned (.tuple #[.int .u64 (Xz x y),.int .u64 (Jv x y)])/\w=w':=by
 obtain⟨a,rfl⟩:=Int.eq_ofNat_of_zero_le hx.1;obtain⟨b,rfl⟩:=Int.eq_ofNat_of_zero_le hy.1;have hW:W=18446744073709551616:=rfl;refine(bits_Mul64 a b O O w).mono ?_;rintro e w' ⟨rfl,rfl⟩;refine⟨?_,rfl⟩;unfold Xz Jv;rw[hW];simp only[Int.natCast_ediv,Int.natCast_emod,Int.natCast_mul];rfl
def LF(h l y:Int):Int:=(h*W+l)/y
def Ce(h l y:Int):Int:=(h*W+l)%y
def IP(w:World):Gs:=λb=>match w.heap[b]? with | some (.cells c T _)=>some (c,T) | _=>none
theorem Ur(w:World):Fits (IP w) w:=by
 refine⟨λb c T h=>?_,λb c fr h=>?_⟩
 ·unfold IP at h;split at h
  ·rename_i c' T' fr e;cases h;exact⟨fr,e⟩
  cases h
 unfold IP;rw[h]
theorem Sd(h l y:Int)(w:World)(hh:0<=h/\h<y)(hl:0<=l/\l<W)(hy:y<W):
  Calls prog 206 #[.int .u64 h,.int .u64 l,.int .u64 y] w λe w'=>e = .returned (.tuple #[.int .u64 (LF h l y),.int .u64 (Ce h l y)])/\Ext w w':=by
 obtain⟨a,rfl⟩:=Int.eq_ofNat_of_zero_le hh.1;obtain⟨b,rfl⟩:=Int.eq_ofNat_of_zero_le hl.1;obtain⟨c,rfl⟩:=Int.eq_ofNat_of_zero_le (show 0<=y by omega);have hW:W=18446744073709551616:=rfl;refine(pA (Ur w) (h:=a) (l:=b) (y:=c) O O O).2.mono ?_;rintro e w' ⟨_,F',rfl,hx,_⟩;refine⟨?_,hx.toBelow⟩;unfold LF Ce;rw[hW];simp only[Int.natCast_ediv,Int.natCast_emod,Int.natCast_mul,Int.natCast_add];rfl
theorem zF(x:Int)(w:World)(hx:0<x/\x<W):
  Calls prog 208 #[.int .u64 x] w λe w'=>(∃s:Nat,e = .returned (.int .i64 s)/\s<64/\x*2^s<W/\9223372036854775808<=x*2^s)/\w=w':=by
 obtain⟨a,rfl⟩:=Int.eq_ofNat_of_zero_le (show 0<=x by omega);have hW:W=18446744073709551616:=rfl;obtain⟨s,h1,h2,h3,h4⟩:=OB (y:=a) O O;refine(bits_LeadingZeros64 (a:Int) w O O).mono ?_;rintro e w' ⟨rfl,rfl⟩;refine⟨⟨s,?_,h2,?_,?_⟩,rfl⟩
 ·rw[Int.toNat_natCast,h1]
 ·rw[hW];have:((a*2^s:Nat):Int)<18446744073709551616:=O;simpa[Int.natCast_mul,Int.natCast_pow]using this
 have:(9223372036854775808:Int)<=((a*2^s:Nat):Int):=O;simpa[Int.natCast_mul,Int.natCast_pow]using this
theorem Mn{x y o c:Int}(hx:0<=x/\x<W)(hy:0<=y/\y<W)(ho:0<=o/\o<W)(hc:0<=c/\c<W):
  (0<=Xz x y/\Xz x y<W)/\(0<=Jv x y/\Jv x y<W) /\
  (0<=XN (Jv x y) o 0/\XN (Jv x y) o 0<W) /\
  (0<=Xz x y+Xx (Jv x y) o 0/\Xz x y+Xx (Jv x y) o 0<W) /\
  (0<=XN (XN (Jv x y) o 0) c 0/\XN (XN (Jv x y) o 0) c 0<W) /\
  (0<=Xz x y+Xx (Jv x y) o 0+Xx (XN (Jv x y) o 0) c 0/\Xz x y+Xx (Jv x y) o 0+Xx (XN (Jv x y) o 0) c 0<W) /\
  XN (XN (Jv x y) o 0) c 0+W*(Xz x y+Xx (Jv x y) o 0+Xx (XN (Jv x y) o 0) c 0)=x*y+o+c:=by
 have hm0:0<=x*y:=Int.mul_nonneg hx.1 hy.1;have hm1:x*y<=(W-1)*(W-1):=Int.mul_le_mul O O hy.1 (by simp only[GH];omega);have e1:Jv x y+W*Xz x y=x*y:=by unfold Jv Xz;rw[Int.add_comm];exact Int.mul_ediv_add_emod _ _
 have l0:0<=Jv x y:=Int.emod_nonneg _ wv;have l1:Jv x y<W:=Int.emod_lt_of_pos _ Ji;have h0:0<=Xz x y:=Int.ediv_nonneg hm0 wv;generalize x*y=m at *
 generalize Jv x y=lo at *
 generalize Xz x y=hi at *
 have a:=GG (x:=lo) (y:=o) (c:=0) ⟨l0,l1⟩ ho wv;generalize XN lo o 0=lo1 at *
 generalize Xx lo o 0=c1 at *
 have a':=GG (x:=lo1) (y:=c) (c:=0) a.2.1 hc wv;generalize XN lo1 c 0=lo2 at *
 generalize Xx lo1 c 0=c2 at *
 simp only[GH]at *
 omega
def Y0(la lb:List Int)(i j:Nat)(x:Int)(o:List Int)(c:Int):Prop :=
 o.length=la.length+lb.length/\DG W o/\(∀p,i+lb.length<=p->Qc o p=0)/\(0<=c/\c<W) /\
  dv W o+W^(i+j)*c=dv W (la.take i)*dv W lb+W^i*(x*dv W (lb.take j))
theorem Y0.step{lb o:List Int}{x c:Int}(h:Y0 la lb i j x o c)(hx:0<=x/\x<W)(hb:DG W lb)(hj:j<lb.length)(hi:i<la.length):
  Y0 la lb i (j+1) x (o.set (i+j) (XN (XN (Jv x (Qc lb j)) (Qc o (i+j)) 0) c 0))
   (Xz x (Qc lb j)+Xx (Jv x (Qc lb j)) (Qc o (i+j)) 0+Xx (XN (Jv x (Qc lb j)) (Qc o (i+j)) 0) c 0):=by
 obtain⟨h1,h2,h3,h4,h5⟩:=h;obtain⟨_,_,_,_,m1,m2,m3⟩:=Mn hx (JW hb j) (JW h2 (i+j)) h4;refine⟨by simpa using h1,h2.set _ m1.1 m1.2,?_,m2,?_⟩
 ·intro p hp;rw[VC O,if_neg O];exact h3 p hp
 rw[HM W O,J6,<-Nat.add_assoc,Int.pow_succ];generalize XN (XN (Jv x (Qc lb j)) (Qc o (i+j)) 0) c 0=lo at *
 generalize Xz x (Qc lb j)+Xx (Jv x (Qc lb j)) (Qc o (i+j)) 0+Xx (XN (Jv x (Qc lb j)) (Qc o (i+j)) 0) c 0=hi at *
 have e:W^(i+j)*(lo+W*hi)=W^(i+j)*(x*Qc lb j+Qc o (i+j)+c):=by rw[m3]
 rw[Int.pow_add]at *
 grind
theorem Y0.row{lb o:List Int}{x c:Int}(h:Y0 la lb i lb.length x o c)(hi:i<la.length)(hx:x=Qc la i):
  Y0 la lb (i+1) 0 0 (o.set (i+lb.length) c) 0:=by
 obtain⟨h1,h2,h3,h4,h5⟩:=h;refine⟨by simpa using h1,h2.set _ h4.1 h4.2,?_,⟨Int.le_refl _,Ji⟩,?_⟩
 ·intro p hp;rw[VC O,if_neg O];exact h3 p O
 rw[HM W O,h3 _ (Nat.le_refl _),J6,<-hx];rw[List.take_length]at h5;simp only[Int.mul_zero,Int.add_zero,Int.zero_mul,Int.sub_zero];rw[h5];grind
def Y0.start(la lb:List Int):Y0 la lb 0 0 0 (List.replicate (la.length+lb.length) 0) 0:=by
 refine⟨w9,DG.replicate Ji _,?_,⟨Int.le_refl _,Ji⟩,by rw[Ph];simp⟩;intro p _;unfold Qc;split<;>simp
def Y0.next{lb o:List Int}{c y:Int}(h:Y0 la lb i 0 0 o c)(x:Int)(hc:c=0)(hy:y=0):Y0 la lb i 0 x o y:=by
 obtain⟨h1,h2,h3,h4,h5⟩:=h;subst hc hy;exact⟨h1,h2,h3,h4,by simpa using h5⟩
theorem DU(v v':Value)(la lb:List Int)(w:World)(ha:DG W la)(hb:DG W lb)(hs:SL w v Ja la)(hs':SL w v' Ja lb)(h1:la.length<=100000000000)(h2:lb.length<=100000000000):
  Calls prog 146 #[v,v'] w λe w'=>ZR w (λv w'=>∃l,SL w' v Ja l/\DG W l/\NZ l/\dv W l=dv W la*dv W lb) e w':=by
 obtain⟨q,cap,rfl,hcap,hmax,hca⟩:=hs;obtain⟨q',cap',rfl,hcap',hmax',hcb⟩:=hs';have HA:=Lib.hid hca;clear hca;have HB:=Lib.hid hcb;clear hcb;have hmk:=λw=>YE (la.length+lb.length) O w;have ec:((la.length+lb.length:Nat):Int)=(la.length:Int)+lb.length:=O;simp only[ec]at hmk;clear ec;go_enter func146,ntmps146
 go_wp2
 go_loopw [22] (λi wr=>∃(k:Nat) (o:List Int),k<=la.length/\i = .int .i64 k/\Y0 la lb k 0 0 o 0/\YX wr w.heap.size 201 Ja o/\Ext w wr)
  (λi _=>la.length-(intOf i).toNat)
 case atStart=>exact⟨0,_,Nat.zero_le _,rfl,Y0.start la lb,YX.made w _ Ja 0 _ _ rfl,(Ext.refl _).alloc _⟩
 case round =>
  obtain⟨k,o,hk,rfl,hI,hBl,hE⟩:=hrel;rename_i wr _;obtain⟨wo,rfl⟩:∃wo:World,wo=wr:=⟨_,rfl⟩;clear hmk;by_cases hlt:k<la.length
  ·obtain⟨b,off,rfl,hbl,hc⟩:=HA.out k hlt;rw[Zt hlt]at hc;have hc:=hE.cell hc;simp only[Ja]at hc;have hx:=JW ha k;have HI:=Lib.hid hI;clear hI;have HBl:=Lib.hid hBl;clear hBl;go_wp2
   go_loopw [29,8] (λj c wr=>∃(m:Nat) (o:List Int) (cc:Int),m<=lb.length/\j = .int .i64 m/\c = .int .u64 cc/\Y0 la lb k m (Qc la k) o cc/\YX wr w.heap.size 201 Ja o/\Ext w wr)
    (λj _ _=>lb.length-(intOf j).toNat)
   case atStart=>exact⟨0,o,0,Nat.zero_le _,rfl,rfl,HI.out.next _ rfl rfl,HBl.out,hE⟩
   case round =>
    clear HI HBl hE hc;obtain⟨m,o,cc,hm,rfl,rfl,hI,hBl,hE⟩:=hrel;by_cases hlt2:m<lb.length
    ·obtain⟨b2,off2,rfl,hb2,hc2⟩:=HB.out m hlt2;rw[Zt hlt2]at hc2;have hc2:=hE.cell hc2;simp only[Ja]at hc2;have hst:=hI.step hx hb hlt2 hlt;obtain⟨hd1,hd2,hd3,hd4,hd5⟩:=hI;clear hd3 hd5;have hd1':=Lib.hid hd1;have hol:k+m<o.length:=O;clear hd1;have hy:=JW hb m;have ho:=JW hd2 (k+m);have hcell:=hBl.cell (i:=k+m) hol;rw[Zt hol]at hcell;simp only[Ja]at hcell;have hfr:=hBl.frozen (k+m);have HBs:=Lib.hid (hBl.set (k+m) (XN (XN (Jv (Qc la k) (Qc lb m)) (Qc o (k+m)) 0) cc 0));have HS:=Lib.hid hst;clear hst hBl;obtain⟨g1,g2,g3,g4,g5,g6,_⟩:=Mn hx hy ho hd4;generalize hmy:Xz (Qc la k) (Qc lb m)=mh at *
     generalize hml:Jv (Qc la k) (Qc lb m)=ml at *
     have HMH:=Lib.hid hmy;have HML:=Lib.hid hml;clear hmy hml;have ha1:=λw=>Ye ml (Qc o (k+m)) 0 g2.1 ho.1 wv wv w;have ha2:=λw=>Ye (XN ml (Qc o (k+m)) 0) cc 0 g3.1 hd4.1 wv wv w;have b1:0<=mh+Xx ml (Qc o (k+m)) 0:=g4.1;have b2:mh+Xx ml (Qc o (k+m)) 0<=18446744073709551615:=by have:=g4.2;simp only[GH]at this;omega
     have b3:0<=mh+Xx ml (Qc o (k+m)) 0+Xx (XN ml (Qc o (k+m)) 0) cc 0:=g6.1;have b4:mh+Xx ml (Qc o (k+m)) 0+Xx (XN ml (Qc o (k+m)) 0) cc 0<=18446744073709551615:=by have:=g6.2;simp only[GH]at this;omega
     go_wp2_with (go_at_call 144;refine(YN _ _ _ hx hy).mono ?_;rw[HMH.out,HML.out];rintro e w' ⟨rfl,rfl⟩)
     go_roundw
     case rel=>exact⟨m+1,_,_,O,by go_num,rfl,HS.out,HBs.out,Below.setCell hE w9 _⟩
     case measure=>simp[intOf];omega
    have hk':m=lb.length:=O;subst hk';have hst:=hI.row hlt rfl;obtain⟨hd1,hd2,hd3,hd4,hd5⟩:=hI;clear hd3 hd5;have hol:k+lb.length<o.length:=O;clear hd1;have hcell:=hBl.cell (i:=k+lb.length) hol;rw[Zt hol]at hcell;simp only[Ja]at hcell;have hfr:=hBl.frozen (k+lb.length);have HBs:=Lib.hid (hBl.set (k+lb.length) cc);have HS:=Lib.hid hst;clear hst hBl;go_wp2
    go_roundw
    case rel=>exact⟨k+1,_,O,by go_num,HS.out,HBs.out,Below.setCell hE w9 _⟩
    case measure=>simp[intOf];omega
  have hk':k=la.length:=O;subst hk';obtain⟨hd1,hd2,hd3,hd4,hd5⟩:=hI;have hSL:=SL.G5 hBl (la.length+lb.length) O O;rw[List.take_of_length_le O,hd1]at hSL;have HSL:=Lib.hid hSL;rw[List.take_length]at hd5;have HF:=Lib.hid hd5;clear hd5 hSL hd1 hBl;go_wp2_with (go_at_call 207;refine(KS _ _ _ HSL.out).mono ?_;rintro e w' ⟨⟨v',rfl,hv⟩,rfl⟩)
  go_ret
  exact⟨_,rfl,⟨_,hv,hd2.Q3,Xi _,by rw[XB];have:=HF.out;simpa using this⟩,hE⟩
def p2(s:Nat):Int:=2^s
def YK(s:Nat):0<p2 s:=Int.pow_pos wv
theorem W6(h:s<64):p2 (64-s)*p2 s=W:=by
 unfold p2;rw[<-Int.pow_add,show 64-s+s=64 from by omega];rfl
def TR:p2 0=1:=rfl
def uu(h:s<64):2*p2 s<=W:=by
 have h1:=W6 h;have h2:2<=p2 (64-s):=by
  unfold p2;rw[show 64-s=(63-s)+1 from by omega,Int.pow_succ];have:=YK (63-s);unfold p2 at this;omega
 have h3:2*p2 s<=p2 (64-s)*p2 s:=Int.mul_le_mul_of_nonneg_right h2 (Int.le_of_lt (YK s));omega
theorem Lm{x:Int}(hs:s<64):x*p2 s%W=p2 s*(x%p2 (64-s)):=by
 rw[<-W6 hs,Int.mul_comm (p2 (64-s)) (p2 s),Int.mul_comm x (p2 s),Int.mul_emod_mul_of_pos _ _ (YK s)]
def jg{x:Int}(hs:s<64):x*p2 s/W=x/p2 (64-s):=by
 rw[<-W6 hs];exact Int.mul_ediv_mul_of_pos_left x _ (YK s)
theorem TS{x:Int}(hs:s<64)(h0:0<=h)(h1:h<p2 s):bits .or .u64 h (x*p2 s%W)=h+x*p2 s%W/\h+x*p2 s%W<W:=by
 have e:=Lm (x:=x) hs;have k0:=YK (64-s);have b0:0<=x%p2 (64-s):=Int.emod_nonneg _ O;have b1:x%p2 (64-s)<p2 (64-s):=Int.emod_lt_of_pos _ k0;have hb:p2 s*(x%p2 (64-s))+h<W:=by
  have:p2 s*(x%p2 (64-s)+1)<=p2 s*p2 (64-s):=Int.mul_le_mul_of_nonneg_left O (Int.le_of_lt (YK s));rw[Int.mul_comm (p2 s) (p2 (64-s)),W6 hs,Int.mul_add]at this;omega
 have hb0:0<=p2 s*(x%p2 (64-s)):=Int.mul_nonneg (Int.le_of_lt (YK s)) b0;rw[e];refine⟨?_,O⟩;obtain⟨a,ha⟩:=Int.eq_ofNat_of_zero_le b0;obtain⟨c,rfl⟩:=Int.eq_ofNat_of_zero_le h0;rw[ha]at *
 have e2:p2 s*(a:Int)=((2^s*a:Nat):Int):=by simp[p2]
 have h1':c<2^s:=by
  have:(c:Int)<((2^s:Nat):Int):=(by simpa[p2]using h1);omega
 rw[e2]at hb ⊢;have hW:=GH;rw[u64_or_nat _ _ O O,Nat.or_comm,<-Nat.two_pow_add_eq_or_of_lt h1'];omega
def EX(l:List Int)(s k:Nat)(ds:List Int)(h:Int):Prop :=
 ds.length=k/\DG W ds/\(0<=h/\h<p2 s)/\dv W ds+W^k*h=dv W (l.take k)*p2 s
theorem EX.step{l:List Int}(hi:EX l s k ds h)(hs:s<64)(hl:DG W l):
  EX l s (k+1) (ds++[h+Qc l k*p2 s%W]) (Qc l k/p2 (64-s)):=by
 obtain⟨h1,h2,h3,h4⟩:=hi;obtain⟨_,b⟩:=TS (x:=Qc l k) hs h3.1 h3.2;have hd:=JW hl k;have l0:0<=Qc l k*p2 s%W:=Int.emod_nonneg _ wv;have q:=Int.mul_ediv_add_emod (Qc l k*p2 s) W;have hk:0<=Qc l k/p2 (64-s)/\Qc l k/p2 (64-s)<p2 s:=by
  refine⟨Int.ediv_nonneg hd.1 (Int.le_of_lt (YK _)),?_⟩;refine Int.ediv_lt_of_lt_mul (YK _) ?_;rw[Int.mul_comm,W6 hs];exact hd.2
 refine⟨by simp[h1],h2.append (DG.cons O b (DG.nil _)),hk,?_⟩;rw[XW,h1,J6,Int.pow_succ,<-jg hs];generalize Qc l k*p2 s/W=a at *
 generalize Qc l k*p2 s%W=c at *
 have e:W^k*(W*a+c)=W^k*(Qc l k*p2 s):=by rw[q]
 grind
def EX.zero{l:List Int}(hi:EX l 0 k ds h):h=0:=by
 have:=hi.2.2.1;rw[TR]at this;omega
def Nk(x:Int)(s:Nat):IntKind.u64.wrap (x*2^s)=x*p2 s%W:=by
 simp[IntKind.wrap,IntKind.signed,IntKind.bits,p2,GH]
def Hn(ds:List α)(x y:α)(r:List α)(k:Nat)(h:ds.length=k):(ds++x::r).set k y=ds++y::r:=by
 subst h;rw[List.set_append_right _ _ (Nat.le_refl _),Nat.sub_self,List.set_cons_zero]
def jl(ds:List α)(x y z:α)(r:List α)(k:Nat)(h:ds.length=k):(ds++z::x::r).set (k+1) y=(ds++[z])++y::r:=by
 have:=Hn (ds++[z]) x y r (k+1) (by simp[h]);rw[List.append_assoc]at this;exact this
set_option maxRecDepth 100000 in
theorem TB(s:Nat)(q:Option Addr)(cap:Nat)(l:List Int)(w:World)(hs:s<64)(hl:DG W l)(hc:Cells w q Ja l)(hlen:l.length<=100000000000):
  Calls prog 209 #[.slice q l.length cap,.int .i64 s] w λe w' =>
   ZR w (λv w'=>∃l':List Int,v = .slice (some ⟨w.heap.size,0,none⟩) (l.length+1) (l.length+1)/\YX w' w.heap.size 201 Ja l'/\l'.length=l.length+1/\DG W l'/\dv W l'=dv W l*p2 s) e w':=by
 have HC:=Lib.hid hc;clear hc;have hmk:=λw=>YE (l.length+1) O w;have ec:((l.length+1:Nat):Int)=(l.length:Int)+1:=O;simp only[ec]at hmk;clear ec;go_enter func209,ntmps209
 go_wp2
 go_loopw [14] (λi wr=>∃(k:Nat) (ds:List Int) (h:Int),k<=l.length/\i = .int .i64 k/\EX l s k ds h/\YX wr w.heap.size 201 Ja (ds++h::List.replicate (l.length-k) 0)/\Ext w wr)
  (λi _=>l.length-(intOf i).toNat)
 case atStart=>exact⟨0,[],0,Nat.zero_le _,rfl,⟨rfl,DG.nil _,⟨Int.le_refl _,YK _⟩,w9⟩,YX.made w _ Ja 0 _ _ rfl,(Ext.refl _).alloc _⟩
 case round =>
  obtain⟨k,ds,h,hk,rfl,hI,hB,hE⟩:=hrel;clear hmk;by_cases hlt:k<l.length
  ·obtain⟨b,off,rfl,hb,hc⟩:=HC.out k hlt;rw[Zt hlt]at hc;have hc:=hE.cell hc;simp only[Ja]at hc;have hst:=hI.step hs hl;obtain⟨hd1,hd2,hd3,hd4⟩:=hI;have hor:=(TS (x:=Qc l k) hs hd3.1 hd3.2).1;have HO:=Lib.hid hor;clear hor hd4;have hlen1:k<(ds++h::List.replicate (l.length-k) 0).length:=by simp[hd1]
   have hlen2:k+1<(ds++h::List.replicate (l.length-k) 0).length:=by simp[hd1];omega
   have hcell:=hB.cell hlen1;have hcell2:=hB.cell hlen2;have hg:(ds++h::List.replicate (l.length-k) 0).getD k default=h:=by subst hd1;simp[List.getD]
   rw[hg]at hcell;simp only[Ja]at hcell hcell2;have hfr:=hB.frozen k;have hfr2:=hB.frozen (k+1);have hx0:(0:Int)<=(k:Int):=O;have hx1:(k:Int)<(l.length:Int)+1:=O;generalize (ds++h::List.replicate (l.length-k) 0).getD (k+1) default=z at hcell2;have HD1:=Lib.hid hd1;have HB:=Lib.hid hB;clear hg hd1 hB hlen1 hlen2;by_cases hs0:0<s
   ·go_wp2
    go_still_tail 9,wu
    go_wp2
    go_roundw
    case rel =>
     refine⟨k+1,ds++[h+Qc l k*p2 s%W],Qc l k/p2 (64-s),O,by go_num,hst,?_,((hE.Xv w9 _).Xv w9 _).drew⟩;rw[Nk,HO.out];have h1:=HB.out.set k (h+Qc l k*p2 s%W);rw[Hn _ _ _ _ _ HD1.out,show l.length-k=(l.length-(k+1))+1 from by omega,List.replicate_succ]at h1;have h2:=h1.set (k+1) (Qc l k/p2 (64-s));rw[jl _ _ _ _ _ _ HD1.out]at h2;exact h2.drew
    case measure=>simp[intOf];omega
   have hz:Hid (Qc l k/p2 (64-s)=0):=by
    have e:s=0:=O;subst e;exact hst.zero
   go_wp2
   go_still_tail 9,wu
   go_wp2
   go_roundw
   case rel =>
    refine⟨k+1,ds++[h+Qc l k*p2 s%W],Qc l k/p2 (64-s),O,by go_num,hst,?_,(hE.Xv w9 _).drew⟩;rw[Nk,HO.out,hz.out];have h1:=HB.out.set k (h+Qc l k*p2 s%W);rw[Hn _ _ _ _ _ HD1.out,show l.length-k=(l.length-(k+1))+1 from by omega,List.replicate_succ]at h1;rw[List.append_assoc];exact h1.drew
   case measure=>simp[intOf];omega
  have hk':k=l.length:=O;subst hk';obtain⟨hd1,hd2,hd3,hd4⟩:=hI;have HF:Hid (dv W ds+W^l.length*h=dv W l*p2 s):=by rw[List.take_length]at hd4;exact hd4
  have HD1:=Lib.hid hd1;rw[Nat.sub_self,List.replicate_zero]at hB;have HB:=Lib.hid hB;have hh:h<W:=by have:=uu hs;have:=YK s;omega
  clear hd1 hd4 hB;go_wp2
  go_ret
  exact⟨_,rfl,⟨_,rfl,HB.out,by simp[HD1.out],hd2.append (DG.cons hd3.1 hh (DG.nil _)),by rw[XW,HD1.out,HF.out]⟩,hE⟩
theorem Ej(s:Nat)(v:Value)(l:List Int)(w:World)(hs:s<64)(hl:DG W l)(hv:SL w v Ja l)(hlen:l.length<=100000000000):
  Calls prog 209 #[v,.int .i64 s] w λe w' =>
   ZR w (λv w'=>∃l':List Int,v = .slice (some ⟨w.heap.size,0,none⟩) (l.length+1) (l.length+1)/\YX w' w.heap.size 201 Ja l'/\l'.length=l.length+1/\DG W l'/\dv W l'=dv W l*p2 s) e w':=by
 obtain⟨q,cap,rfl,_,_,hc⟩:=hv;exact TB s q cap l w hs hl hc hlen
def YB(u v:List Int)(n:Nat)(q r over:Int):Prop :=
 (0<=q/\q<W)/\(0<=r/\r<W)/\(0<=over/\over<=1)/\q*Qc v (n+1)+r+W*over=Qc u (n+2)*W+Qc u (n+1)/\dv W u<(q+1)*dv W v
abbrev WG(u v:List Int)(n:Nat):Prop:=Vo W u v n
theorem Vo.CX{v:List Int}{n:Nat}(h:WG u v n)(hge:Qc v (n+1)<=Qc u (n+2)):
  YB u v n (W-1) (XN (Qc u (n+1)) (Qc v (n+1)) 0) (Xx (Qc u (n+1)) (Qc v (n+1)) 0):=by
 have e:=Int.le_antisymm (Vo.top MX h) hge;obtain⟨a,b,c⟩:=GG (JW h.hu _) (JW h.hv _) (by decide:(0:Int)<=0/\(0:Int)<=1);refine⟨wv,b,c,?_,?_⟩
 ·grind
 have:=h.lt;trivial
theorem Vo.CY{v:List Int}{n:Nat}(h:WG u v n)(hlt:Qc u (n+2)<Qc v (n+1)):
  YB u v n (LF (Qc u (n+2)) (Qc u (n+1)) (Qc v (n+1))) (Ce (Qc u (n+2)) (Qc u (n+1)) (Qc v (n+1))) 0:=by
 obtain⟨a1,a2,a3⟩:=Z8 MX h.hu h.lu;obtain⟨b1,b2,b3⟩:=KH MX h.hv h.lv;have d0:=JW h.hu (n+2);have d1:=JW h.hu n;have d2:=JW h.hu (n+1);have d3:=JW h.hv n;have d4:=JW h.hv (n+1);have hp:=pow_pos Ji n;have hz:=h.nz;have hW:=Ji;unfold LF Ce;unfold YB;rw[a1,b1];generalize W^n=D at *
 generalize dv W (v.take n)=v' at *
 generalize dv W _=u' at *
 generalize Qc u _=u0 at *
 generalize Qc u (n+1)=u1 at *
 generalize Qc u n=u2 at *
 generalize Qc v (n+1)=v1 at *
 generalize Qc v n=v2 at *
 have m0:0<=u0*W:=Int.mul_nonneg d0.1 O;have m1:(u0+1)*W<=v1*W:=Int.mul_le_mul_of_nonneg_right O O;have q1:=Int.mul_ediv_add_emod (u0*W+u1) v1;have q2:=Int.emod_nonneg (u0*W+u1) (by omega:v1≠0);have q3:=Int.emod_lt_of_pos (u0*W+u1) hz;have q4:0<=(u0*W+u1)/v1:=Int.ediv_nonneg O O;have q5:(u0*W+u1)/v1<W:=by
  refine Int.ediv_lt_of_lt_mul hz ?_
  grind
 generalize (u0*W+u1)/v1=q at *
 refine⟨⟨q4,q5⟩,⟨q2,O⟩,O,by grind,?_⟩;have k1:(u0*W+u1+1)<=(q+1)*v1:=by grind
 have k2:(u0*W+u1+1)*(W*D)<=(q+1)*v1*(W*D):=Int.mul_le_mul_of_nonneg_right k1 (Int.mul_nonneg O O);have k3:0<=(q+1)*(v2*D):=Int.mul_nonneg O (Int.mul_nonneg d3.1 O);have k4:0<=(q+1)*v':=Int.mul_nonneg O b2;have k5:(u2+1)*D<=W*D:=Int.mul_le_mul_of_nonneg_right O O
 grind
theorem YB.less{v:List Int}{n:Nat}{q r:Int}(h:WG u v n)(g:YB u v n q r 0)(hb:r*W+Qc u n<q*Qc v n):
  YB u v n (q-1) (XN r (Qc v (n+1)) 0) (Xx r (Qc v (n+1)) 0):=by
 obtain⟨g1,g2,g3,g4,g5⟩:=g;obtain⟨a1,a2,a3⟩:=Z8 MX h.hu h.lu;obtain⟨b1,b2,b3⟩:=KH MX h.hv h.lv;obtain⟨a,b,c⟩:=GG g2 (JW h.hv _) (by decide:(0:Int)<=0/\(0:Int)<=1);have hp:=pow_pos Ji n;have d1:=JW h.hu n;have q1:1<=q:=by
  refine Int.not_lt.1 λhc=>?_;have:q=0:=O;subst this;have:0<=r*W:=Int.mul_nonneg g2.1 wv;omega
 refine⟨O,b,c,?_,?_⟩
 ·grind
 rw[show q-1+1=q from by omega,a1,b1];refine PQ b2 a3 hp O ?_;generalize Qc u _=u0 at *
 generalize Qc v _=v1 at *
 generalize Qc v n=v2 at *
 have e:q*(v1*W+v2)=(q*v1+r)*W-r*W+q*v2:=by grind
 grind
theorem YB.fin{v:List Int}{n:Nat}{q r over:Int}(h:WG u v n)(g:YB u v n q r over)(hb:over=0->q*Qc v n<=r*W+Qc u n):
  (q-1)*dv W v<=dv W u/\dv W u<(q+1)*dv W v:=by
 obtain⟨g1,g2,g3,g4,g5⟩:=g;refine⟨?_,g5⟩;obtain⟨a1,a2,a3⟩:=Z8 MX h.hu h.lu;obtain⟨b1,b2,b3⟩:=KH MX h.hv h.lv;have hp:=pow_pos Ji n;have d1:=JW h.hu n;have d3:=JW h.hv n;have hz:=h.nz;rw[a1,b1];have hR:q*Qc v n<=(r+W*over)*W+Qc u n:=by
  have:over=0\/over=1:=O;rcases this with rfl | rfl
  ·simp_all
  have k1:q*Qc v n<=W*W:=Int.mul_le_mul O O d3.1 wv;have k2:0<=r*W:=Int.mul_nonneg g2.1 wv
  grind
 refine AZ hp b3 a2 g1.1 ?_ ?_ b2
 ·rw[<-g4]
  grind
 have k1:1*W<=Qc v (n+1)*W:=Int.mul_le_mul_of_nonneg_right O wv;omega
def Dt(u v:List Int)(q:Int)(k:Nat)(ds:List Int)(b c:Int):Prop :=
 ds.length=k/\DG W ds/\(0<=b/\b<=1)/\(0<=c/\c<W)/\dv W ds-W^k*(b+c)=dv W (u.take k)-q*dv W (v.take k)
def Dt.start(u v:List Int)(q:Int):Dt u v q 0 [] 0 0:=⟨rfl,DG.nil _,wv,wv,w9⟩
theorem Dt.step{v:List Int}{q b c:Int}(h:Dt u v q k ds b c)(hu:DG W u)(hv:DG W v)(hq:0<=q/\q<W):
  Dt u v q (k+1) (ds++[Zp (Qc u k) (XN (Jv q (Qc v k)) c 0) b]) (V5 (Qc u k) (XN (Jv q (Qc v k)) c 0) b)
   (Xz q (Qc v k)+Xx (Jv q (Qc v k)) c 0):=by
 obtain⟨h1,h2,h3,h4,h5⟩:=h;obtain⟨_,m1,m2,m3,m4,_,_⟩:=Mn hq (JW hv k) h4 (by decide:(0:Int)<=0/\(0:Int)<W);obtain⟨a1,_,_⟩:=GG m1 h4 (by decide:(0:Int)<=0/\(0:Int)<=1);obtain⟨s1,s2,s3⟩:=DI (JW hu k) m2 h3;have e1:Jv q (Qc v k)+W*Xz q (Qc v k)=q*Qc v k:=by grind[Jv,Xz,Int.add_comm,Int.mul_ediv_add_emod]
 refine⟨by grind,h2.append (DG.cons s2.1 s2.2 (DG.nil _)),s3,m3,?_⟩;rw[XW,h1,J6,J6,Int.pow_succ]
 grind
theorem xv{v:List Int}{q b c:Int}{n:Nat}(h:WG u v n)(m:Dt u v q (n+2) ds b c)(hq:(q-1)*dv W v<=dv W u/\dv W u<(q+1)*dv W v)
  (hb:V5 (Qc u (n+2)) c b=0) :
  DG W (ds++[Zp (Qc u (n+2)) c b])/\q=dv W u/dv W v/\dv W (ds++[Zp (Qc u (n+2)) c b])=dv W u%dv W v:=by
 obtain⟨h1,h2,h3,h4,h5⟩:=m;obtain⟨s1,s2,s3⟩:=DI (JW h.hu (n+2)) h4 h3;rw[List.take_of_length_le (by have:=h.lv;omega:v.length<=n+2)]at h5;have e:=J6 u (n+2);rw[List.take_of_length_le (by have:=h.lu;omega:u.length<=n+2+1)]at e;have hD:=h2.append (DG.cons s2.1 s2.2 (DG.nil _));have h0:=Qx Ji hD;have hvp:0<dv W v:=by
  grind
 have hv:dv W (ds++[Zp (Qc u (n+2)) c b])=dv W u-q*dv W v:=by
  grind[XW,Zp,Qc]
 rw[hv]at h0 ⊢
 grind[ZX,Zy]
theorem gV{v es:List Int}{q b c k:Int}{n:Nat}(h:WG u v n)(m:Dt u v q (n+2) ds b c)(hq:(q-1)*dv W v<=dv W u/\dv W u<(q+1)*dv W v)
  (hb:V5 (Qc u (n+2)) c b=1) (ha:Ed ds v (n+2) es k) :
  q-1=dv W u/dv W v/\dv W es=dv W u%dv W v/\Zp (Qc u (n+2)) c b+k=W:=by
 obtain⟨h1,h2,h3,h4,h5⟩:=m;obtain⟨a1,a2,a3,a4⟩:=ha;obtain⟨s1,s2,s3⟩:=DI (JW h.hu (n+2)) h4 h3;rw[List.take_of_length_le (by have:=h.lv;omega:v.length<=n+2)]at h5 a4;rw[List.take_of_length_le (by omega:ds.length<=n+2)]at a4;have e:=J6 u (n+2);rw[List.take_of_length_le (by have:=h.lu;omega:u.length<=n+2+1)]at e;have hvp:0<dv W v:=by
  grind
 have d1:=Z9 Ji a2;have d0:=Qx Ji a2;have dd0:=Qx Ji h2;have dd1:=Z9 Ji h2;have v1:=Z9 Ji h.hv;rw[h.lv]at v1;rw[a1]at d1;rw[h1]at dd1;rw[hb]at s1;have hp:=pow_pos Ji (n+2);generalize Zp (Qc u (n+2)) c b=sl at *
 have key:dv W ds+W^(n+2)*(sl-W)=dv W u-q*dv W v:=by
  grind
 have hneg:dv W u<q*dv W v:=by
  have:W^(n+2)*(sl-W)<=W^(n+2)*(-1):=Int.mul_le_mul_of_nonneg_left O O;omega
 have e1:(q-1)*dv W v=q*dv W v-dv W v:=by grind
 have e2:(q-1+1)*dv W v=q*dv W v:=w9;have hR:dv W u-(q-1)*dv W v=dv W es+W^(n+2)*(sl+k-W):=by
  have e3:W^(n+2)*(sl+k-W)=W^(n+2)*(sl-W)+W^(n+2)*k:=by rw[<-Int.mul_add];congr 1;omega
  omega
 have hk:sl+k=W:=by
  have r0:0<=dv W u-(q-1)*dv W v:=O;have r1:dv W u-(q-1)*dv W v<W^(n+2):=O;rw[hR]at r0 r1;rcases Int.lt_trichotomy (sl+k) W with g | g | g
  ·have:W^(n+2)*(sl+k-W)<=W^(n+2)*(-1):=Int.mul_le_mul_of_nonneg_left O O;omega
  ·exact g
  have:W^(n+2)*1<=W^(n+2)*(sl+k-W):=Int.mul_le_mul_of_nonneg_left O O;omega
 refine⟨(ZX hvp O (by rw[e2];exact hneg)).symm,?_,hk⟩
 grind[Zy]
structure BR(B:Nat)(w w':World):Prop where
 os:w'.os=w.os
 tape:w'.tape=w.tape
 output:w'.output=w.output
 size:w.heap.size<=w'.heap.size
 block:∀k,k<w.heap.size->k≠B->w'.heap[k]?=w.heap[k]?
def BR.refl(B:Nat)(w:World):BR B w w:=⟨rfl,rfl,rfl,Nat.le_refl _,λ_ _ _=>rfl⟩
theorem BR.QAs(B:Nat)(h:Ext w w'):BR B w w':=⟨h.os,h.tape,h.output,h.size,λk hk _=>h.block k hk⟩
theorem BR.trans{a b c:World}(h:BR B a b)(k:BR B b c):BR B a c :=
 ⟨k.os.trans h.os,k.tape.trans h.tape,k.output.trans h.output,Nat.le_trans h.size k.size,λi hi hn=>(k.block i (Nat.lt_of_lt_of_le hi h.size) hn).trans (h.block i hi hn)⟩
def BR.ext{a b c:World}(h:BR B a b)(k:Ext b c):BR B a c:=h.trans (BR.QAs B k)
def BR.drew{a b:World}(h:BR B a b):BR B a b.drew:=⟨h.os,h.tape,h.output,h.size,h.block⟩
def BR.setCell{a b:World}(h:BR B a b)(off:Nat)(v:Value):BR B a (b.setCell ⟨B,off,none⟩ v) :=
 h.trans ⟨rfl,rfl,rfl,w9,λk _ hn=>Below.heap_setCell _ _ _ _ hn⟩
theorem BR.QAP{a b c:World}(h:BR B b c)(k:Ext a b)(hB:a.heap.size<=B):Ext a c :=
 ⟨h.os.trans k.os,h.tape.trans k.tape,h.output.trans k.output,Nat.le_trans k.size h.size,λi hi=>(h.block i (Nat.lt_of_lt_of_le hi k.size) O).trans (k.block i hi)⟩
def BR.cell(h:BR B w w'){p:Addr}{v:Value}(hp:p.block≠B)(hv:w.cell? p=some v):w'.cell? p=some v:=by
 rw[World.cell?_of_block (h.block _ (World.block_lt_of_cell? w p hv) hp)];exact hv
theorem BR.cells[Inhabited α]{B:Nat}{w w':World}(h:BR B w w'){q:Option Addr}{enc:D5 α}{l:List α}(hq:∀a,q=some a->a.block≠B)(hc:Cells w q enc l):Cells w' q enc l:=by
 intro i hi;obtain⟨b,off,h1,h2,h3⟩:=hc i hi;exact⟨b,off,h1,(by obtain⟨c,fr,e⟩:=id h2;exact⟨c,fr,by rw[h.block b h2.lt (show b≠B from hq ⟨b,off,none⟩ h1)];exact e⟩),h.cell (show b≠B from hq ⟨b,off,none⟩ h1) h3⟩
def BR.Dm(h:BR B w w'){enc:D5 α}{l:List α}(hb:b≠B)(k:YX w b E enc l):YX w' b E enc l:=by
 unfold YX;rw[h.block b k.lt hb];exact k
theorem Io{pre post r:List Int}{x:Int}(hj:pre.length=j)(hk:ds.length=k):(pre++((ds++x::r)++post)).getD (j+k) default=x:=by
 simp_all
theorem Im{pre post r:List Int}{x:Int}(hj:pre.length=j)(hk:ds.length=k):j+k<(pre++((ds++x::r)++post)).length:=by
 simp_all
theorem Mo{pre post r:List Int}{x:Int}(hj:pre.length=j)(hk:ds.length=k)(y:Int):(pre++((ds++x::r)++post)).set (j+k) y=pre++((ds++y::r)++post):=by
 simp_all
theorem Ix{l:List Int}{n:Nat}(h:DG W l)(hn:NZ l)(h1:W^n<=dv W l)(h2:dv W l<W^(n+1)):l.length=n+1:=by
 have a:=Z9 Ji h;have hl:l≠[]:=by rintro rfl;have:=pow_pos Ji n;simp at h1;omega
 have b:=De Ji h hn hl;rcases Nat.lt_trichotomy l.length (n+1)with g | g | g
 ·have:=YR (b:=W) wv (m:=l.length) (n:=n) O;omega
 ·exact g
 have:=YR (b:=W) wv (m:=n+1) (n:=l.length-1) O;omega
def pZ(la:List Int)(y:Int)(k:Nat)(qs:List Int)(r:Int):Prop :=
 qs.length+k=la.length/\DG W qs/\(0<=r/\r<y)/\dv W (la.drop k)=y*dv W qs+r
theorem pZ.step{qs:List Int}{y r:Int}(h:pZ la y (k+1) qs r)(ha:DG W la)(hy:0<y/\y<W):
  pZ la y k (LF r (Qc la k) y::qs) (Ce r (Qc la k) y):=by
 obtain⟨h1,h2,h3,h4⟩:=h;have hd:=JW ha k;have m0:0<=r*W:=Int.mul_nonneg h3.1 wv;have m1:(r+1)*W<=y*W:=Int.mul_le_mul_of_nonneg_right O wv;have q1:=Int.mul_ediv_add_emod (r*W+Qc la k) y;have q2:=Int.emod_nonneg (r*W+Qc la k) (by omega:y≠0);have q3:=Int.emod_lt_of_pos (r*W+Qc la k) hy.1;have q4:0<=(r*W+Qc la k)/y:=Int.ediv_nonneg O O;have q5:(r*W+Qc la k)/y<W:=by
  refine Int.ediv_lt_of_lt_mul hy.1 ?_
  grind
 refine⟨by grind,DG.cons q4 q5 h2,⟨q2,q3⟩,?_⟩
 grind[XC,Yy,LF,Ce,Qc]
def Vt(U V:Int)(n k m:Nat)(o qs:List Int):Prop :=
 o.length=m+1/\DG W o/\qs.length+k=m-(n+2)+1/\DG W qs/\U=V*(W^k*dv W qs)+dv W o/\dv W o<W^k*V
theorem Vt.start{o:List Int}{n m:Nat}{A B:Int}(ho:o.length=m+1)(hd:DG W o)(hv:dv W o=A*p2 s)(hs:s<64)(hA:A<W^m)
  (hB:W^(n+1)*9223372036854775808<=B*p2 s) (hm:n+2<=m):Vt (A*p2 s) (B*p2 s) n (m-(n+2)+1) m o []:=by
 refine⟨ho,hd,w9,DG.nil _,by simp[hv],?_⟩;have hp:=uu hs;have hp0:=YK s;have k1:=Int.mul_lt_mul_of_pos_right hA hp0;have k2:W^m*p2 s<=W^m*9223372036854775808:=Int.mul_le_mul_of_nonneg_left (by grind[GH]) (Int.le_of_lt (pow_pos Ji m));have k3:W^(m-(n+2)+1)*(W^(n+1)*9223372036854775808)<=W^(m-(n+2)+1)*(B*p2 s):=Int.mul_le_mul_of_nonneg_left hB (Int.le_of_lt (pow_pos Ji _));have e:W^(m-(n+2)+1)*(W^(n+1)*9223372036854775808)=W^m*9223372036854775808:=by
  rw[<-Int.mul_assoc,<-Int.pow_add,show m-(n+2)+1+(n+1)=m from by omega]
 omega
theorem Vt.QAL{U V:Int}{n m:Nat}{o qs v:List Int}(h:Vt U V n (j+1) m o qs)(hv:DG W v)(lv:v.length=n+2)(nz:0<Qc v (n+1))(hV:dv W v=V)(_hm:n+2<=m):
  ∃pre u post,o=pre++(u++post)/\pre.length=j/\WG u v n/\dv W post=0/\post.length=m-(j+n+2)/\j+n+2<=m:=by
 obtain⟨h1,h2,h3,h4,h5,h6⟩:=h;have hj:j+n+2<=m:=O;have e1:o=o.take j++((o.drop j).take (n+3)++(o.drop j).drop (n+3)):=by grind[List.take_append_drop]
 have l1:(o.take j).length=j:=by grind
 have l2:((o.drop j).take (n+3)).length=n+3:=by rw[List.length_take,List.length_drop];omega
 have l3:((o.drop j).drop (n+3)).length=m-(j+n+2):=by grind
 have d1:=h2.take j;have d2:DG W ((o.drop j).take (n+3)):=(h2.drop j).take _;have d3:DG W ((o.drop j).drop (n+3)):=(h2.drop j).drop _;have e2:dv W o=dv W (o.take j)+W^j*(dv W ((o.drop j).take (n+3))+W^(n+3)*dv W ((o.drop j).drop (n+3))):=by
  rw[Kb W o j O,Kb W (o.drop j) (n+3) (by grind)]
 generalize o.take j=pre at *
 generalize (o.drop j).take (n+3)=u at *
 generalize (o.drop j).drop (n+3)=post at *
 have n1:=Qx Ji d1;have n2:=Qx Ji d2;have n3:=Qx Ji d3;have hp:=pow_pos Ji j;have vlt:=Z9 Ji hv;rw[lv,hV]at vlt;have e3:W^(j+1)*V=W^j*(W*V):=by grind
 have hU:dv W u+W^(n+3)*dv W post<W*V:=by
  refine Int.not_le.1 λhc=>?_;have:=Int.mul_le_mul_of_nonneg_left hc (Int.le_of_lt hp);omega
 have hpost:dv W post=0:=by
  refine Int.le_antisymm (Int.not_lt.1 λhc=>?_) n3;have k1:W^(n+3)*1<=W^(n+3)*dv W post:=Int.mul_le_mul_of_nonneg_left O (Int.le_of_lt (pow_pos Ji _));have k2:W*V<=W*W^(n+2):=Int.mul_le_mul_of_nonneg_left O wv
  grind[Int.pow_succ]
 refine⟨pre,u,post,e1,l1,⟨d2,hv,l2,lv,nz,?_⟩,hpost,l3,hj⟩;simp_all
theorem Vt.step{U V:Int}{n m:Nat}{pre u post qs v u':List Int}(h:Vt U V n (j+1) m (pre++(u++post)) qs)(lj:pre.length=j)(lu:u.length=n+3)
  (hd':DG W u') (lu':u'.length=n+3) (hV:dv W v=V) (hVp:0<V) (hpost:dv W post=0) (hq:dv W u/dv W v<W) (hu0:0<=dv W u) (hval:dv W u'=dv W u%dv W v) :
  Vt U V n j m (pre++(u'++post)) (dv W u/dv W v::qs):=by
 obtain⟨h1,h2,h3,h4,h5,h6⟩:=h;rw[hV]at *
 have q0:0<=dv W u/V:=Int.ediv_nonneg hu0 O;have q1:=Int.mul_ediv_add_emod (dv W u) V;have r1:=Int.emod_lt_of_pos (dv W u) hVp;have dpre:=h2.left;have dpost:=h2.right.right;have p1:=Z9 Ji dpre;have hp:=pow_pos Ji j;rw[ZW,ZW,lj,hpost]at h5 h6;refine⟨by simp_all,dpre.append (hd'.append dpost),by grind,DG.cons q0 hq h4,?_,?_⟩
 ·rw[ZW,ZW,lj,hpost,Yy,hval,h5,Int.pow_succ]
  grind
 rw[ZW,ZW,lj,hpost,hval];have k1:W^j*(dv W u%V+1)<=W^j*V:=Int.mul_le_mul_of_nonneg_left O O
 grind
def Ky(o:List Int)(s k:Nat)(ds:List Int):Prop :=
 ds.length=k/\DG W ds/\dv W ds*p2 s+Qc o 0%p2 s=dv W (o.take k)+W^k*(Qc o k%p2 s)
def Ky.start(o:List Int)(s:Nat):Ky o s 0 []:=⟨rfl,DG.nil _,w9⟩
theorem Ll{x:Int}(hs:s<64)(hx:0<=x/\x<W):0<=x/p2 s/\x/p2 s<p2 (64-s):=by
 simp_all[Int.ediv_nonneg,Int.le_of_lt,YK,Int.ediv_lt_of_lt_mul,W6]
theorem Ky.step{o:List Int}(h:Ky o s k ds)(ho:DG W o)(hs:s<64)(hs0:0<s):
  Ky o s (k+1) (ds++[Qc o k/p2 s+Qc o (k+1)*p2 (64-s)%W]):=by
 obtain⟨h1,h2,h3⟩:=h;have hx:=JW ho k;have b:=Ll hs hx;obtain⟨_,c⟩:=TS O b.1 b.2;have hy:0<=Qc o (k+1)*p2 (64-s)%W:=Int.emod_nonneg _ wv;refine⟨by grind,h2.append (DG.cons O c (DG.nil _)),?_⟩;rw[XW,h1,J6,Int.pow_succ];have e1:Qc o (k+1)*p2 (64-s)%W=p2 (64-s)*(Qc o (k+1)%p2 s):=by
  grind[Lm,Qc]
 grind[Int.mul_ediv_add_emod,Qc,p2,W6]
theorem Ky.jd{o:List Int}(h:Ky o 0 k ds)(ho:DG W o):Ky o 0 (k+1) (ds++[Qc o k/p2 0]):=by
 obtain⟨h1,h2,h3⟩:=h;have hx:=JW ho k;simp[TR,Int.emod_one,Int.ediv_one,Int.mul_one,Int.mul_zero,Int.add_zero]at *
 exact⟨by grind,h2.append (DG.cons hx.1 hx.2 (DG.nil _)),by simp[TR,Int.emod_one,Int.mul_one,Int.mul_zero,Int.add_zero];grind[XW,J6]⟩
theorem dz{o qs:List Int}{n m:Nat}{A B:Int}(h:Vt (A*p2 s) (B*p2 s) n 0 m o qs)(hs:s<64)(hB:0<B)(hBn:B*p2 s<W^(n+2))(hm:n+2<=m)
  (hr:Ky o s (n+2) ds):dv W qs=A/B/\dv W ds=A%B:=by
 obtain⟨h1,h2,h3,h4,h5,h6⟩:=h;obtain⟨r1,r2,r3⟩:=hr;simp only[Int.pow_zero,Int.one_mul]at h5 h6;have hp:=YK s;have n0:=Qx Ji h2;have e2:=Kb W o (n+2) O;have t0:=Qx Ji (h2.take (n+2));have t1:=Qx Ji (h2.drop (n+2));have z:dv W (o.drop (n+2))=0:=by
  refine Int.le_antisymm (Int.not_lt.1 λhc=>?_) t1;have k1:W^(n+2)*1<=W^(n+2)*dv W (o.drop (n+2)):=Int.mul_le_mul_of_nonneg_left O (Int.le_of_lt (pow_pos Ji _));omega
 have zd:Qc o (n+2)=0:=by
  have e3:=XC (l:=o) (k:=n+2) O;rw[e3,Yy]at z;have d0:=JW h2 (n+2);have d1:=Qx Ji (h2.drop (n+2+1));have d2:0<=W*dv W (o.drop (n+2+1)):=Int.mul_nonneg wv d1;omega
 rw[zd,Int.zero_emod,Int.mul_zero,Int.add_zero]at r3;rw[z,Int.mul_zero,Int.add_zero]at e2;have hmod:Qc o 0%p2 s=0:=by
  have f1:dv W o=Qc o 0+W*dv W (o.drop 1):=by
   have:=XC (l:=o) (k:=0) O;rw[List.drop_zero]at this;rw[congrArg (dv W) this,Yy]
  have f2:dv W o=p2 s*(A-B*dv W qs):=by grind
  have f3:Qc o 0=p2 s*(A-B*dv W qs-p2 (64-s)*dv W (o.drop 1)):=by
   grind[W6,Qc,p2,dv]
  simp_all
 rw[hmod,Int.add_zero,<-e2]at r3;have key:A=B*dv W qs+dv W ds:=by
  have:p2 s*A=p2 s*(B*dv W qs+dv W ds):=by grind
  grind[Int.eq_of_mul_eq_mul_left]
 have hlt:dv W ds<B:=by
  refine Int.not_le.1 λhc=>?_;have:=Int.mul_le_mul_of_nonneg_right hc (Int.le_of_lt hp);omega
 have hds:=Qx Ji r2;have g1:dv W qs*B<=A:=by grind
 grind[dv,Int.add_mul,Int.mul_comm,ZX,Zy]
def UA(A B:Int)(r:Value)(w':World):Prop :=
 ∃p p' lq lr,r = .tuple #[p,p']/\SL w' p Ja lq/\SL w' p' Ja lr/\(DG W lq/\NZ lq)/\(DG W lr/\NZ lr)/\dv W lq=A/B/\dv W lr=A%B
theorem Hc{x y:Int}(h:y<=x):0<=Zb x y:=by grind[Zb]
theorem Ax(v v':Value)(la lb:List Int)(w:World)(ha:DG W la)(hb:DG W lb)(na:NZ la)(nb:NZ lb)(hs:SL w v Ja la)(hs':SL w v' Ja lb)(hlt:dv W la<dv W lb):
  Calls prog 134 #[v,v'] w λe w'=>ZR w (UA (dv W la) (dv W lb)) e w':=by
 have H3:=Lib.hid (WD hlt);have H0:=Lib.hid (Qx Ji ha);have HL:=Lib.hid hlt;go_enter func134,ntmps134
 go_wp2_with (refine(Za _ _ _ _ _ ha hb na nb hs hs').mono ?_;rw[H3.out];rintro e w' ⟨rfl,hx⟩)
 go_ret2
 exact⟨_,rfl,⟨_,_,[],la,rfl,SL.nil _ _,hs.ext hx,⟨DG.nil _,by simp[NZ]⟩,⟨ha,na⟩,(Int.ediv_eq_zero_of_lt H0.out HL.out).symm,(Int.emod_eq_of_lt H0.out HL.out).symm⟩,hx⟩
def Ul(x z:α)(k:Nat)(qs:List α):(List.replicate (k+1) z++qs).set k x=List.replicate k z++x::qs:=by
 simp[List.replicate_succ',List.append_assoc,List.set_append_right]
set_option maxRecDepth 100000 in
set_option maxHeartbeats 800000 in
theorem LC(v:Value)(q':Option Addr)(cap':Nat)(la:List Int)(y:Int)(w:World)(ha:DG W la)(hy:0<y/\y<W)(na:NZ la)(hs:SL w v Ja la)(hs':SL w (.slice q' 1 cap') Ja [y])(hge:y<=dv W la)(h1:la.length<=100000000000):
  Calls prog 134 #[v,.slice q' 1 cap'] w λe w'=>ZR w (UA (dv W la) y) e w':=by
 have H3:0<=Zb (dv W la) y:=Hc hge;have hb:DG W [y]:=DG.cons O hy.2 (DG.nil _);have nb:NZ [y]:=by grind[NZ]
 have HS:=Lib.hid hs;obtain⟨q,cap,rfl,hcap,hmax,hca⟩:=hs;have HA:=Lib.hid hca;have HS':=Lib.hid hs';obtain⟨q2,cap2,e2,hcap2,hmax2,hcb⟩:=hs';obtain⟨by1,oy,hq,hby,hcy⟩:=hcb 0 w9;simp only[List.length_cons,List.length_nil,Value.slice.injEq]at e2;obtain⟨rfl,_,rfl⟩:=e2;subst hq;have hcy:w.cell? ⟨by1,oy,none⟩=some (.int .u64 y):=by trivial
 have hmk:=λw=>YE la.length O w;clear hca hcb;go_enter func134,ntmps134
 go_wp2_with (go_at_call 203;refine(Za _ _ _ _ _ ha hb na nb HS.out HS'.out).mono ?_;rintro e w1 ⟨rfl,hx1⟩)
 go_loopw [8,7] (λi r wr=>∃(k:Nat) (qs:List Int) (rr:Int),k<=la.length/\i = .int .i64 ((k:Int)-1)/\r = .int .u64 rr/\pZ la y k qs rr/\YX wr w1.heap.size 201 Ja (List.replicate k 0++qs)/\Ext w1 wr)
  (λi _ _=>(intOf i+1).toNat)
 case atStart=>exact⟨la.length,[],0,Nat.le_refl _,rfl,rfl,⟨w9,DG.nil _,⟨Int.le_refl _,hy.1⟩,w9⟩,by rw[List.append_nil];exact YX.made w1 _ Ja 0 _ _ I,(Ext.refl _).alloc _⟩
 case round =>
  obtain⟨k,qs,rr,hk,rfl,rfl,hI,hB,hE⟩:=hrel;clear hmk;cases k with
  |zero =>
   obtain⟨i1,i2,i3,i4⟩:=hI;have hW:=GH;have hdr:DG W [rr]:=DG.cons i3.1 O (DG.nil _);simp only[List.replicate_zero,List.nil_append]at hB;have hSL:=SL.G5 hB la.length O O;rw[List.take_of_length_le O,show qs.length=la.length from by omega]at hSL;have HSL:=Lib.hid hSL;have HB:=Lib.hid hB;have HF:Hid (dv W qs=dv W la/y/\rr=dv W la%y):=by
    rw[List.drop_zero]at i4;have g1:dv W qs*y<=dv W la:=by rw[Int.mul_comm];omega
    have g2:dv W la<(dv W qs+1)*y:=by rw[Int.add_mul,Int.mul_comm (dv W qs)];omega
    exact⟨(ZX hy.1 g1 g2).symm,by rw[Zy g1 g2,Int.mul_comm (dv W qs)];omega⟩
   clear hSL hB i1 i4 hW;go_wp2_with fail
   refine(KS _ _ _ HSL.out).mono ?_;rintro e w' ⟨⟨v1,rfl,hv1⟩,rfl⟩;go_wp2_with fail
   refine(KS _ [rr] _ ⟨_,1,rfl,Nat.le_refl _,wv,(YX.new _ 201 Ja [rr] _ I).row.cells (YX.new _ 201 Ja [rr] _ I).PT⟩).mono ?_;rintro e w' ⟨⟨v2,rfl,hv2⟩,rfl⟩;go_wp2
   go_ret2
   refine⟨_,rfl,⟨_,_,_,_,rfl,hv1.ext ((Ext.refl _).alloc _),hv2,⟨i2.Q3,Xi _⟩,⟨hdr.Q3,Xi _⟩,by rw[XB];exact HF.out.1,by rw[XB];simpa using HF.out.2⟩,(hx1.trans hE).alloc _⟩
  |succ k =>
   have hlt:k<la.length:=O;have hst:=hI.step ha hy;obtain⟨i1,i2,i3,i4⟩:=hI;obtain⟨b,off,rfl,hba,hc⟩:=HA.out k hlt;rw[Zt hlt]at hc;simp only[Ja]at hc;have hx2:=hx1.trans hE;have hc:=hx2.cell hc;have hcy2:=hx2.cell hcy;have hx:=JW ha k;have hlen:k<(List.replicate (k+1) 0++qs).length:=tA;have hcell:=hB.cell hlen;have hz:(List.replicate (k+1) (0:Int)++qs).getD k default=0:=by simp[List.getD,List.getElem?_append_left]
   rw[hz]at hcell;simp only[Ja]at hcell;have hfr:=hB.frozen k;have HB:=Lib.hid hB;have HST:=Lib.hid hst;have e1:((k+1:Nat):Int)-1=(k:Int):=O;have hk0:(0:Int)<=(k:Int):=O;have hk1:(k:Int)<(la.length:Int):=O;have hbne:b≠w1.heap.size:=wm<|Nat.lt_of_lt_of_le hba.lt hx1.size
   have hyne:by1≠w1.heap.size:=wm<|Nat.lt_of_lt_of_le hby.lt hx1.size
   clear hB hlen hz hst i4 i1;rw[e1];clear e1;go_wp2
   go_region_held3 (λw'=>w'.cell? ⟨b,off+k,none⟩=some (.int .u64 (Qc la k))/\w'.cell? ⟨by1,oy,none⟩=some (.int .u64 y))
    (first | exact⟨hdx.cell hc,hdx.cell hcy2⟩ | exact⟨Xh hbne (hdx.cell hc),Xh hyne (hdx.cell hcy2)⟩ | go_keep)
    (first | (go_at_call 206;refine(Sd _ _ _ _ i3 hx hy.2).mono ?_;rintro e w' ⟨rfl,hdx⟩;have hcell':=hdx.cell hcell;have hfr':=(HB.out.ext (((Ext.refl _).drewN _).trans hdx)).frozen k))
   have hBs:=(HB.out.ext (((Ext.refl _).drewN _).trans hdx)).set k (LF rr (Qc la k) y);rw[Ul]at hBs;have HBs:=Lib.hid hBs;clear hBs;go_wp2
   go_roundw
   case rel=>exact⟨k,_,_,O,by go_num,rfl,HST.out,HBs.out,(hE.trans (((Ext.refl _).drewN _).trans hdx)).Xv (Nat.le_refl _) _⟩
   case measure=>simp[intOf]
end Go.Proofs.YteldggljlnakmaaGreatDoor
