/- Steps of the proof of the theorem in the last file. -/
import Derived.WalkKit
import Derived.WalkSpells
import Derived.WalkLawsBesides
import Derived.Lib.Hide
import Derived.Deep.RegionHeld3
import Derived.StillTail
import Derived.Deep.LoopGhost
import Derived.IntWalk
import Derived.Test.YtpmehagnedbkhaaGreatDoorProg
import Derived.KernelRfl
import Derived.Deep.QuietTactic
import Derived.BigQuiet
import Derived.Laws.Externs
import Derived.Shelf.Strings.Builder1
import Derived.Shelf.Strings.Builder2
import Derived.Shelf.Small.Bits
import Derived.Shelf.Small.Wraps
import Derived.Shelf.Strconv.Atoi
import Derived.Shelf.Strconv.Itoa0
import Derived.Shelf.Strconv.Itoa1
import Derived.Shelf.LaysM
import Derived.Shelf.Strconv.Itoa2
import Derived.Shelf.Strconv.Itoa3
import Derived.Shelf.Strings.Search1
import Derived.Shelf.Strings.Search2
import Derived.Shelf.Strings.Cut
import Derived.Shelf.Strings.Prefix
import Derived.Shelf.Bits.Mul64
import Derived.Shelf.Strings.Repeat
import Derived.Ground.Names2Prog
import Derived.Shelf.Slices.Clone
import Derived.Shelf.Slices.SearchI
import Derived.Ground.SlgnProg
import Derived.Shelf.SlicesE.Clone
set_option linter.all false
set_option maxHeartbeats 4000000
open Go.Proofs.Tryz
def I{α:Sort _}{a:α}:a=a:=.refl a
def O{p:Prop}(h:p:=by omega):p:=h
def wm{p:Prop}(h:p:=by kernel_rfl):p:=h
def wk{p q:Prop}(h:p)(k:p→q:=by intro;omega):q:=k h
def wu{p:Prop}(h:p:=by decide):p:=h
def wv{p:Prop}(h:p:=by decide +kernel):p:=h
def wy{p:Prop}(h:p:=by rfl):p:=h
def wz{p:Prop}(h:p:=by simp):p:=h
def w6{p:Prop}(h:p:=by simp;omega):p:=h
def w8{α:Sort _}{G:α→Prop}(a:α)(_:G a):True:=trivial
def w9{α:Sort _}{G:α→Prop}(a:α)(h:G a):G a:=h
def tA{α:Sort _}{G H:α→Prop}(a:α)(h:G a∧H a):G a:=h.1
def tB{α:Sort _}{G H:α→Prop}(a:α)(h:G a∧H a):H a:=h.2
def tC{α:Type _}{l:List α}:List.Sublist l l:=.refl l
def tD{α:Type _}{l:List α}:List.Sublist [] l:=List.nil_sublist l
def tE{α:Type _}{a:α}{l:List α}:List.Sublist [a] (a::l):=.cons_cons _ (List.nil_sublist _)
def tF{α:Type _}{a b:α}{l:List α}:List.Sublist [a,b] (a::b::l):=.cons_cons _ (.cons_cons _ (List.nil_sublist _))
def tG{α:Type _}{a b c:α}{l:List α}:List.Sublist [a,b,c] (a::b::c::l):=.cons_cons _ (.cons_cons _ (.cons_cons _ (List.nil_sublist _)))
def tH{α:Type _}{a b:α}(h:a=b:=by kernel_rfl):some a=some b:=congrArg some h
namespace Go.Proofs.YtpmehagnedbkhaaGreatDoor
variable{w w' w0:World}{E N b bytes i k n off:Nat}{a:Act}{c cs l l' news z:List Value}{o:Obj}{u v1 v3 v4 v5 x2 x3 x4 x5 x6 x7 x8:Value}{A0 A1 A2 A3 A4 A5 A6 A7 A8 A9 α γ ι:Type}{ops:Array Oper}{Q Q':Exit->Act->World->Prop}{K:Act->World->Prop}{g:Bool}{x y:Operand}{bs bs' bs0 ob:List (Nat×Obj)}{fr:Nat×Nat}{P:Program}{f:Obj->List (Nat×Obj)}{T' ty yT:TypeId}{fn:Func}{aft:Array Edge}{gd:Option (Nat×Bool)}{x1:Nat×Obj}{ps:List (Nat×Value)}{k':IntKind}{s:ByteArray}{q:Option Addr}
open Go.RowKit
structure D9(α:Type) where
 val:α->Value
 ty:TypeId
instance{α:Type}:CoeFun (D9 α) (λ_=>α->Value):=⟨D9.val⟩
def Je:D9 Int:=⟨λx=>.int .u64 x,289⟩
def K1(w:World)(b:Nat)(E:TypeId):Prop:=∃c fr,w.heap[b]?=some (.cells c E fr)
theorem K1.lt(h:K1 w b E):b<w.heap.size:=by
 obtain⟨c,fr,h⟩:=h;rcases Nat.lt_or_ge b w.heap.size with g | g
 ·exact g
 rw[Array.getElem?_eq_none g]at h;cases h
theorem K1.uniq{E':Nat}(h:K1 w b E)(h':K1 w b E'):E=E':=by
 obtain⟨c,fr,h⟩:=h;obtain⟨c',fr',h'⟩:=h';rw[h]at h';cases h';rfl
def Row{α:Type}[Inhabited α](w:World)(b off:Nat)(enc:D9 α)(l:List α):Prop:=∀i,i<l.length->w.cell? ⟨b,off+i,none⟩=some (enc (l.getD i default))
abbrev Ext(w w':World):Prop:=Below w.heap.size w w'
def Ext.refl(w:World):Ext w w:=Below.refl _ _
def Ext.trans{a b c:World}(h:Ext a b)(k:Ext b c):Ext a c:=Below.trans h (Below.mono k h.size)
def Ext.pF{a:World}(h:Ext a w)(h1:w'.os=w.os)(h2:w'.tape=w.tape)(h3:w'.output=w.output)(h4:w.heap.size<=w'.heap.size)(h5:∀i,i<a.heap.size->w'.heap[i]?=w.heap[i]?):Ext a w' :=
 ⟨h1.trans h.os,h2.trans h.tape,h3.trans h.output,Nat.le_trans h.size h4,λi hi=>(h5 i hi).trans (h.block i hi)⟩
def Ext.alloc{a:World}(h:Ext a w)(o:Obj):Ext a (w.alloc o):=Below.alloc h h.size o
def Ext.drew{a:World}(h:Ext a w):Ext a w.drew:=Below.drew h
def Ext.drewN{a:World}(h:Ext a w)(n:Nat):Ext a (w.drewN n):=⟨h.os,h.tape,h.output,h.size,h.block⟩
def Ext.cell(h:Ext w w'){p:Addr}{v:Value}(hv:w.cell? p=some v):w'.cell? p=some v:=by
 rw[Below.cell h (World.block_lt_of_cell? w p hv)];exact hv
def Ext.Xu{a:World}(h:Ext a w){p:Addr}(hp:a.heap.size<=p.block)(u:Value):Ext a (w.setCell p u):=Below.setCell h hp u
theorem K1.ext(h:K1 w b E)(k:Below w.heap.size w w'):K1 w' b E:=by
 obtain⟨c,fr,e⟩:=id h;exact⟨c,fr,by rw[k.block b h.lt];exact e⟩
def Cells{α:Type}[Inhabited α](w:World)(q:Option Addr)(enc:D9 α)(l:List α):Prop :=
 ∀i,i<l.length->∃b off,q=some ⟨b,off,none⟩/\K1 w b enc.ty/\w.cell? ⟨b,off+i,none⟩=some (enc (l.getD i default))
def Xk{o b' o':Nat}{v:Value}(h:b≠b')(hc:w.cell? ⟨b,o,none⟩=some u):(w.setCell ⟨b',o',none⟩ v).cell? ⟨b,o,none⟩=some u:=by
 rw[World.cell?_setCell_other _ _ _ _ (λe=>h (congrArg Addr.block e).symm)];exact hc
def SL{α:Type}[Inhabited α](w:World)(v:Value)(enc:D9 α)(l:List α):Prop :=
 ∃q cap,v = .slice q l.length cap/\l.length<=cap/\(cap:Int)<=9223372036854775807/\Cells w q enc l
theorem Cells.ext[Inhabited α]{w w':World}(h:Ext w w'){q:Option Addr}{enc:D9 α}{l:List α}(hr:Cells w q enc l):Cells w' q enc l:=by
 intro i hi;obtain⟨b,off,h1,h2,h3⟩:=hr i hi;exact⟨b,off,h1,h2.ext h,h.cell h3⟩
theorem SL.ext[Inhabited α]{w w':World}(h:Ext w w'){v:Value}{enc:D9 α}{l:List α}(hs:SL w v enc l):SL w' v enc l:=by
 obtain⟨q,cap,h1,h2,h3,h4⟩:=hs;exact⟨q,cap,h1,h2,h3,h4.ext h⟩
def SL.nil[Inhabited α](w:World)(enc:D9 α):SL w (.slice none 0 0) enc ([]:List α) :=
 ⟨none,0,rfl,Nat.le_refl _,wu,λi hi=>by cases hi⟩
theorem Cells.take[Inhabited α]{w:World}{q:Option Addr}{enc:D9 α}{l:List α}(hr:Cells w q enc l)(n:Nat):Cells w q enc (l.take n):=by
 intro i hi;have h1:i<l.length:=by rw[List.length_take]at hi;omega
 have h2:i<n:=by rw[List.length_take]at hi;omega
 have e:(l.take n).getD i default=l.getD i default:=by simp[List.getD,h2]
 rw[e];exact hr i h1
theorem Row.cells[Inhabited α]{w:World}{b off:Nat}{enc:D9 α}{l:List α}(hr:Row w b off enc l)(hb:K1 w b enc.ty):Cells w (some ⟨b,off,none⟩) enc l :=
 λi hi=>⟨b,off,rfl,hb,hr i hi⟩
def Yd{α:Type}(w:World)(b:Nat)(E:TypeId)(enc:D9 α)(l:List α):Prop:=w.heap[b]?=some (.cells (l.map enc.val).toArray E (0,0))
def Yd.cell[Inhabited α]{w:World}{b E:Nat}{enc:D9 α}{l:List α}(h:Yd w b E enc l){i:Nat}(hi:i<l.length):w.cell? ⟨b,i,none⟩=some (enc (l.getD i default)):=by
 have h':w.heap[b]?=some (.cells (l.map enc.val).toArray E (0,0)):=h;simp[World.cell?,h',hi,List.getD]
def Yd.frozen{enc:D9 α}{l:List α}(h:Yd w b E enc l)(i:Nat):w.frozen? ⟨b,i,none⟩=false:=by
 have h':w.heap[b]?=some (.cells (l.map enc.val).toArray E (0,0)):=h;simp[World.frozen?,h']
theorem Yd.lt{enc:D9 α}{l:List α}(h:Yd w b E enc l):b<w.heap.size:=by
 have h':w.heap[b]?=some (.cells (l.map enc.val).toArray E (0,0)):=h;rcases Nat.lt_or_ge b w.heap.size with g | g
 ·exact g
 rw[Array.getElem?_eq_none g]at h';cases h'
def Yd.set{enc:D9 α}{l:List α}(h:Yd w b E enc l)(i:Nat)(x:α):Yd (w.setCell ⟨b,i,none⟩ (enc x)) b E enc (l.set i x):=by
 have h':w.heap[b]?=some (.cells (l.map enc.val).toArray E (0,0)):=h;have hs:(l.set i x).map enc.val=(l.map enc.val).set i (enc x):=List.map_set;unfold Yd World.setCell;simp[Array.getElem?_modify,h',hs]
def Yd.ext{enc:D9 α}{l:List α}(h:Yd w b E enc l)(k:Ext w w'):Yd w' b E enc l:=by
 have:=k.block b h.lt;unfold Yd;rw[this];exact h
theorem Yd.row[Inhabited α]{w:World}{b E:Nat}{enc:D9 α}{l:List α}(h:Yd w b E enc l):Row w b 0 enc l:=by
 intro i hi;rw[Nat.zero_add];exact h.cell hi
def Yd.new(w:World)(E:Nat)(enc:D9 α)(l:List α)(c:Array Value)(hc:c=(l.map enc.val).toArray):Yd (w.alloc (.cells c E)) w.heap.size E enc l:=by
 subst hc;show(w.heap.push _)[w.heap.size]?=_;simp
def Yd.QEi(w:World)(b E:Nat)(enc:D9 α)(l:List α)(c:Array Value)(hc:c=(l.map enc.val).toArray)(hb:b=w.heap.size):Yd (w.alloc (.cells c E)) b E enc l:=by
 subst hb;exact Yd.new w E enc l c hc
def Yd.drew{enc:D9 α}{l:List α}(h:Yd w b E enc l):Yd w.drew b E enc l:=h
theorem Yd.made(w:World)(E:Nat)(enc:D9 α)(x:α)(n:Nat)(z:Value)(hz:z=enc x):Yd (w.alloc (.cells (madeCells #[z] n) E)) w.heap.size E enc (List.replicate n x):=by
 refine Yd.new w E enc _ _ ?_;subst hz;apply Array.ext
 ·simp[madeCells]
 intro i h1 h2;simp[madeCells,Nat.mod_one]
def Yd.PZ{enc:D9 α}{l:List α}(h:Yd w b E enc l):K1 w b E:=⟨_,_,h⟩
def SL.G3[Inhabited α]{w:World}{b:Nat}{enc:D9 α}{l:List α}(h:Yd w b enc.ty enc l)(n:Nat)(hn:n<=l.length)(hm:(l.length:Int)<=9223372036854775807):
  SL w (.slice (some ⟨b,0,none⟩) n l.length) enc (l.take n) :=
 ⟨_,l.length,by rw[List.length_take,Nat.min_eq_left hn],by rw[List.length_take];omega,hm,(h.row.cells h.PZ).take n⟩
def Bx(w:World)(b:Nat)(T:TypeId)(cs:List Value):Prop:=w.heap[b]?=some (.cells cs.toArray T (0,0))
def Bx.new(w:World)(T:TypeId)(c:Array Value):Bx (w.alloc (.cells c T)) w.heap.size T c.toList:=by
 show(w.heap.push _)[w.heap.size]?=_;simp
theorem Bx.lt{T:Nat}(h:Bx w b T cs):b<w.heap.size:=by
 have h':w.heap[b]?=some (.cells cs.toArray T (0,0)):=h;rcases Nat.lt_or_ge b w.heap.size with g | g
 ·exact g
 rw[Array.getElem?_eq_none g]at h';cases h'
def Bx.ext{T:Nat}(h:Bx w b T cs)(k:Ext w w'):Bx w' b T cs:=by
 unfold Bx;rw[k.block b h.lt];exact h
def Bx.alloc{T:Nat}(h:Bx w b T cs)(o:Obj):Bx (w.alloc o) b T cs:=h.ext ((Ext.refl w).alloc o)
def Bx.drew{T:Nat}(h:Bx w b T cs):Bx w.drew b T cs:=h
def Bx.at{T:Nat}(h:Bx w b T cs)(i:Nat)(c:Value)(hi:cs[i]?=some c):w.cell? ⟨b,i,none⟩=some c:=by
 have h':w.heap[b]?=some (.cells cs.toArray T (0,0)):=h;simp[World.cell?,h',hi]
def Bx.free{T:Nat}(h:Bx w b T cs)(i:Nat):w.frozen? ⟨b,i,none⟩=false:=by
 have h':w.heap[b]?=some (.cells cs.toArray T (0,0)):=h;simp[World.frozen?,h']
def Bx.two{T:Nat}{c0 c1:Value}(h:Bx w b T [c0,c1]):w.cell? ⟨b,0,none⟩=some c0/\w.cell? ⟨b,1,none⟩=some c1/\w.frozen? ⟨b,0,none⟩=false/\w.frozen? ⟨b,1,none⟩=false :=
 ⟨h.at 0 c0 rfl,h.at 1 c1 rfl,h.free 0,h.free 1⟩
def Bx.PZ{T:Nat}(h:Bx w b T cs):K1 w b T:=⟨_,_,h⟩
def DT(E:TypeId):Prop:=E=289\/E=3
instance(E:TypeId):Decidable (DT E):=by unfold DT;infer_instance
structure Kp(w w':World):Prop where
 size:w.heap.size<=w'.heap.size
 block:∀b E,K1 w b E->DT E->w'.heap[b]?=w.heap[b]?
def Kp.refl(w:World):Kp w w:=⟨Nat.le_refl _,λ_ _ _ _=>rfl⟩
theorem Kp.trans{a b c:World}(h:Kp a b)(k:Kp b c):Kp a c :=
 ⟨Nat.le_trans h.size k.size,λi E hi hE=>by
  have e:=h.block i E hi hE;have hi':K1 b i E:=by obtain⟨x,fr,hx⟩:=hi;exact⟨x,fr,by rw[e];exact hx⟩
  exact(k.block i E hi' hE).trans e⟩
theorem Kp.set{a:World}(h:Kp a w){R T:Nat}(hT:K1 w R T)(hD:¬DT T)(i:Nat)(v:Value):Kp a (w.setCell ⟨R,i,none⟩ v) :=
 h.trans ⟨by simp[World.setCell],λb E hb hE=>Below.heap_setCell _ _ _ _ (by rintro rfl;exact hD ((hb.uniq hT) ▸ hE))⟩
theorem K1.set{T:Nat}(h:K1 w b T)(R i:Nat)(v:Value):K1 (w.setCell ⟨R,i,none⟩ v) b T:=by
 obtain⟨c,fr,h⟩:=h;by_cases e:b=R
 ·subst e;exact⟨_,_,by unfold World.setCell;simp[Array.getElem?_modify,h];exact⟨rfl,rfl⟩⟩
 exact⟨c,fr,by rw[Below.heap_setCell _ _ _ _ e];exact h⟩
theorem K1.kp(h:K1 w b E)(k:Kp w w')(hE:DT E):K1 w' b E:=by
 obtain⟨c,fr,e⟩:=id h;exact⟨c,fr,by rw[k.block b E h hE];exact e⟩
theorem Cells.kp[Inhabited α]{w w':World}(k:Kp w w'){q:Option Addr}{enc:D9 α}(hE:DT enc.ty){l:List α}(hr:Cells w q enc l):Cells w' q enc l:=by
 intro i hi;obtain⟨b,off,h1,h2,h3⟩:=hr i hi;exact⟨b,off,h1,h2.kp k hE,by rw[World.cell?_of_block (w:=w) (k.block b _ h2 hE)];exact h3⟩
open Go
section
variable{P:Program}{md:Region.Mode}
def Kq(md:Region.Mode)(ops:Array Oper)(n:Nat):Bool :=
 (List.range n).all λi=>match ops[i]? with
  |some o=>o.after.all λe=>!Region.binds md e||decide (e.on<i)
  |none=>false
def Xh(h:Kq md ops n=true){i:Nat}(hi:i<n):∃o,ops[i]?=some o/\∀e∈o.after,Region.binds md e=true->e.on<i:=by
 have h1:=List.all_eq_true.1 h i (List.mem_range.2 hi);cases ho:ops[i]? with
 |none=>rw[ho]at h1;cases h1
 |some o =>
  rw[ho]at h1;refine⟨o,rfl,λe he hb=>?_⟩;have h2:=Array.all_eq_true_iff_forall_mem.1 h1 e he;simpa[hb]using h2
def Z8(n m:Nat):Array Bool:=(Array.range m).map λi=>decide (i<n)
def E7{m:Nat}{listed:Array Bool}(hs:listed.size=m)(h1:∀i,i<n->i<m->listed.getD i false=true)(h2:∀i,n<=i->i<m->listed.getD i false=false):listed=Z8 n m:=by
 apply Array.ext
 ·simp[Z8,hs]
 intro i hi hj;have him:i<m:=O;by_cases h:i<n
 ·have:=h1 i h him;simp[hi]at this;simp[Z8,h,this]
 have:=h2 i O him;simp[hi]at this;simp[Z8,h,this]
def UT(P:Program)(ops:Array Oper)(Q:Exit->Act->World->Prop)(tl:List Oper):Exit->Act->World->Prop
 |.normal,a,w=>wpList P ops Q tl a w
 |e,a,w=>Q e a w
theorem UK{o:Oper}{tl:List Oper}{K':Act->World->Prop}(h:∀a w,K a w->K' a w)
  (hh:o.wp P a w K (UT P ops Q tl)):o.wp P a w K' Q:=by
 unfold Oper.wp at *
 generalize (execOp a.eval o).run P w=r at *
 cases r with
 |ok n w' =>
  cases n<;>simp only[Oper.upon]at hh ⊢ <;>
   first
    |exact h _ _ hh
    |exact Calls.mono hh λe w'' he=>by cases e<;>first | exact h _ _ he | exact he
    |exact Rows.mono hh λ_ _ he=>h _ _ he
 |halt x w'=>cases x<;>simp only[Oper.upon]at hh ⊢<;>exact hh
def G4{l:List Oper}(hi:i<n):(l.take n).toArray[i]?=l.toArray[i]?:=by
 simp[hi]
theorem GA{l:List Oper}{lh la:Array Bool}(hn:n<l.length)(hs:Region.sinkB md l.toArray n=true)(hc:Region.chainB md l.toArray n=true)(ho:Kq md l.toArray n=true)
  (inv:HeadInv md l.toArray n la) (hsz:lh.size=n) (hrel:∀i,i<n->la.getD i true=lh.getD i true) {k:Nat} (hk:k<n) (hun:lh.getD k true=false) :
  (∀i,i∈Region.ready md l.toArray la↔i∈Region.ready md (l.take n).toArray lh)/\Region.ready md (l.take n).toArray lh≠[]:=by
 have hrel2:∀i,i<n->la.getD i false=lh.getD i false:=by
  intro i hi;have h:=hrel i hi;have h1:i<la.size:=by rw[inv.size];simp;omega
  have h2:i<lh.size:=O;simp[h1,h2]at h ⊢;exact h
 have hhead:∀i,i<n->(i∈Region.ready md l.toArray la↔i∈Region.ready md (l.take n).toArray lh):=by
  intro i hi;rw[mem_ready,mem_ready,hrel i hi,G4 hi];refine and_congr_right λ_=>exists_congr λo=>and_congr_right λhoi=>?_;obtain⟨o',ho',hed⟩:=Xh ho hi;have:o'=o:=Option.some.inj (ho'.symm.trans hoi);subst this;refine forall_congr' λe=>forall_congr' λhe=>forall_congr' λhb=>?_;rw[hrel2 e.on (wk<|hed e he hb)]
 have hex:∃i,i<n/\lh.getD i true=false/\∀j,j<i->lh.getD j true=true:=by
  clear hhead hrel hrel2
  induction k using Nat.strongRecOn with
  |_ k ih =>
   by_cases h:∃j,j<k/\lh.getD j true=false
   ·obtain⟨j,hj,hj2⟩:=h;exact ih j hj O hj2
   exact⟨k,hk,hun,λj hj=>by
    cases hv:lh.getD j true with
    |true=>rfl
    |false=>exact absurd ⟨j,hj,hv⟩ h⟩
 refine⟨λi=>?_,?_⟩
 ·by_cases hi:i<n
  ·exact hhead i hi
  constructor
  ·intro h;exact absurd h (tail_waits hs hc (by simpa using hn) inv _ k rfl hk (by rw[hrel k hk];exact hun) i O)
  intro h;obtain⟨_,o,ho',_⟩:=mem_ready.1 h;have:=(Array.getElem?_eq_some_iff.1 ho').1;simp at this;omega
 obtain⟨i,hi,h1,h2⟩:=hex;intro hnil;have:i∈Region.ready md (l.take n).toArray lh:=by
  rw[mem_ready];obtain⟨o',ho',hed⟩:=Xh ho hi;refine⟨h1,o',by rw[G4 hi];exact ho',λe he hb=>?_⟩;have h3:=h2 e.on (hed e he hb);have h4:e.on<lh.size:=wk<|hed e he hb
  simp[h4]at h3 ⊢;exact h3
 rw[hnil]at this;cases this
theorem Np:∀(f:Nat) (listed:Array Bool) (a:Act) (w:World),wpAny P md ops Q f listed a w->wpAny P md ops Q (f+1) listed a w
 |0,listed,a,w,h=>⟨λ_=>h.2,λi hi=>(by rw[h.1]at hi;cases hi)⟩
 |f+1,listed,a,w,h=>⟨h.1,λi hi=>wpOp_mono (λa' w' h'=>Np f _ a' w' h') (h.2 i hi)⟩
def UN(f:Nat)(listed:Array Bool)(a:Act)(w:World)(g:Nat)(h:wpAny P md ops Q g listed a w):wpAny P md ops Q (f+g) listed a w:=by
 induction f with
 |zero=>rw[Nat.zero_add];exact h
 |succ f ih=>rw[show f+1+g=(f+g)+1 by omega];exact Np _ _ _ _ ih
theorem Rc{tl:List Oper}(h:LetsOut (UT P ops Q tl)):LetsOut Q:=by
 obtain⟨a,w,h⟩:=h;exact⟨a,w,h⟩
def Dh(ops:Array Oper)(n:Nat):Bool :=
 (List.range n).all λi=>match ops[i]? with
  |some o=>(match o.guard with | none=>true | some (g,_)=>decide (g<n))
  |none=>false
def B8{l:List Oper}{g:Nat}(hg:g<n)(t:Array Value):yielded (l.take n).toArray t g=yielded l.toArray t g:=by
 unfold yielded;rw[G4 hg]
theorem OI{l:List Oper}{tl:List Oper}(hi:i<n)(hgd:Dh l.toArray n=true)
  (h:wpOp P (l.take n).toArray (UT P l.toArray Q tl) i K a w):wpOp P l.toArray Q i K a w:=by
 unfold wpOp at *
 rw[G4 hi]at h;cases ho:l.toArray[i]? with
 |none=>simp only[ho]at h ⊢;exact h
 |some o =>
  simp only[ho]at h ⊢;have hw:Region.wanted o (yielded (l.take n).toArray a.tmps)=Region.wanted o (yielded l.toArray a.tmps):=by
   have h1:=List.all_eq_true.1 hgd i (List.mem_range.2 hi);rw[ho]at h1;unfold Region.wanted;cases hg:o.guard with
   |none=>rfl
   |some gw =>
    obtain⟨g,want⟩:=gw;simp only[hg]at h1;simp only[B8 (l:=l) (by simpa using h1)]
  rw[hw]at h;split
  ·rename_i hw2;rw[if_pos hw2]at h;rcases h with h | ⟨h1,h2⟩
   ·exact .inl (UK (λ_ _ h=>h) h)
   exact .inr ⟨h1,Rc h2⟩
  rename_i hw2;rw[if_neg hw2]at h;exact h
theorem UM{l:List Oper}(hn:n<l.length)(hs:Region.sinkB md l.toArray n=true)(hc:Region.chainB md l.toArray n=true)(ho:Kq md l.toArray n=true)
  (hgd:Dh l.toArray n=true) (hseq:Region.seqB md l.toArray (l.length-n) n (Z8 n l.length)=true) :
  ∀(f:Nat) (lh la:Array Bool) (a:Act) (w:World),HeadInv md l.toArray n la->lh.size=n->(∀i,i<n->la.getD i true=lh.getD i true) ->
   wpAny P md (l.take n).toArray (UT P l.toArray Q (l.drop n)) f lh a w->wpAny P md l.toArray Q (f+(l.length-n)) la a w:=by
 have fin:∀(f:Nat) (lh la:Array Bool) (a:Act) (w:World),HeadInv md l.toArray n la->lh.size=n->(∀i,i<n->la.getD i true=lh.getD i true) ->
   Region.ready md (l.take n).toArray lh=[]->wpList P l.toArray Q (l.drop n) a w->wpAny P md l.toArray Q (f+(l.length-n)) la a w:=by
  intro f lh la a w inv hsz hrel hr h;have hall:∀i,i<n->lh.getD i true=true:=by
   intro i hi;cases hv:lh.getD i true with
   |true=>rfl
   |false=>exact absurd hr (GA hn hs hc ho inv hsz hrel hi hv).2
  have hla:la=Z8 n l.length:=by
   refine E7 (by simpa using inv.size) (λi hi hi2=>?_) λi hi hi2=>?_
   ·have h1:=(hrel i hi).trans (hall i hi);have h2:i<la.size:=by rw[inv.size];simpa using hi2
    simp[h2]at h1 ⊢;exact h1
   exact getD_both (inv.tail i hi (by simpa using hi2))
  subst hla;refine UN f _ _ _ _ ?_;have:=wpAny_of_seq (P:=P) (Q':=Q) (l.drop n) n (Z8 n l.length) a w (λj=>by simp[List.getElem?_drop]) (by simpa using hseq) h;simpa using this
 intro f
 induction f with
 |zero=>intro lh la a w inv hsz hrel h;exact fin 0 lh la a w inv hsz hrel h.1 h.2
 |succ f ih =>
  intro lh la a w inv hsz hrel h;by_cases hr:Region.ready md (l.take n).toArray lh=[]
  ·exact fin (f+1) lh la a w inv hsz hrel hr (h.1 hr)
  obtain⟨k,hk⟩:=List.exists_mem_of_ne_nil _ hr;have hk2:=(mem_ready.1 hk);have hkn:k<n:=by
   obtain⟨_,o,ho',_⟩:=hk2;have:=(Array.getElem?_eq_some_iff.1 ho').1;simp at this;omega
  have hiff:=(GA hn hs hc ho inv hsz hrel hkn hk2.1).1;rw[show f+1+(l.length-n)=(f+(l.length-n))+1 by omega];refine⟨λh0=>absurd ((hiff k).2 hk) (by rw[h0];simp),λi hi=>?_⟩;have hi':=(hiff i).1 hi;have hin:i<n:=by
   obtain⟨_,o,ho',_⟩:=mem_ready.1 hi';have:=(Array.getElem?_eq_some_iff.1 ho').1;simp at this;omega
  have h2:=OI hin hgd (h.2 i hi');refine wpOp_mono (λa' w' h3=>ih _ _ a' w' (inv.set hi hin) (by simpa using hsz) (λj hj=>?_) h3) h2;by_cases hij:i=j
  ·subst hij;have h1:i<la.size:=by rw[inv.size];simp;omega
   have h2:i<lh.size:=O;simp[h1,h2]
  rw[getD_set_ne true hij,getD_set_ne true hij];exact hrel j hj
def Ba(l:List Oper)(n:Nat):Bool :=
 decide (n<l.length)&&Region.sinkB .any l.toArray n&&Region.chainB .any l.toArray n&&Kq .any l.toArray n&&Dh l.toArray n&&Region.seqB .any l.toArray (l.length-n) n (Z8 n l.length)
theorem MX{id:Nat}{l:List Oper}(n:Nat)(hm:P.follows .mixedOrders=true)(hB:Ba l n=true)
  (h:wpAny P .any (l.take n).toArray (UT P l.toArray Q (l.drop n)) n (Array.replicate n false) a { w with drawn:=w.drawn+1 }):(Code.region id l.toArray true).wp P Q a w:=by
 simp only[Ba,Bool.and_eq_true,decide_eq_true_eq]at hB;obtain⟨⟨⟨⟨⟨hn,hs⟩,hc⟩,ho⟩,hg⟩,hseq⟩:=hB;refine wp_region_any hm ?_;have kX:HeadInv .any l.toArray n (Array.replicate l.toArray.size false) :=
  ⟨wz,λj oj _ hl=>(by rw[getD_replicate_false]at hl;cases hl),λt _ ht=>getD_in (by simpa using ht) (getD_replicate_false _ _)⟩
 have:=UM (P:=P) (md:=.any) (Q:=Q) hn hs hc ho hg hseq n (Array.replicate n false) (Array.replicate l.toArray.size false) a { w with drawn:=w.drawn+1 } kX wz
  (λi hi=>by
   have h1:i<l.length:=O;simp[hi,h1]) h
 rw[show n+(l.length-n)=l.toArray.size by simp;omega]at this;exact this
def Jr:Op->Bool
 |.move _ | .assign _ | .pick .. | .nilCheck _ | .binOp .. | .unOp .. | .convert .. | .fieldAddr .. | .field .. | .indexAddr .. | .index .. | .extract .. | .slice .. | .build .. | .load .. | .makeFunc .. | .lookup ..=>true
 |.call { callee:=.builtin b,.. }=>match b with | .len | .cap | .min | .max=>true | _=>false
 |_=>false
section
variable{ops:Array Oper}{Q:Exit->Act->World->Prop}{S:World->Prop}
def Rb(P:Program)(ops:Array Oper)(Q:Exit->Act->World->Prop)(S:World->Prop):List Nat->Act->World->Prop
  | [],a,w=>Q .normal a w
  | i::r,a,w=>∃o,ops[i]?=some o /\
      ((Jr o.op=true/\∃v,YieldsIf P ops S o v a/\Rb P ops Q S r (a.put o.dst v) w) \/
       (Jr o.op=false/\wpOp P ops (λ_ _ _=>False) i (λa' w'=>S w'/\Rb P ops Q S r a' w') a w))
theorem yF{o:Oper}(hi:ops[i]?=some o)(h:wpOp P ops (λ_ _ _=>False) i K a w):
  ∃u w' d,K ({ a with defers:=d }.put o.dst u) w':=by
 unfold wpOp at h;simp only[hi]at h;split at h
 ·rcases h with h | ⟨_,_,_,h⟩
  ·unfold Oper.wp at h;generalize (execOp a.eval o).run P w=r at *
   cases r with
   |ok n w' =>
    cases n<;>simp only[Oper.upon]at h
    case value u=>exact⟨u,w',a.defers,h⟩
    case skip=>exact⟨undef,w',a.defers,h⟩
    case defer d=>exact⟨undef,w',d::a.defers,h⟩
    case enter f args =>
     obtain⟨e,w'',fr,hR,_⟩:=h [];cases e with
     |returned u=>exact⟨u,w'',a.defers,hR⟩
     |panicked c=>exact hR.elim
     |outgrown=>obtain⟨_,_,h⟩:=hR;exact h.elim
    case row row args =>
     obtain⟨u,w'',hR,_⟩:=h default [];exact⟨u,w'',a.defers,hR⟩
    all_goals exact h.elim
   |halt x w'=>cases x<;>simp only[Oper.upon]at h<;>exact h.elim
  exact h.elim
 exact⟨undef,w,a.defers,h⟩
theorem UL{j:Nat}{oi oj:Oper}{v:Value}(hj:ops[j]?=some oj)(hap:oi.apart ops oj=true)(hsj:∀cs b,oj.op≠.select cs b)
  {K:Act->World->Prop} {a:Act} {w:World} (h:wpOp P ops (λ_ _ _=>False) j (λa' w'=>K (a'.put oi.dst v) w') a w) :
  wpOp P ops (λ_ _ _=>False) j K (a.put oi.dst v) w:=by
 obtain⟨h1,h2,h3⟩:=Oper.apart_spec hap;unfold wpOp at *
 simp only[hj]at *
 rw[wanted_put oj a oi.dst v h1];split
 ·rename_i hw;simp only[hw,if_true]at h;rcases h with h | ⟨hasks,hlets⟩
  case inr=>exact .inr ⟨by unfold Oper.asks at *;rw[execOp_put oj hsj a oi.dst v h1];exact hasks,hlets⟩
  refine .inl ?_;unfold Oper.wp at *
  rw[execOp_put oj hsj a oi.dst v h1];generalize (execOp a.eval oj).run P w=r at *
  cases r with
  |ok n w' =>
   cases n<;>simp only[Oper.upon]at h ⊢
   case value u=>rw[Act.put_comm a v u h2];exact h
   case skip=>rw[Act.put_comm a v undef h2];exact h
   case defer d=>rw[Act.put_defers,Act.put_comm _ v undef h2];exact h
   case enter f args =>
    refine Calls.mono h λe w'' he=>?_;cases e with
    |returned u=>show K _ _;rw[Act.put_comm a v u h2];exact he
    |panicked c=>exact he
    |outgrown=>exact he
   case row row args=>exact Rows.mono h λu w'' he=>(by rw[Act.put_comm a v u h2];exact he)
  |halt x w'=>cases x<;>simp only[Oper.upon]at h ⊢
 rename_i hw;simp only[hw]at h;rw[Act.put_comm a v undef h2];exact h
def YieldsIf.uniq{o:Oper}{v v':Value}(hS:S w)(h:YieldsIf P ops S o v a)(h':YieldsIf P ops S o v' a):v=v':=by
 rcases h with ⟨h1,h2⟩ | ⟨h1,h2⟩<;>rcases h' with ⟨g1,g2⟩ | ⟨g1,g2⟩
 ·have:=(h2 w hS).symm.trans (g2 w hS);simpa using this
 ·rw[h1]at g1;cases g1
 ·rw[h1]at g1;cases g1
 rw[h2,g2]
def Ed{x y:Oper}(h:x.apart ops y=true):y.apart ops x=true:=by
 obtain⟨h1,h2,h3⟩:=Oper.apart_spec h;unfold Oper.apart;cases hx:x.dst with
 |none=>cases hy:y.dst with
  |none=>rfl
  |some e=>simpa using h3 e hy
 |some d =>
  have g1:=h1 d hx;have g2:=h2 d hx;cases hy:y.dst with
  |none=>simpa using g1
  |some e =>
   have g3:=h3 e hy;rw[hy]at g2;simp only[ne_eq,Option.some.injEq]at g2;simp[g3,g1];exact λh=>g2 h.symm
theorem Bm{j:Nat}{oj:Oper}{post:List Nat}(hoj:ops[j]?=some oj)(hq:Jr oj.op=true)(hsel:∀(j:Nat) (o:Oper) cs b,ops[j]?=some o->o.op≠.select cs b):
  ∀(pre:List Nat) (a:Act) (w:World),(∀k∈pre,∀ok,ops[k]?=some ok->oj.apart ops ok=true)->Rb P ops Q S (pre++j::post) a w ->
   ∃v,YieldsIf P ops S oj v a/\Rb P ops Q S (pre++post) (a.put oj.dst v) w
 |[],a,w,_,h=>by
  obtain⟨o,ho,h⟩:=h;have:o=oj:=Option.some.inj (ho.symm.trans hoj);subst this;rcases h with ⟨_,v,h1,h2⟩ | ⟨h1,_⟩
  ·exact⟨v,h1,h2⟩
  rw[hq]at h1;cases h1
 |k::pre,a,w,hap,h=>by
  obtain⟨ok,hok,h⟩:=h;have hk:=hap k wz ok hok;obtain⟨p1,p2,p3⟩:=Oper.apart_spec hk;rcases h with ⟨hqk,vk,hyk,h⟩ | ⟨hqk,h⟩
  ·obtain⟨v,hy,h⟩:=Bm hoj hq hsel pre _ w (λi hi=>hap i (by simp[hi])) h;have hy':YieldsIf P ops S oj v a:=by
    refine hy.of_same ?_ ?_
    ·exact(execOp_put oj (λcs b=>hsel j oj cs b hoj) a ok.dst vk p3).symm
    exact(wanted_put oj a ok.dst vk p3).symm
   refine⟨v,hy',ok,hok,.inl ⟨hqk,vk,?_,?_⟩⟩
   ·refine hyk.of_same ?_ ?_
    ·exact execOp_put ok (λcs b=>hsel k ok cs b hok) a oj.dst v p1
    exact wanted_put ok a oj.dst v p1
   rw[Act.put_comm a v vk p2];exact h
  have h2:=wpOp_mono (λa' w' (h:S w'/\Rb P ops Q S (pre++j::post) a' w')=>(⟨h.1,Bm hoj hq hsel pre a' w' (λi hi=>hap i (by simp[hi])) h.2⟩ :
   S w'/\∃v,YieldsIf P ops S oj v a'/\Rb P ops Q S (pre++post) (a'.put oj.dst v) w')) h
  obtain⟨u,w1,d,hS1,v0,hy0,_⟩:=yF hok h2;have back:∀(d:List Deferred) (u v:Value),YieldsIf P ops S oj v ({ a with defers:=d }.put ok.dst u)->YieldsIf P ops S oj v a:=λd u v hy=>by
   refine hy.of_same ?_ ?_
   ·rw[execOp_put oj (λcs b=>hsel j oj cs b hoj) _ ok.dst u p3];rfl
   rw[wanted_put oj _ ok.dst u p3]
  have hya:=back d u v0 hy0;refine⟨v0,hya,ok,hok,.inr ⟨hqk,?_⟩⟩;refine UL hok hk (λcs b=>hsel k ok cs b hok) ?_;have h3:wpOp P ops (λ_ _ _=>False) k (λa' w'=>(YieldsIf P ops S oj v0 a')/\(S w'/\∃v,YieldsIf P ops S oj v a'/\Rb P ops Q S (pre++post) (a'.put oj.dst v) w')) a w:=by
   have xA:∀(u:Value),YieldsIf P ops S oj v0 (a.put ok.dst u):=λu=>by
    refine hya.of_same ?_ ?_
    ·exact execOp_put oj (λcs b=>hsel j oj cs b hoj) a ok.dst u p3
    exact wanted_put oj a ok.dst u p3
   have keepd:∀(d:Deferred) (u:Value),YieldsIf P ops S oj v0 ({ a with defers:=d::a.defers }.put ok.dst u):=λd u=>by
    refine hya.of_same ?_ ?_
    ·rw[execOp_put oj (λcs b=>hsel j oj cs b hoj) _ ok.dst u p3];rfl
    rw[wanted_put oj _ ok.dst u p3]
   clear h;unfold wpOp at h2 ⊢;simp only[hok]at h2 ⊢;split
   ·rename_i hw;simp only[hw,if_true]at h2;rcases h2 with h2 | h2
    case inr=>exact .inr h2
    refine .inl ?_;unfold Oper.wp at *
    generalize (execOp a.eval ok).run P w=r at *
    cases r with
    |ok n w' =>
     cases n<;>simp only[Oper.upon]at h2 ⊢
     case value u=>exact⟨xA u,h2⟩
     case skip=>exact⟨xA _,h2⟩
     case defer d=>exact⟨keepd d _,h2⟩
     case enter f args =>
      refine Calls.mono h2 λe w'' he=>?_;cases e with
      |returned u=>exact⟨xA u,he⟩
      |panicked c=>exact he
      |outgrown=>exact he
     case row row args=>exact Rows.mono h2 λu w'' he=>⟨xA u,he⟩
    |halt x w'=>cases x<;>simp only[Oper.upon]at h2 ⊢
   rename_i hw;simp only[hw]at h2;exact⟨xA _,h2⟩
  refine wpOp_mono (λa' w' h=>?_) h3;obtain⟨hy,hS,v,hy2,hl⟩:=h;have:v=v0:=YieldsIf.uniq hS hy2 hy;subst this;exact⟨hS,hl⟩
end
section
variable{ops:Array Oper}{Q:Exit->Act->World->Prop}{S:World->Prop}
theorem Rp(h:wpOp P ops (λ_ _ _=>False) i K a w):wpOp P ops Q i K a w:=by
 unfold wpOp at *
 cases ho:ops[i]? with
 |none=>simp only[ho]at h ⊢;exact h
 |some o =>
  simp only[ho]at h ⊢;split
  ·rename_i hw;rw[if_pos hw]at h;rcases h with h | ⟨_,_,_,h⟩
   ·refine .inl ?_;unfold Oper.wp at *
    generalize (execOp a.eval o).run P w=r at *
    cases r with
    |ok n w' =>
     cases n<;>simp only[Oper.upon]at h ⊢
     all_goals first
      |exact h
      |exact Calls.mono h λe w'' he=>by
        cases e with
        |returned u=>exact he
        |panicked c=>exact he.elim
        |outgrown=>obtain⟨_,_,h⟩:=he;exact h.elim
    |halt x w'=>cases x<;>simp only[Oper.upon]at h ⊢
   exact h.elim
  rename_i hw;rw[if_neg hw]at h;exact h
def Bk(md:Region.Mode)(acc:List Nat)(o:Oper):Nat:=o.after.foldl (λs e=>if Region.binds md e then s ||| 2^e.on ||| acc.getD e.on 0 else s) 0
def PS(md:Region.Mode)(ops:List Oper):List Nat:=ops.foldl (λacc o=>acc++[Bk md acc o]) []
def Pf{md:Region.Mode}{acc:List Nat}:∀(l:List Edge) (s:Nat),(l.foldl (λs e=>if Region.binds md e then s ||| 2^e.on ||| acc.getD e.on 0 else s) s).testBit i=true ->
  s.testBit i=true\/∃e∈l,Region.binds md e=true/\(i=e.on\/(acc.getD e.on 0).testBit i=true)
 |[],s,h=>.inl h
 |e::l,s,h=>by
  rw[List.foldl_cons]at h;rcases Pf l _ h with h | ⟨e',he',h⟩
  ·split at h
   ·rename_i hb;rw[Nat.testBit_or,Nat.testBit_or,Nat.testBit_two_pow]at h;simp only[Bool.or_eq_true,decide_eq_true_eq]at h;rcases h with (h | h) | h
    ·exact .inl h
    ·exact .inr ⟨e,wz,hb,.inl h.symm⟩
    exact .inr ⟨e,wz,hb,.inr h⟩
   exact .inl h
  exact .inr ⟨e',by simp[he'],h⟩
def AR{md:Region.Mode}{acc:List Nat}{o:Oper}(h:(Bk md acc o).testBit i=true):∃e∈o.after,Region.binds md e=true/\(i=e.on\/(acc.getD e.on 0).testBit i=true):=by
 unfold Bk at h;rw[<-Array.foldl_toList]at h;rcases Pf _ _ h with h | ⟨e,he,h⟩
 ·simp at h
 exact⟨e,by simpa using he,h⟩
def SP(md:Region.Mode):∀(l:List Oper) (acc:List Nat),∃r,l.foldl (λacc o=>acc++[Bk md acc o]) acc=acc++r/\r.length=l.length /\
  ∀k o,l[k]?=some o->r[k]?=some (Bk md (acc++r.take k) o)
 |[],acc=>⟨[],wz,rfl,λk o h=>by simp at h⟩
 |o::l,acc=>by
  obtain⟨r,h1,h2,h3⟩:=SP md l (acc++[Bk md acc o]);refine⟨Bk md acc o::r,by simp[h1],by simp[h2],λk o' h=>?_⟩;cases k with
  |zero=>simp at h;subst h;simp
  |succ k =>
   simp at h;have:=h3 k o' h;simpa using this
theorem IQ{md:Region.Mode}{l:List Oper}{o:Oper}(ho:l[k]?=some o)(hord:∀e∈o.after,Region.binds md e=true->e.on<k)(h:((PS md l).getD k 0).testBit i=true):
  ∃e∈o.after,Region.binds md e=true/\(i=e.on\/((PS md l).getD e.on 0).testBit i=true):=by
 obtain⟨r,h1,h2,h3⟩:=SP md l [];have e1:PS md l=r:=by unfold PS;rw[h1];simp
 rw[e1]at h ⊢;have h4:=h3 k o ho;rw[List.getD,h4]at h;obtain⟨e,he,hb,hi⟩:=AR h;refine⟨e,he,hb,hi.imp id λhi=>?_⟩;have hlt:=hord e he hb;have hk:k<r.length:=by rcases Nat.lt_or_ge k r.length with g | g;exact g;rw[List.getElem?_eq_none g]at h4;cases h4
 have e2:([]++r.take k).getD e.on 0=r.getD e.on 0:=by simp[List.getD,hlt]
 rw[e2]at hi;exact hi
def lexB(md:Region.Mode)(l:List Oper):Bool :=
 let ms:=PS md l
 Region.noSelect l.toArray&&Kq md l.toArray l.length&&(List.range l.length).all λj=>match l[j]? with
  |none=>false
  |some oj=>(List.range j).all λi=>match l[i]? with
   |none=>false
   |some oi=>if Jr oi.op||Jr oj.op then(Region.waitsFor md l.toArray j i||oi.apart l.toArray oj)else(ms.getD j 0).testBit i
theorem EO{l:List Oper}(h:lexB md l=true){i j:Nat}(hij:i<j){oi oj:Oper}(hi:l[i]?=some oi)(hj:l[j]?=some oj):
  if Jr oi.op||Jr oj.op then(Region.waitsFor md l.toArray j i||oi.apart l.toArray oj)=true else((PS md l).getD j 0).testBit i=true:=by
 simp only[lexB,Bool.and_eq_true]at h;have hjl:j<l.length:=by rcases Nat.lt_or_ge j l.length with g | g;exact g;rw[List.getElem?_eq_none g]at hj;cases hj
 have h1:=List.all_eq_true.1 h.2 j (List.mem_range.2 hjl);rw[hj]at h1;have h2:=List.all_eq_true.1 h1 i (List.mem_range.2 hij);rw[hi]at h2;simp only at h2;split
 ·rename_i g;rw[if_pos g]at h2;exact h2
 rename_i g;rw[if_neg g]at h2;exact h2
theorem AQ{l:List Oper}{listed:Array Bool}(hord:Kq md l.toArray l.length=true)(hcl:∀j oj,l.toArray[j]?=some oj->listed.getD j false=true->∀e∈oj.after,Region.binds md e=true->listed.getD e.on false=true):
  ∀(k:Nat) (o:Oper),l[k]?=some o->(∀e∈o.after,Region.binds md e=true->listed.getD e.on false=true)->∀i,((PS md l).getD k 0).testBit i=true->listed.getD i false=true:=by
 intro k
 induction k using Nat.strongRecOn with
 |_ k ih =>
  intro o ho hd i hi;have hk:k<l.length:=by rcases Nat.lt_or_ge k l.length with g | g;exact g;rw[List.getElem?_eq_none g]at ho;cases ho
  obtain⟨o',ho',hed⟩:=Xh hord hk;have:o'=o:=Option.some.inj (ho'.symm.trans (by simpa using ho));subst this;obtain⟨e,he,hb,h⟩:=IQ ho hed hi;have h1:=hd e he hb;rcases h with rfl | h
  ·exact h1
  have hlt:=hed e he hb;obtain⟨oe,hoe,_⟩:=Xh hord (Nat.lt_trans hlt hk);exact ih e.on hlt oe (by simpa using hoe) (hcl e.on oe hoe h1) i h
theorem kH{l:List Oper}(hB:lexB md l=true)(hQ:∀c a d v w,Q (.panic c) (Act.put a d v) w->Q (.panic c) a w):
  ∀(m:Nat) (r:List Nat) (listed:Array Bool) (a:Act) (w:World),r.length=m->r.Pairwise (·<·)->(∀i,i∈r↔i<l.length/\listed.getD i true=false)->listed.size=l.length ->
   (∀j oj,l.toArray[j]?=some oj->listed.getD j false=true->∀e∈oj.after,Region.binds md e=true->listed.getD e.on false=true)->S w->Rb P l.toArray Q S r a w->wpAnyH P md l.toArray Q S m listed a w:=by
 have hB':=hB;simp only[lexB,Bool.and_eq_true]at hB';obtain⟨⟨hns,hord⟩,_⟩:=hB';have hsel:=Region.noSelect_spec hns;intro m
 induction m with
 |zero =>
  intro r listed a w hm hs hr hsz hcl hS h;have:r=[]:=List.length_eq_zero_iff.1 hm;subst this;refine⟨?_,h⟩;rw[List.eq_nil_iff_forall_not_mem];intro i hi;obtain⟨h1,o,ho,_⟩:=mem_ready.1 hi;have hlt:i<l.length:=by have:=(Array.getElem?_eq_some_iff.1 ho).1;simpa using this
  have:=(hr i).2 ⟨hlt,h1⟩;cases this
 |succ m ih =>
  intro r listed a w hm hs hr hsz hcl hS h
  match r,hm,hs,hr,h with
  |i::r,hm,hs,hr,h =>
  have hil:=(hr i).1 wz;have hmin:∀j,j<i->listed.getD j false=true:=by
   intro j hj;cases hv:listed.getD j false with
   |true=>rfl
   |false =>
    have hjl:j<l.length:=O;have:=(hr j).2 ⟨hjl,getD_in O hv⟩;rcases List.mem_cons.1 this with e | e
    ·omega
    have:=(List.pairwise_cons.1 hs).1 j e;omega
  obtain⟨oi,hoi,hed⟩:=Xh hord hil.1;have hri:i∈Region.ready md l.toArray listed:=mem_ready.2 ⟨hil.2,oi,hoi,λe he hb=>hmin _ (hed e he hb)⟩;have next:∀j,j∈Region.ready md l.toArray listed->j∈(i::r)->∀a' w',S w'->Rb P l.toArray Q S ((i::r).erase j) a' w'->wpAnyH P md l.toArray Q S m (listed.setIfInBounds j true) a' w':=by
   intro j hj hjr a' w' hS' h';have hjsz:j<listed.size:=by rw[hsz];exact((hr j).1 hjr).1
   refine ih ((i::r).erase j) _ a' w' (by rw[List.length_erase_of_mem hjr];simp at hm ⊢;omega) (hs.sublist List.erase_sublist) (λk=>?_) (by simpa using hsz) (λk ok hk hl e he hb=>?_) hS' h'
   ·rw[List.Nodup.mem_erase_iff (hs.imp λh=>Nat.ne_of_lt h),hr k];by_cases hjk:j=k
    ·subst hjk;simp[hjsz]
    rw[getD_set_ne true hjk];simp[Ne.symm hjk]
   by_cases hjk:j=k
   ·subst hjk;obtain⟨_,oj,hoj,hall⟩:=mem_ready.1 hj;have:ok=oj:=Option.some.inj (hk.symm.trans hoj);subst this;exact getD_set_true (hall e he hb)
   rw[getD_set_ne false hjk]at hl;exact getD_set_true (hcl k ok hk hl e he hb)
  have take:∀j oj,j∈Region.ready md l.toArray listed->l.toArray[j]?=some oj->Jr oj.op=true->j∈(i::r)->wpAnyH P md l.toArray Q S (m+1) listed a w:=by
   intro j oj hj hoj hq hjr;obtain⟨pre,post,hpp⟩:=List.append_of_mem hjr;have hjs:=mem_ready.1 hj;have happ:∀k ok,l.toArray[k]?=some ok->k≠j->listed.getD k true=false->(∀e∈ok.after,Region.binds md e=true->e.on≠j)->oj.apart l.toArray ok=true:=by
    intro k ok hok hkj hun hno;have hnw:Region.waitsFor md l.toArray k j=false:=by
     cases hv:Region.waitsFor md l.toArray k j with
     |false=>rfl
     |true =>
      obtain⟨o',ho',e,he,hb,hon⟩:=Region.waitsFor_spec hv;have:o'=ok:=Option.some.inj (ho'.symm.trans hok);subst this;exact absurd hon (hno e he hb)
    have hnw2:Region.waitsFor md l.toArray j k=false:=by
     cases hv:Region.waitsFor md l.toArray j k with
     |false=>rfl
     |true =>
      obtain⟨o',ho',e,he,hb,hon⟩:=Region.waitsFor_spec hv;obtain⟨_,o2,ho2,hall⟩:=hjs;have:o'=o2:=Option.some.inj (ho'.symm.trans ho2);subst this;have:=hall e he hb;rw[hon,getD_both hun]at this;cases this
    rcases Nat.lt_or_gt_of_ne hkj with hlt | hgt
    ·have:=EO hB hlt (by simpa using hok) (by simpa using hoj);rw[if_pos (by simp[hq]),hnw2]at this;exact Ed (by simpa using this)
    have:=EO hB hgt (by simpa using hoj) (by simpa using hok);rw[if_pos (by simp[hq]),hnw]at this;simpa using this
   have hfront:=Bm (P:=P) (Q:=Q) (S:=S) hoj hq hsel pre a w (post:=post) (λk hk ok hok=>by
    have hkr:k∈(i::r):=by rw[hpp];simp[hk]
    have hkj:k<j:=by
     rw[hpp]at hs;exact(List.pairwise_append.1 hs).2.2 k hk j wz
    refine happ k ok hok O ((hr k).1 hkr).2 (λe he hb heq=>?_);obtain⟨o',ho',hed'⟩:=Xh hord ((hr k).1 hkr).1;have:o'=ok:=Option.some.inj (ho'.symm.trans hok);subst this;have:=hed' e he hb;omega) (by rw[<-hpp];exact h)
   obtain⟨v,hy,h'⟩:=hfront;have herase:(i::r).erase j=pre++post:=by
    rw[hpp,List.erase_append_right,List.erase_cons_head];intro hmem;rw[hpp]at hs;have:=(List.pairwise_append.1 hs).2.2 j hmem j wz;omega
   exact wpAnyH_first hoj hsel (λc a w h=>hQ c a _ v w h) m listed a w happ hj hy hS (next j hj hjr _ w hS (by rw[herase];exact h'))
  by_cases hex:∃j oj,j∈Region.ready md l.toArray listed/\l.toArray[j]?=some oj/\Jr oj.op=true
  ·obtain⟨j,oj,hj,hoj,hq⟩:=hex;have hjl:j<l.length:=by have:=(Array.getElem?_eq_some_iff.1 hoj).1;simpa using this
   exact take j oj hj hoj hq ((hr j).2 ⟨hjl,(mem_ready.1 hj).1⟩)
  have hone:∀j∈Region.ready md l.toArray listed,j=i:=by
   intro j hj;obtain⟨hjun,oj,hoj,hall⟩:=mem_ready.1 hj;have hjl:j<l.length:=by have:=(Array.getElem?_eq_some_iff.1 hoj).1;simpa using this
   have hjr:=(hr j).2 ⟨hjl,hjun⟩;rcases List.mem_cons.1 hjr with e | e
   ·exact e
   have hlt:=(List.pairwise_cons.1 hs).1 j e;have hqj:Jr oj.op=false:=by
    cases hv:Jr oj.op with
    |false=>rfl
    |true=>exact absurd ⟨j,oj,hj,hoj,hv⟩ hex
   have hqi:Jr oi.op=false:=by
    cases hv:Jr oi.op with
    |false=>rfl
    |true=>exact absurd ⟨i,oi,hri,hoi,hv⟩ hex
   have:=EO hB hlt (by simpa using hoi) (by simpa using hoj);rw[if_neg (by simp[hqi,hqj])]at this;have:=AQ hord hcl j oj (by simpa using hoj) hall i this;rw[getD_both hil.2]at this;cases this
  refine⟨λh0=>(by rw[h0]at hri;cases hri),λj hj=>?_⟩;have:=hone j hj;subst this;obtain⟨o,ho,h⟩:=h;have:o=oi:=Option.some.inj (ho.symm.trans hoi);subst this;rcases h with ⟨hq,_⟩ | ⟨_,h⟩
  ·exact absurd ⟨j,o,hri,ho,hq⟩ hex
  refine Rp (wpOp_mono (λa' w' h=>⟨h.1,?_⟩) h);exact next j hri wz a' w' h.1 (by rw[List.erase_cons_head];exact h.2)
end
section
variable{Q:Exit->Act->World->Prop}{S:World->Prop}
def AT(P:Program)(ops:Array Oper)(Q:Exit->Act->World->Prop)(S:World->Prop):List Oper->Act->World->Prop
  | [],a,w=>Q .normal a w
  | o::r,a,w =>
      (Jr o.op=true/\∃v,YieldsIf P ops S o v a/\AT P ops Q S r (a.put o.dst v) w) \/
       (Jr o.op=false/\if Region.wanted o (yielded ops a.tmps)then o.wp P a w (λa' w'=>S w'/\AT P ops Q S r a' w') (λ_ _ _=>False)else S w/\AT P ops Q S r (a.put o.dst undef) w)
theorem VQ:∀(l:List Oper) (k:Nat) (a:Act) (w:World),(∀j,j<l.length->l[j]?=ops[k+j]?)->AT P ops Q S l a w->Rb P ops Q S (List.range' k l.length) a w
 |[],k,a,w,_,h=>h
 |o::l,k,a,w,hl,h=>by
  have h0:ops[k]?=some o:=by simpa using(hl 0 wz).symm
  have hl':∀j,j<l.length->l[j]?=ops[k+1+j]?:=λj hj=>by
   have:=hl (j+1) w6;rw[show k+1+j=k+(j+1) by omega,<-this];simp
  rw[List.length_cons,List.range'_succ];refine⟨o,h0,?_⟩;rcases h with ⟨h1,v,h2,h3⟩ | ⟨h1,h2⟩
  ·exact .inl ⟨h1,v,h2,VQ l (k+1) _ w hl' h3⟩
  refine .inr ⟨h1,?_⟩;unfold wpOp;simp only[h0];split
  ·rename_i hw;rw[if_pos hw]at h2;exact .inl (Oper.wp_mono (λa' w' h=>⟨h.1,VQ l (k+1) a' w' hl' h.2⟩) h2)
  rename_i hw;rw[if_neg hw]at h2;exact⟨h2.1,VQ l (k+1) _ w hl' h2.2⟩
theorem WZ{l:List Oper}(hB:lexB .any l=true)(hQ:∀c a w,¬Q' (.panic c) a w){a:Act}{w:World}(hS:S w)(h:AT P l.toArray Q' S l a w):
  wpAny P .any l.toArray Q' l.length (Array.replicate l.length false) a w:=by
 refine wpAny_of_held _ _ _ _ (kH hB (λc a d v w h=>absurd h (hQ c _ w)) l.length (List.range' 0 l.length) _ a w wz List.pairwise_lt_range' (λi=>?_) wz (λj oj _ hl=>(by rw[getD_replicate_false]at hl;cases hl)) hS (VQ l 0 a w (λj _=>wz) h));rw[List.mem_range'_1];constructor
 ·intro h;have:i<l.length:=O;simp[this]
 intro h;omega
def XO(K:Act->World->Prop):Exit->Act->World->Prop
 |.normal,a,w=>K a w
 |_,_,_=>False
theorem Oper.qI{o:Oper}{Q:Exit->Act->World->Prop}(hq:∀e a w,Q e a w->Q' e a w)(h:o.wp P a w K Q):o.wp P a w K Q':=by
 unfold Oper.wp at *
 generalize (execOp a.eval o).run P w=r at *
 cases r with
 |ok n w' =>
  cases n<;>simp only[Oper.upon]at h ⊢
  all_goals first
   |exact h
   |exact Calls.mono h λe w'' he=>by
     cases e with
     |returned u=>exact he
     |panicked c=>exact hq _ _ _ he
     |outgrown=>obtain⟨a,w,h⟩:=he;exact⟨a,w,hq _ _ _ h⟩
 |halt x w'=>cases x<;>simp only[Oper.upon]at h ⊢;exact hq _ _ _ h
theorem Fl{Q:Exit->Act->World->Prop}(hq:∀e a w,Q e a w->Q' e a w)(h:wpOp P ops Q i K a w):wpOp P ops Q' i K a w:=by
 unfold wpOp at *
 cases ho:ops[i]? with
 |none=>simp only[ho]at h ⊢;exact h
 |some o =>
  simp only[ho]at h ⊢;split
  ·rename_i hw;rw[if_pos hw]at h;exact h.imp (Oper.qI hq) λ⟨h1,a,w,h2⟩=>⟨h1,a,w,hq _ _ _ h2⟩
  rename_i hw;rw[if_neg hw]at h;exact h
theorem Vb{Q:Exit->Act->World->Prop}(hq:∀e a w,Q e a w->Q' e a w):∀(f:Nat) (listed:Array Bool) (a:Act) (w:World),wpAny P md ops Q f listed a w->wpAny P md ops Q' f listed a w
 |0,_,_,_,h=>⟨h.1,hq _ _ _ h.2⟩
 |f+1,_,_,_,h=>⟨λh0=>hq _ _ _ (h.1 h0),λi hi=>Fl hq (wpOp_mono (λa' w' h'=>Vb hq f _ a' w' h') (h.2 i hi))⟩
theorem RS{id:Nat}{l:List Oper}(hm:P.follows .mixedOrders=true)(hB:lexB .any l=true)(hS:S { w with drawn:=w.drawn+1 })
  (h:AT P l.toArray (XO (Q .normal)) S l a { w with drawn:=w.drawn+1 }):(Code.region id l.toArray true).wp P Q a w:=by
 refine wp_region_any hm ?_;have:=WZ (P:=P) (Q':=XO (Q .normal)) hB (λc a w h=>h) hS h;simpa using Vb (Q':=Q) (λe a w h=>by cases e<;>first | exact h | exact h.elim) _ _ _ _ this
def Hw{id:Nat}{l:List Oper}(n:Nat)(hm:P.follows .mixedOrders=true)(hB:Ba l n=true)(hB2:lexB .any (l.take n)=true)(hS:S { w with drawn:=w.drawn+1 })
  (h:AT P (l.take n).toArray (XO λa w=>wpList P l.toArray Q (l.drop n) a w) S (l.take n) a { w with drawn:=w.drawn+1 }):(Code.region id l.toArray true).wp P Q a w:=by
 refine MX n hm hB ?_;have hn:n<l.length:=by simp only[Ba,Bool.and_eq_true,decide_eq_true_eq]at hB;exact hB.1.1.1.1.1
 have:=WZ (P:=P) hB2 (λc a w h=>h) hS h;have e:(l.take n).length=n:=w6;rw[e]at this;exact Vb (λe a w h=>by cases e<;>first | exact h | exact h.elim) _ _ _ _ this
end
end
abbrev Gs:=Nat->Option (Array Value×TypeId)
variable{F F0:Gs}{G:Gs->Prop}
def Gs.le(F F':Gs):Prop:=∀b x,F b=some x->F' b=some x
def Gs.le_refl(F:Gs):Gs.le F F:=λ_ _ h=>h
theorem Gs.le_trans{F' F'':Gs}(h:Gs.le F F')(k:Gs.le F' F''):Gs.le F F'':=λb x hx=>k b x (h b x hx)
class Dr where
 on:Prop
instance(priority:=10) QGN:Dr:=⟨False⟩
class Df where
 ds:List Deferred
instance(priority:=10) WM:Df:=⟨[]⟩
structure Rn[Dr](w w':World):Prop extends Below w.heap.size w w' where
 dr:Dr.on->w.drawn<=w'.drawn
section
variable[Dr]
theorem Rn.refl(w:World):Rn w w:=⟨Ext.refl w,λ_=>Nat.le_refl _⟩
theorem Rn.trans{a b c:World}(h:Rn a b)(k:Rn b c):Rn a c:=⟨Ext.trans h.toBelow k.toBelow,λd=>Nat.le_trans (h.dr d) (k.dr d)⟩
theorem Rn.alloc{a:World}(h:Rn a w)(o:Obj):Rn a (w.alloc o):=⟨Ext.alloc h.toBelow o,h.dr⟩
theorem Rn.drew{a:World}(h:Rn a w):Rn a w.drew:=⟨Ext.drew h.toBelow,λd=>Nat.le_succ_of_le (h.dr d)⟩
end
def Rn.of(h:Ext w w'):Rn w w':=⟨h,λd=>d.elim⟩
section
variable[Dr][df:Df]
structure Fits(F:Gs)(w:World):Prop where
 row:∀b c T,F b=some (c,T)->∃fr,w.heap[b]?=some (.cells c T fr)
 all:∀b c fr,w.heap[b]?=some (.cells c 289 fr)->F b=some (c,289)
theorem Fits.drew(h:Fits F w):Fits F w.drew:=⟨h.row,h.all⟩
theorem Fits.lt(h:Fits F w){b:Nat}{x:Array Value×TypeId}(hb:F b=some x):b<w.heap.size:=by
 obtain⟨fr,h⟩:=h.row b x.1 x.2 hb;rcases Nat.lt_or_ge b w.heap.size with g | g
 ·exact g
 rw[Array.getElem?_eq_none g]at h;cases h
theorem Fits.none(h:Fits F w){b:Nat}(hb:w.heap.size<=b):F b=none:=by
 cases hv:F b with
 |none=>rfl
 |some x=>have:=h.lt hv;omega
abbrev Sl:=List (Nat×Value)
def look:Sl->Nat->Option Value
 |[],_=>none
 |(k,v)::r,t=>bif Nat.beq k t then some v else look r t
def upd(m:Sl):Option Tmp->Value->Sl
 |some d,v=>(d,v)::m
 |none,_=>m
def ev(m:Sl):Operand->Option Value
 |.tmp t=>look m t
 |.const v=>some v
 |.global g=>some (.pointer (some ⟨g,0,none⟩))
 |.func f=>some (.func (.func f) #[] #[])
def MW(m:Sl):List Operand->Option (List Value)
 |[]=>some []
 |x::r=>match ev m x,MW m r with
  |some v,some l=>some (v::l)
  |_,_=>none
def J6(N:Nat)(d:Option Tmp):Bool:=match d with | some d=>Nat.blt d N | none=>true
structure JY(N:Nat)(m:Sl)(a:Act):Prop where
 size:a.tmps.size=N
 df:a.defers=Df.ds
 get:∀t v,look m t=some v->a.tmps[t]?=some v
theorem JY.ev{m:Sl}(h:JY N m a){x:Operand}{v:Value}(hx:ev m x=some v):a.eval x=v:=by
 cases x with
 |tmp t=>have:=h.get t v hx;simp[Act.eval,this]
 |const v'=>simpa[YtpmehagnedbkhaaGreatDoor.ev,Act.eval]using hx
 |global g=>simpa[YtpmehagnedbkhaaGreatDoor.ev,Act.eval]using hx
 |func f=>simpa[YtpmehagnedbkhaaGreatDoor.ev,Act.eval]using hx
theorem JY.MW{m:Sl}(h:JY N m a):∀ {l:List Operand} {vs:List Value},MW m l=some vs->l.map a.eval=vs
 |[],vs,e=>by simpa[YtpmehagnedbkhaaGreatDoor.MW]using e
 |x::l,vs,e=>by
  unfold YtpmehagnedbkhaaGreatDoor.MW at e;cases hx:YtpmehagnedbkhaaGreatDoor.ev m x with
  |none=>rw[hx]at e;simp at e
  |some v =>
   cases hl:YtpmehagnedbkhaaGreatDoor.MW m l with
   |none=>rw[hx,hl]at e;simp at e
   |some r =>
    rw[hx,hl]at e;simp only[Option.some.injEq]at e;subst e;rw[List.map_cons,h.ev hx,h.MW hl]
theorem JY.put{m:Sl}(h:JY N m a){d:Option Tmp}(hd:J6 N d=true)(v:Value):JY N (upd m d v) (a.put d v):=by
 cases d with
 |none=>exact h
 |some d =>
  have hd':d<N:=by simpa[J6]using hd
  refine⟨by simp[Act.put,h.size],h.df,λt u ht=>?_⟩;simp only[upd,look]at ht;cases hb:Nat.beq d t with
  |true =>
   rw[hb]at ht;have:d=t:=by simpa using hb
   subst this;have:v=u:=by simpa using ht
   subst this;simp[Act.put,h.size,hd']
  |false =>
   rw[hb]at ht;have hne:d≠t:=by intro e;subst e;simp at hb
   have:=h.get t u (by simpa using ht);simp[Act.put,Array.getElem?_setIfInBounds_ne hne,this]
def Kb(m:Sl):Sl->Prop
 |[]=>True
 |(t,v)::r=>look m t=some v/\Kb m r
theorem JY.sub{m:Sl}(h:JY N m a):∀ {m':Sl},Kb m m'->JY N m' a
 |[],_=>⟨h.size,h.df,λt v e=>by simp[look]at e⟩
 |(k,u)::r,⟨h1,h2⟩=>by
  refine⟨h.size,h.df,λt v e=>?_⟩;simp only[look]at e;cases hb:Nat.beq k t with
  |true =>
   rw[hb]at e;have:k=t:=by simpa using hb
   subst this;have:u=v:=by simpa using e
   subst this;exact h.get _ _ h1
  |false=>rw[hb]at e;exact(h.sub h2).get t v (by simpa using e)
structure Env where
 w0:World
 F0:Gs
 bs:List (Nat×Obj)
 G:Gs->Prop
structure Cx(E:Env)(w:World)(F:Gs):Prop where
 le:Gs.le E.F0 F
 old:∀b,b<E.w0.heap.size->F b=E.F0 b
 fits:Fits F w
 ext:Rn E.w0 w
 bx:∀k∈E.bs,w.heap[k.1]?=some k.2/\E.w0.heap.size<=k.1/\F k.1=none
 nd:(E.bs.map (·.1)).Nodup
 g:∀F',Gs.le F F'->E.G F'
def St(E:Env)(w:World):Prop:=∃F,Cx E w F
theorem Cx.drew{E:Env}(h:Cx E w F):Cx E w.drew F:=⟨h.le,h.old,h.fits.drew,h.ext.drew,h.bx,h.nd,h.g⟩
theorem St.drew{E:Env}(h:St E w):St E w.drew:=h.imp λ_ h=>h.drew
theorem Cx.hG{E:Env}(h:Cx E w F):E.G F:=h.g F (Gs.le_refl F)
theorem St.start(hf:Fits F w){G:Gs->Prop}(hg:∀F',Gs.le F F'->G F'):St ⟨w,F,[],G⟩ w :=
 ⟨F,Gs.le_refl F,λ_ _=>rfl,hf,Rn.refl w,λ_ h=>(by cases h),List.nodup_nil,hg⟩
theorem St.imp{G':Gs->Prop}(h:St ⟨w0,F0,bs,G⟩ w)(hb:bs'.Sublist bs)(hg:∀F,G F->G' F):St ⟨w0,F0,bs',G'⟩ w:=by
 obtain⟨F,h⟩:=h;exact⟨F,h.le,h.old,h.fits,h.ext,λk hk=>h.bx k (hb.subset hk),(hb.map _).nodup h.nd,λF' hF'=>hg F' (h.g F' hF')⟩
theorem St.Dd{G':Gs->Prop}(h:St ⟨w0,F0,bs,G⟩ w)(hg:∀F,G F->G' F):St ⟨w0,F0,bs,G'⟩ w:=h.imp (List.Sublist.refl _) hg
theorem SJ{x:α}{l r:List α}(h:(l++x::r).Nodup):x∉l++r/\(l++r).Nodup:=by
 have h1:=h;rw[List.nodup_append]at h1;obtain⟨a,b,c⟩:=h1;obtain⟨d,e⟩:=List.nodup_cons.1 b;refine⟨λhx=>?_,?_⟩
 ·rcases List.mem_append.1 hx with hx | hx
  ·exact c x hx x wz rfl
  exact d hx
 rw[List.nodup_append];exact⟨a,e,λy hy z hz=>c y hy z (by simp[hz])⟩
theorem St.alloc(h:St ⟨w0,F0,bs,G⟩ w)(o:Obj)(ho:∀c fr,o≠.cells c 289 fr):St ⟨w0,F0,(w.heap.size,o)::bs,G⟩ (w.alloc o):=by
 obtain⟨F,h⟩:=h;have hne:∀k∈bs,k.1≠w.heap.size:=λk hk e=>by
  have:=(h.bx k hk).1;rw[e,Array.getElem?_eq_none (Nat.le_refl _)]at this;cases this
 refine⟨F,⟨h.le,h.old,⟨λb c T hb=>?_,λb c fr hb=>?_⟩,h.ext.alloc o,λk hk=>?_,?_,h.g⟩⟩
 ·obtain⟨fr,e⟩:=h.fits.row b c T hb;exact⟨fr,by rw[Below.heap_alloc _ _ _ (h.fits.lt hb)];exact e⟩
 ·rcases Nat.lt_or_ge b w.heap.size with g | g
  ·rw[Below.heap_alloc _ _ _ g]at hb;exact h.fits.all b c fr hb
  have hb':(w.heap.push o)[b]?=some (.cells c 289 fr):=hb;rw[Array.getElem?_push]at hb';split at hb'
  ·exact absurd (Option.some.inj hb') (ho c fr)
  rw[Array.getElem?_eq_none g]at hb';cases hb'
 ·rcases List.mem_cons.1 hk with rfl | hk
  ·exact⟨by show(w.heap.push o)[w.heap.size]?=_;simp,h.ext.size,h.fits.none (Nat.le_refl _)⟩
  obtain⟨h1,h2,h3⟩:=h.bx k hk;have hlt:k.1<w.heap.size:=by
   rcases Nat.lt_or_ge k.1 w.heap.size with g | g
   ·exact g
   rw[Array.getElem?_eq_none g]at h1;cases h1
  exact⟨by rw[Below.heap_alloc _ _ _ hlt];exact h1,h2,h3⟩
 show(w.heap.size::bs.map (·.1)).Nodup;refine List.nodup_cons.2 ⟨λhm=>?_,h.nd⟩;obtain⟨k,hk,e⟩:=List.mem_map.1 hm;exact hne k hk e
theorem Cx.freeze{pre post:List (Nat×Obj)}{c:Array Value}{T:TypeId}(h:Cx ⟨w0,F0,pre++(b,.cells c T fr)::post,G⟩ w F):
  Cx ⟨w0,F0,pre++post,G⟩ w (λi=>if i=b then some (c,T)else F i)/\Gs.le F (λi=>if i=b then some (c,T)else F i):=by
 obtain⟨h1,h2,h3⟩:=h.bx (b,.cells c T fr) wz;have hle:Gs.le F (λi=>if i=b then some (c,T)else F i):=λi x hx=>by
  by_cases e:i=b
  ·subst e;rw[h3]at hx;cases hx
  show(if i=b then _ else _)=_;rw[if_neg e];exact hx
 have hnd:=h.nd;simp only[List.map_append,List.map_cons]at hnd;have hnd2:=(SJ hnd);refine⟨⟨Gs.le_trans h.le hle,λi hi=>?_,⟨λi c' T' hi=>?_,λi c' fr' hi=>?_⟩,h.ext,λk hk=>?_,?_,λF' hF'=>h.g F' (Gs.le_trans hle hF')⟩,hle⟩
 ·have:i≠b:=by rintro rfl;exact absurd hi (Nat.not_lt.2 h2)
  rw[if_neg this];exact h.old i hi
 ·by_cases e:i=b
  ·subst e;rw[if_pos rfl]at hi;cases hi;exact⟨fr,h1⟩
  rw[if_neg e]at hi;exact h.fits.row i c' T' hi
 ·by_cases e:i=b
  ·subst e;have:=h1.symm.trans hi;cases this;rw[if_pos rfl]
  rw[if_neg e];exact h.fits.all i c' fr' hi
 ·obtain⟨g1,g2,g3⟩:=h.bx k (by
   rcases List.mem_append.1 hk with h | h
   ·simp[h]
   simp[h])
  refine⟨g1,g2,?_⟩;have hkb:k.1≠b:=by
   rintro rfl;refine hnd2.1 ?_;rw[<-List.map_append];exact List.mem_map_of_mem hk
  rw[if_neg hkb];exact g3
 show((pre++post).map (·.1)).Nodup;rw[List.map_append];exact hnd2.2
theorem St.freeze(pre:List (Nat×Obj)){post:List (Nat×Obj)}{b:Nat}{c:Array Value}{T:TypeId}{fr:Nat×Nat}{G:Gs->Prop}{w:World}(h:St ⟨w0,F0,pre++(b,.cells c T fr)::post,G⟩ w):
  St ⟨w0,F0,pre++post,λF=>G F/\F b=some (c,T)⟩ w:=by
 obtain⟨F,h⟩:=h;obtain⟨h1,hle⟩:=h.freeze;exact⟨_,h1.le,h1.old,h1.fits,h1.ext,h1.bx,h1.nd,λF' hF'=>⟨h1.g F' hF',hF' b _ (by show(if b=b then _ else _)=_;rw[if_pos rfl])⟩⟩
theorem St.write(pre:List (Nat×Obj)){post:List (Nat×Obj)}{b:Nat}{o o':Obj}{G:Gs->Prop}{w w':World}(h:St ⟨w0,F0,pre++(b,o)::post,G⟩ w)
  (hw:w'.heap=w.heap.setIfInBounds b o'/\w'.os=w.os/\w'.tape=w.tape/\w'.output=w.output/\w'.drawn=w.drawn) (ho:∀c fr,o'≠.cells c 289 fr):St ⟨w0,F0,pre++(b,o')::post,G⟩ w':=by
 obtain⟨F,h⟩:=h;obtain⟨h1,h2,h3⟩:=h.bx (b,o) wz;have hlt:b<w.heap.size:=by
  rcases Nat.lt_or_ge b w.heap.size with g | g
  ·exact g
  rw[Array.getElem?_eq_none g]at h1;cases h1
 have hne:∀i,i≠b->w'.heap[i]?=w.heap[i]?:=λi hi=>by rw[hw.1,Array.getElem?_setIfInBounds_ne (Ne.symm hi)]
 have heq:w'.heap[b]?=some o':=by rw[hw.1];simp[hlt]
 have hsz:w'.heap.size=w.heap.size:=by rw[hw.1];simp
 have hnd:=h.nd;simp only[List.map_append,List.map_cons]at hnd;have hnd2:=(SJ hnd);refine⟨F,⟨h.le,h.old,⟨λi c T hi=>?_,λi c fr hi=>?_⟩,⟨Ext.pF h.ext.toBelow ?_ ?_ ?_ ?_ ?_,λd=>by rw[hw.2.2.2.2];exact h.ext.dr d⟩,λk hk=>?_,?_,h.g⟩⟩
 ·have:i≠b:=by rintro rfl;rw[h3]at hi;cases hi
  rw[hne i this];exact h.fits.row i c T hi
 ·by_cases e:i=b
  ·subst e;rw[heq]at hi;exact absurd (Option.some.inj hi) (ho c fr)
  rw[hne i e]at hi;exact h.fits.all i c fr hi
 ·exact hw.2.1
 ·exact hw.2.2.1
 ·exact hw.2.2.2.1
 ·omega
 ·intro i hi;exact hne i (by rintro rfl;exact absurd hi (Nat.not_lt.2 h2))
 ·have key:k=(b,o')\/k∈pre++post:=by
   rcases List.mem_append.1 hk with h | h
   ·exact .inr (by simp[h])
   rcases List.mem_cons.1 h with h | h
   ·exact .inl h
   exact .inr (by simp[h])
  rcases key with rfl | hk'
  ·exact⟨heq,h2,h3⟩
  obtain⟨g1,g2,g3⟩:=h.bx k (by
   rcases List.mem_append.1 hk' with h | h
   ·simp[h]
   simp[h])
  have hkb:k.1≠b:=by
   rintro rfl;refine hnd2.1 ?_;rw[<-List.map_append];exact List.mem_map_of_mem hk'
  exact⟨by rw[hne _ hkb];exact g1,g2,g3⟩
 show((pre++(b,o')::post).map (·.1)).Nodup;simp only[List.map_append,List.map_cons];exact hnd
end
variable{m:Sl}
section
variable[Dr][df:Df]
section
variable{P:Program}{Q:Exit->Act->World->Prop}{N:Nat}{m:Sl}{E:Env}
def Fin(Q:Exit->Act->World->Prop)(e:Exit)(N:Nat)(m:Sl)(E:Env):Prop:=∀a w,JY N m a->St E w->Q e a w
def J(P:Program)(c:Code)(Q:Exit->Act->World->Prop)(N:Nat)(m:Sl)(E:Env):Prop:=∀a w,JY N m a->St E w->c.wp P Q a w
def JS(P:Program)(ops:Array Oper)(Q:Exit->Act->World->Prop)(l:List Oper)(N:Nat)(m:Sl)(E:Env):Prop:=∀a w,JY N m a->St E w->wpList P ops Q l a w
def JD(P:Program)(ops:Array Oper)(Q:Exit->Act->World->Prop)(E0:Env)(l:List Oper)(N:Nat)(m:Sl)(E:Env):Prop:=(∀w,St E w->St E0 w)->∀a w,JY N m a->St E w->AT P ops Q (St E0) l a w
theorem QG{x y:Code}(h:J P x (Exit.then (y.wp P Q) Q) N m E):J P (.seq x y) Q N m E:=λa w ha hw=>wp_seq (h a w ha hw)
theorem QS{id:Nat}{c:Code}(h:J P c (Exit.inBlock id Q) N m E):J P (.block id c) Q N m E:=λa w ha hw=>wp_block (h a w ha hw)
theorem QM(h:Fin Q .normal N m E):J P .skip Q N m E:=λa w ha hw=>wp_skip (h a w ha hw)
theorem Qv{id:Nat}(h:Fin Q (.exit id) N m E):J P (.exit id) Q N m E:=λa w ha hw=>wp_exit (h a w ha hw)
theorem QT(h:Fin Q .ret N m E):J P .ret Q N m E:=λa w ha hw=>wp_ret (h a w ha hw)
theorem QP{c:Operand}{x y:Code}{t:Bool}(hc:ev m c=some (.bool t))(ht:t=true->J P x Q N m E)(hf:t=false->J P y Q N m E):J P (.cond c x y) Q N m E :=
 λa w ha hw=>wp_cond_split (ha.ev hc) (λh=>ht h a w ha hw) λh=>hf h a w ha hw
theorem K6{c:Operand}{x y:Code}(hc:ev m c=some (.bool true))(h:J P x Q N m E):J P (.cond c x y) Q N m E:=QP hc (λ_=>h) λh=>by cases h
theorem Xo{c:Operand}{x y:Code}(hc:ev m c=some (.bool false))(h:J P y Q N m E):J P (.cond c x y) Q N m E:=QP hc (λh=>by cases h) λ_=>h
theorem QD{y:Code}(h:J P y Q N m E):Fin (Exit.then (y.wp P Q) Q) .normal N m E:=h
theorem QV{id:Nat}(h:Fin Q (.exit id) N m E):Fin (Exit.then K Q) (.exit id) N m E:=h
theorem Qw(h:Fin Q .ret N m E):Fin (Exit.then K Q) .ret N m E:=h
theorem Qi{id:Nat}(h:Fin Q .normal N m E):Fin (Exit.inBlock id Q) .normal N m E:=h
theorem Qp{id:Nat}(h:Fin Q .ret N m E):Fin (Exit.inBlock id Q) .ret N m E:=h
theorem QW{id:Nat}(h:Fin Q .normal N m E):Fin (Exit.inBlock id Q) (.exit id) N m E:=λa w ha hw=>by simp only[Exit.inBlock,if_true];exact h a w ha hw
theorem QQ{id id':Nat}(hid:Nat.beq id' id=false)(h:Fin Q (.exit id') N m E):Fin (Exit.inBlock id Q) (.exit id') N m E:=λa w ha hw=>by
 have:id'≠id:=by rintro rfl;simp at hid
 simp only[Exit.inBlock,if_neg this];exact h a w ha hw
def OF{ι:Type}(N:Nat)(w0:World)(F0:Gs)(M:ι->Sl)(B:ι->List (Nat×Obj))(H:ι->Gs->Prop)(μ:ι->Nat)(i:ι)(a:Act)(w:World):Prop :=
 ∃j,μ j<μ i/\JY N (M j) a/\St ⟨w0,F0,B j,H j⟩ w
theorem Xf{c:Code}(M:ι->Sl)(B:ι->List (Nat×Obj))(H:ι->Gs->Prop)(μ:ι->Nat)(i0:ι)
  (hm:Kb m (M i0)) (hb:(B i0).Sublist bs) (hg:∀F,G F->H i0 F)
  (round:∀i,J P c (Exit.then (OF N w0 F0 M B H μ i) Q) N (M i) ⟨w0,F0,B i,H i⟩):J P (.loop c) Q N m ⟨w0,F0,bs,G⟩:=by
 intro a w ha hw;refine wp_loop_ghost (λn a w=>∃i,μ i=n/\JY N (M i) a/\St ⟨w0,F0,B i,H i⟩ w) (μ i0) ⟨i0,rfl,ha.sub hm,hw.imp hb hg⟩ ?_;rintro n a w ⟨i,rfl,ha,hw⟩;refine wp_mono (round i a w ha hw) ?_;intro e a' w' h;cases e with
 |normal=>obtain⟨j,h1,h2,h3⟩:=h;exact⟨μ j,h1,j,rfl,h2,h3⟩
 |_=>exact h
theorem Qj{M:ι->Sl}{B:ι->List (Nat×Obj)}{H:ι->Gs->Prop}{μ:ι->Nat}{i:ι}(j:ι)(hμ:μ j<μ i)
  (hm:Kb m (M j)) (hb:(B j).Sublist bs) (hg:∀F,G F->H j F):Fin (Exit.then (OF N w0 F0 M B H μ i) Q) .normal N m ⟨w0,F0,bs,G⟩ :=
 λa w ha hw=>⟨j,hμ,ha.sub hm,hw.imp hb hg⟩
theorem QB{id:Nat}{l:List Oper}(h:JS P l.toArray Q l N m E):J P (.region id l.toArray false) Q N m E:=λa w ha hw=>wp_region_lit (h a w ha hw)
variable{ops:Array Oper}{l:List Oper}{E0:Env}
theorem QE(h:Fin Q .normal N m E):JS P ops Q [] N m E:=h
theorem zG(h:∀a w,JY N m a->St E w->K a w):JD P ops (XO K) E0 [] N m E:=λ_=>h
def Qt(P:Program)(N:Nat)(m:Sl)(S:World->Prop)(o:Op)(ty:TypeId)(v:Value):Prop:=∀a w d pos aft g,JY N m a->S w->(execOp a.eval ⟨d,o,ty,pos,aft,g⟩).run P w = .ok (.value v) w
variable{d:Nat}{o:Op}{ty:TypeId}{pos:String}{aft:Array Edge}{v:Value}
theorem QA(h:Qt P N m (St E) o ty v)(k:JS P ops Q l N ((d,v)::m) E)(hd:J6 N (some d)=true:=by rfl):JS P ops Q (⟨some d,o,ty,pos,aft,none⟩::l) N m E:=by
 intro a w ha hw;refine wpList_plain rfl λK hK=>?_;unfold Oper.wp;rw[h a w _ _ _ _ ha hw];exact hK _ _ (k _ w (ha.put hd v) hw)
theorem QL(h:Qt P N m (St E0) o ty v)(k:JD P ops Q E0 l N ((d,v)::m) E)(hq:Jr o=true:=by rfl)(hd:J6 N (some d)=true:=by rfl):JD P ops Q E0 (⟨some d,o,ty,pos,aft,none⟩::l) N m E:=by
 intro hE a w ha hw;exact .inl ⟨hq,v,.inl ⟨rfl,λw' hw'=>h a w' _ _ _ _ ha hw'⟩,k hE _ w (ha.put hd v) hw⟩
theorem B7(ha:JY N m a){g t:Nat}{b:Bool}(hg:(ops[g]?).bind (·.dst)=some t)(hb:look m t=some (.bool b)):yielded ops a.tmps g=some b:=by
 unfold yielded;rw[hg];have:=ha.get t _ hb;simp[this]
theorem uq{d:Option Tmp}{g t:Nat}{b want:Bool}(hg:(ops[g]?).bind (·.dst)=some t)(hb:look m t=some (.bool b))(ht:b=want->JS P ops Q (⟨d,o,ty,pos,aft,none⟩::l) N m E)(hf:b=!want->JS P ops Q l N (upd m d undef) E)
  (hd:J6 N d=true:=by rfl):JS P ops Q (⟨d,o,ty,pos,aft,some (g,want)⟩::l) N m E:=by
 intro a w ha hw;unfold wpList;have hy:=B7 ha hg hb;by_cases e:b=want
 ·have:=ht e a w ha hw;unfold wpList at this;rw[if_pos (by simp[Region.wanted])]at this;rw[if_pos (by simp[Region.wanted,hy,e])];exact this
 rw[if_neg (by simp[Region.wanted,hy,e])];exact hf (by cases b<;>cases want<;>simp_all) _ w (ha.put hd undef) hw
theorem QCT{d:Option Tmp}{g t:Nat}{b want:Bool}(hg:(ops[g]?).bind (·.dst)=some t)(hb:look m t=some (.bool b))(ht:b=want->JD P ops Q E0 (⟨d,o,ty,pos,aft,none⟩::l) N m E)(hf:b=!want->JD P ops Q E0 l N (upd m d undef) E)
  (hd:J6 N d=true:=by rfl):JD P ops Q E0 (⟨d,o,ty,pos,aft,some (g,want)⟩::l) N m E:=by
 intro hE a w ha hw;have hy:=B7 ha hg hb;by_cases e:b=want
 ·rcases ht e hE a w ha hw with ⟨h1,v,h2,h3⟩ | ⟨h1,h2⟩
  ·refine .inl ⟨h1,v,?_,h3⟩;rcases h2 with ⟨_,h2⟩ | ⟨h2,_⟩
   ·exact .inl ⟨by simp[Region.wanted,hy,e],h2⟩
   simp[Region.wanted]at h2
  refine .inr ⟨h1,?_⟩;rw[if_pos (by simp[Region.wanted])]at h2;rw[if_pos (by simp[Region.wanted,hy,e])];exact h2
 have hr:=hf (by cases b<;>cases want<;>simp_all) hE _ w (ha.put hd undef) hw;cases hq:Jr o with
 |true=>exact .inl ⟨hq,undef,.inr ⟨by simp[Region.wanted,hy,e],rfl⟩,hr⟩
 |false =>
  refine .inr ⟨hq,?_⟩;rw[if_neg (by simp[Region.wanted,hy,e])];exact⟨hE w hw,hr⟩
end
end
section
variable[Dr][df:Df]
def QFB(d:TypeDesc):Bool:=match d with | .struct _ | .array _ _=>true | _=>false
def Zm(P:Program)(T:TypeId):Option (Bool×Nat):=match P.underlying T,P.info? T with
 |some d,some i=>some (QFB d,i.size)
 |_,_=>none
theorem S4{T:TypeId}(h:Zm P T=some (g,n))(w:World):(isAgg T).run P w = .ok g w:=by
 unfold Zm at h;split at h
 ·rename_i d i hd hi;cases h;unfold isAgg;rw[Sem.run_bind,run_underlying hd w];cases d<;>rfl
 cases h
theorem YM{T:TypeId}(h:Zm P T=some (g,n))(w:World):(sizeOf T).run P w = .ok n w:=by
 unfold Zm at h;split at h
 ·rename_i d i hd hi;cases h;simp[sizeOf,typeInfo,hi]
 cases h
def VS(P:Program)(T:TypeId)(f:Nat):Option (Nat×TypeId):=match P.underlying T with
 |some (.struct fs)=>match fs[f]? with
  |some x=>some (x.offset,x.type)
  |none=>none
 |_=>none
inductive Bu:List Value->Nat->List Value->Prop
 |nil {l:List Value}:Bu l 0 []
 |here {x:Value} {l vs:List Value}:Bu l 0 vs->Bu (x::l) 0 (x::vs)
 |skip {x:Value} {l vs:List Value} {n:Nat}:Bu l n vs->Bu (x::l) (n+1) vs
theorem Bu.at{vs:List Value}(h:Bu l n vs):∀(j:Nat) (v:Value),vs[j]?=some v->l[n+j]?=some v:=by
 induction h with
 |nil=>intro j v hv;simp at hv
 |here h ih =>
  intro j v hv;cases j with
  |zero=>simpa using hv
  |succ j =>
   have:=ih j v (by simpa using hv);rw[show 0+(j+1)=(0+j)+1 by omega];simpa using this
 |skip h ih =>
  intro j v hv;have:=ih j v hv;rw[Nat.add_right_comm];simpa using this
inductive Ym:List Value->Nat->List Value->List Value->Prop
 |nil {l:List Value}:Ym l 0 [] l
 |here {x v:Value} {l vs l':List Value}:Ym l 0 vs l'->Ym (x::l) 0 (v::vs) (v::l')
 |skip {x:Value} {l vs l':List Value} {n:Nat}:Ym l n vs l'->Ym (x::l) (n+1) vs (x::l')
theorem Ym.le{vs:List Value}(h:Ym l n vs l'):n+vs.length<=l.length:=by
 induction h<;>simp_all<;>omega
theorem Ym.eq{vs:List Value}(h:Ym l n vs l'):l'=l.take n++vs++l.drop (n+vs.length):=by
 induction h with
 |nil=>simp
 |here h ih=>simp at ih ⊢;exact ih
 |skip h ih =>
  rw[Nat.add_right_comm];simpa using ih
inductive Own:List (Nat×Obj)->Nat->Obj->(Obj->List (Nat×Obj))->Prop
 |here {b:Nat} {o:Obj} {r:List (Nat×Obj)}:Own ((b,o)::r) b o λo'=>(b,o')::r
 |there {x:Nat×Obj} {l:List (Nat×Obj)} {b:Nat} {o:Obj} {f:Obj->List (Nat×Obj)}:Own l b o f->Own (x::l) b o λo'=>x::f o'
theorem Own.split{l:List (Nat×Obj)}(h:Own l b o f):∃pre post,l=pre++(b,o)::post/\∀o',f o'=pre++(b,o')::post:=by
 induction h with
 |here=>exact⟨[],_,rfl,λ_=>rfl⟩
 |there h ih =>
  obtain⟨pre,post,h1,h2⟩:=ih;exact⟨_::pre,post,by rw[h1];rfl,λo'=>by show _::_=_;rw[h2];rfl⟩
theorem Own.mem{l:List (Nat×Obj)}(h:Own l b o f):(b,o)∈l:=by
 obtain⟨pre,post,h1,_⟩:=h.split;rw[h1];simp
inductive Cf:List (Nat×Obj)->Nat->Obj->List (Nat×Obj)->Prop
 |here {b:Nat} {o:Obj} {r:List (Nat×Obj)}:Cf ((b,o)::r) b o r
 |there {x:Nat×Obj} {l l':List (Nat×Obj)} {b:Nat} {o:Obj}:Cf l b o l'->Cf (x::l) b o (x::l')
theorem Cf.split{l l':List (Nat×Obj)}(h:Cf l b o l'):∃pre post,l=pre++(b,o)::post/\l'=pre++post:=by
 induction h with
 |here=>exact⟨[],_,rfl,rfl⟩
 |there h ih =>
  obtain⟨pre,post,h1,h2⟩:=ih;exact⟨_::pre,post,by rw[h1];rfl,by rw[h2];rfl⟩
section
variable{P:Program}{Q:Exit->Act->World->Prop}{N:Nat}{m:Sl}{E E0:Env}{ops:Array Oper}{l:List Oper}{w0:World}{F0:Gs}{bs:List (Nat×Obj)}{G:Gs->Prop}
theorem St.own(h:St ⟨w0,F0,bs,G⟩ w){b:Nat}{o:Obj}{f:Obj->List (Nat×Obj)}(ho:Own bs b o f):w.heap[b]?=some o:=by
 obtain⟨F,h⟩:=h;exact(h.bx (b,o) ho.mem).1
section
variable{ty:TypeId}{v:Value}{S:World->Prop}
theorem QC(h:ev m x=some v):Qt P N m S (.move x) ty v:=λa w _ _ _ _ ha _=>by
 show(Result.ok (Next.value (a.eval x)) w)=_;rw[ha.ev h]
theorem QF(h:ev m x=some v):Qt P N m S (.assign x) ty v:=λa w _ _ _ _ ha _=>by
 show(Result.ok (Next.value (a.eval x)) w)=_;rw[ha.ev h]
theorem jJ{c:Operand}{b:Bool}(hc:ev m c=some (.bool b))(hx:ev m x=some v)(hy:ev m y=some u):Qt P N m S (.pick c x y) ty (if b then v else u):=λa w _ _ _ _ ha _=>by
 simp only[execOp,ha.ev hc,ha.ev hx,ha.ev hy,asBool,pure_bind,Sem.run_pure]
theorem QX{vs:Array Value}(h:ev m x=some (.tuple vs))(hi:vs[i]?=some v):Qt P N m S (.extract x i) ty v:=λa w _ _ _ _ ha _=>by
 simp[execOp,ha.ev h,Instr.extract,hi]
theorem Vk{p:Addr}(h:ev m x=some (.pointer (some p))):Qt P N m S (.nilCheck x) ty (.pointer (some p)):=λa w _ _ _ _ ha _=>by
 simp[execOp,ha.ev h]
theorem QH{T:TypeId}{f:Nat}{fo:Nat}{ft:TypeId}(h:ev m x=some (.pointer (some ⟨b,off,none⟩)))(hf:VS P T f=some (fo,ft))(hs:Zm P ft=some (g,n+1)):
  Qt P N m S (.fieldAddr T x f) ty (.pointer (some ⟨b,off+fo,none⟩)):=λa w _ _ _ _ ha _=>by
 unfold VS at hf;split at hf
 ·rename_i fs hu;split at hf
  ·rename_i fx hx;simp only[Option.some.injEq,Prod.mk.injEq]at hf;obtain⟨rfl,rfl⟩:=hf;have hadd:(⟨b,off,none⟩:Addr).add fx.offset=⟨b,off+fx.offset,none⟩:=by unfold Addr.add;split<;>simp_all
   simp[execOp,ha.ev h,Instr.fieldAt,run_underlying hu,hx,Instr.sureAddr,fieldPlace,YM hs,hadd]
  cases hf
 cases hf
theorem Zi{T:TypeId}(ht:Zm P T=some (false,n)){w:World}{a:Addr}{v:Value}(h:w.cell? a=some v):(loadVar T a).run P w = .ok v w:=by
 simp[loadVar,S4 ht,h]
theorem Kd{T:TypeId}{vs:List Value}(ht:Zm P T=some (true,n))(hn:vs.length=n){w:World}{b off:Nat}(h:∀j v,vs[j]?=some v->w.cell? ⟨b,off+j,none⟩=some v):(loadVar T ⟨b,off,none⟩).run P w = .ok (.agg vs.toArray) w:=by
 have hl:=run_loadCells_list (P:=P) w ⟨b,off,none⟩ vs (λj v hv=>by
  have hadd:(⟨b,off,none⟩:Addr).add j=⟨b,off+j,none⟩:=by unfold Addr.add;split<;>simp_all
  rw[hadd];exact h j v hv)
 subst hn;simp[loadVar,S4 ht,YM ht,hl]
theorem Xt{o:Nat}{T:TypeId}(h:w.heap[b]?=some (.cells c.toArray T fr)):w.cell? ⟨b,o,none⟩=c[o]?:=by
 simp[World.cell?,h]
theorem Qh{T:TypeId}(h:ev m x=some (.pointer (some ⟨b,off,none⟩)))(ht:Zm P T=some (false,n))(ho:Own bs b (.cells c.toArray T' fr) f)(hg:Bu c off [v]):
  Qt P N m (St ⟨w0,F0,bs,G⟩) (.load T x) ty v:=λa w _ _ _ _ ha hw=>by
 have hc:w.cell? ⟨b,off,none⟩=some v:=by rw[Xt (hw.own ho)];exact hg.at 0 v I
 simp[execOp,ha.ev h,Instr.loadAt,Instr.sureAddr,Zi ht hc]
theorem QR{T:TypeId}{vs:List Value}(h:ev m x=some (.pointer (some ⟨b,off,none⟩)))(ht:Zm P T=some (true,n))(ho:Own bs b (.cells c.toArray T' fr) f)(hg:Bu c off vs)(hn:vs.length=n):
  Qt P N m (St ⟨w0,F0,bs,G⟩) (.load T x) ty (.agg vs.toArray):=λa w _ _ _ _ ha hw=>by
 have:=Kd ht hn (w:=w) (b:=b) (off:=off) (λj v hv=>by rw[Xt (hw.own ho)];exact hg.at j v hv);simp[execOp,ha.ev h,Instr.loadAt,Instr.sureAddr,this]
theorem cell_of_row(h:St ⟨w0,F0,bs,G⟩ w){b o:Nat}{c:Array Value}{T:TypeId}{v:Value}(hr:∀F,G F->F b=some (c,T))(hv:c[o]?=some v):w.cell? ⟨b,o,none⟩=some v:=by
 obtain⟨F,h⟩:=h;obtain⟨fr,e⟩:=h.fits.row b c T (hr F h.hG);simp[World.cell?,e,hv]
theorem PC{T:TypeId}{c:Array Value}(h:ev m x=some (.pointer (some ⟨b,off,none⟩)))(ht:Zm P T=some (false,n))(hr:∀F,G F->F b=some (c,T'))(hv:c[off]?=some v):
  Qt P N m (St ⟨w0,F0,bs,G⟩) (.load T x) ty v:=λa w _ _ _ _ ha hw=>by
 simp[execOp,ha.ev h,Instr.loadAt,Instr.sureAddr,Zi ht (cell_of_row hw hr hv)]
end
def Enters(P:Program)(f:FuncId):Prop:=∀(args:Array Value) (w:World),(callFunc f args).run P w = .ok (.enter f args) w
theorem enters_of{f:FuncId}(h:P.funcs[f]?=some fn)(hn:(fn.name == "runtime.NumGoroutine")=false)(hb:fn.body.isNone=false):Enters P f:=λargs w=>by
 have hb':fn.body≠none:=by intro e;rw[e]at hb;cases hb
 simp[callFunc,h,hb',beq_eq_false_iff_ne.1 hn]
def RP(w:World)(F:Gs){γ:Type}(val:γ->Value)(fact:γ->Gs->Prop)(e:Ending)(w':World):Prop :=
 ∃c F',e = .returned (val c)/\Rn w w'/\Gs.le F F'/\(∀b,b<w.heap.size->F' b=F b)/\Fits F' w'/\∀F'',Gs.le F' F''->fact c F''
def QU(P:Program)(f:FuncId)(args:List Value)(w:World)(F:Gs){γ:Type}(val:γ->Value)(fact:γ->Gs->Prop):Prop :=
 Enters P f/\Calls P f args.toArray w (RP w F val fact)
theorem QU.imp{f:FuncId}{args:List Value}{γ':Type}{val:γ->Value}{fact:γ->Gs->Prop}{val':γ'->Value}{fact':γ'->Gs->Prop}(h:QU P f args w F val fact)
  (k:∀c F',fact c F'->∃c',val c=val' c'/\∀F'',Gs.le F' F''->fact' c' F''):QU P f args w F val' fact':=by
 refine⟨h.1,h.2.mono ?_⟩;rintro e w' ⟨c,F',rfl,h1,h2,h3,h4,h5⟩;obtain⟨c',e,k'⟩:=k c F' (h5 F' (Gs.le_refl _));exact⟨c',F',by rw[e],h1,h2,h3,h4,k'⟩
theorem Cx.call{F':Gs}(h:Cx ⟨w0,F0,bs,G⟩ w F){f:Gs->Prop}(h1:Rn w w')(h2:Gs.le F F')(h3:∀b,b<w.heap.size->F' b=F b)(h4:Fits F' w')(h5:∀F'',Gs.le F' F''->f F''):Cx ⟨w0,F0,bs,λF=>G F/\f F⟩ w' F':=by
 refine⟨Gs.le_trans h.le h2,λb hb=>?_,h4,h.ext.trans h1,λk hk=>?_,h.nd,λF'' hF=>⟨h.g F'' (Gs.le_trans h2 hF),h5 F'' hF⟩⟩
 ·rw[h3 b (Nat.lt_of_lt_of_le hb h.ext.size)];exact h.old b hb
 obtain⟨g1,g2,g3⟩:=h.bx k hk;have hlt:k.1<w.heap.size:=by
  rcases Nat.lt_or_ge k.1 w.heap.size with g | g
  ·exact g
  rw[Array.getElem?_eq_none g]at g1;cases g1
 exact⟨by rw[h1.block _ hlt];exact g1,g2,by rw[h3 _ hlt];exact g3⟩
theorem W7{d:Option Tmp}{args:Array Operand}{tys:Array TypeId}{pos:String}{f:FuncId}{c1 c2:Array Value}(he:Enters P f)(hx:a.eval x = .func (.func f) c1 c2):
  (execOp a.eval ⟨d,.call ⟨.value x,args,tys⟩,ty,pos,aft,gd⟩).run P w = .ok (.enter f (c1++args.map a.eval++c2)) w:=by
 simp only[execOp,resolve,hx,Deferred.ofValue,Sem.run_bind,Sem.run_pure,Result.andThen_ok,invoke];exact he _ w
section
variable{d:Nat}{ty:TypeId}{pos:String}{aft:Array Edge}{f:FuncId}{args:Array Operand}{tys:Array TypeId}{vs:List Value}{γ:Type}{val:γ->Value}{fact:γ->Gs->Prop}
theorem KG{c1 c2:List Value}(hx:ev m x=some (.func (.func f) c1.toArray c2.toArray))(hv:MW m args.toList=some vs)(hc:∀w F,Fits F w->G F->QU P f (c1++vs++c2) w F val fact)
  (k:∀c,JS P ops Q l N ((d,val c)::m) ⟨w0,F0,bs,λF=>G F/\fact c F⟩) (hd:J6 N (some d)=true:=by rfl):JS P ops Q (⟨some d,.call ⟨.value x,args,tys⟩,ty,pos,aft,none⟩::l) N m ⟨w0,F0,bs,G⟩:=by
 intro a w ha hw;obtain⟨F,hF⟩:=hw;have hcg:=hc w F hF.fits hF.hG;refine wpList_plain rfl λK hK=>?_;unfold Oper.wp;rw[W7 hcg.1 (ha.ev hx)];have e:c1.toArray++args.map a.eval++c2.toArray=(c1++vs++c2).toArray:=by
  have:=ha.MW hv;have e2:args.map a.eval=vs.toArray:=by rw[<-this];apply Array.ext' ;simp
  rw[e2];apply Array.ext';simp
 simp only[Oper.upon];rw[e];refine hcg.2.mono ?_;rintro e w' ⟨c,F',rfl,h1,h2,h3,h4,h5⟩;exact hK _ _ (k c _ w' (ha.put hd (val c)) ⟨F',hF.call h1 h2 h3 h4 h5⟩)
theorem QJ(hv:MW m args.toList=some vs)(hc:∀w F,Fits F w->G F->QU P f vs w F val fact)
  (k:∀c,JS P ops Q l N ((d,val c)::m) ⟨w0,F0,bs,λF=>G F/\fact c F⟩) (hd:J6 N (some d)=true:=by rfl):JS P ops Q (⟨some d,.call ⟨.value (.func f),args,tys⟩,ty,pos,aft,none⟩::l) N m ⟨w0,F0,bs,G⟩ :=
 KG (x:=.func f) (c1:=[]) (c2:=[]) I hv (by simpa using hc) k hd
theorem zH{c1 c2:List Value}(hx:ev m x=some (.func (.func f) c1.toArray c2.toArray))(hv:MW m args.toList=some vs)(hc:∀w F,Fits F w->G F->QU P f (c1++vs++c2) w F val fact)
  (k:∀c,JD P ops Q E0 l N ((d,val c)::m) ⟨w0,F0,bs,λF=>G F/\fact c F⟩) (hd:J6 N (some d)=true:=by rfl):JD P ops Q E0 (⟨some d,.call ⟨.value x,args,tys⟩,ty,pos,aft,none⟩::l) N m ⟨w0,F0,bs,G⟩:=by
 intro hE a w ha hw;obtain⟨F,hF⟩:=hw;have hcg:=hc w F hF.fits hF.hG;refine .inr ⟨rfl,?_⟩;rw[if_pos (by simp[Region.wanted])];unfold Oper.wp;rw[W7 hcg.1 (ha.ev hx)];have e:c1.toArray++args.map a.eval++c2.toArray=(c1++vs++c2).toArray:=by
  have:=ha.MW hv;have e2:args.map a.eval=vs.toArray:=by rw[<-this];apply Array.ext' ;simp
  rw[e2];apply Array.ext';simp
 simp only[Oper.upon];rw[e];refine hcg.2.mono ?_;rintro e w' ⟨c,F',rfl,h1,h2,h3,h4,h5⟩;have hS:St ⟨w0,F0,bs,λF=>G F/\fact c F⟩ w':=⟨F',hF.call h1 h2 h3 h4 h5⟩;exact⟨hE w' (hS.Dd λ_ h=>h.1),k c (λw h=>hE w (h.Dd λ_ h=>h.1)) _ w' (ha.put hd (val c)) hS⟩
theorem Qc(hv:MW m args.toList=some vs)(hc:∀w F,Fits F w->G F->QU P f vs w F val fact)
  (k:∀c,JD P ops Q E0 l N ((d,val c)::m) ⟨w0,F0,bs,λF=>G F/\fact c F⟩) (hd:J6 N (some d)=true:=by rfl):JD P ops Q E0 (⟨some d,.call ⟨.value (.func f),args,tys⟩,ty,pos,aft,none⟩::l) N m ⟨w0,F0,bs,G⟩ :=
 zH (x:=.func f) (c1:=[]) (c2:=[]) I hv (by simpa using hc) k hd
end
end
end
section
variable[Dr][df:Df]{P:Program}{Q:Exit->Act->World->Prop}{ops:Array Oper}{l:List Oper}{N:Nat}{m:Sl}{E:Env}{d:Nat}{v:Value}{ty:TypeId}{pos:String}{aft:Array Edge}
theorem QF5(h:ev m x=some v)(k:JS P ops Q l N ((d,v)::m) E)(hd:J6 N (some d)=true:=by rfl):JS P ops Q (⟨some d,.move x,ty,pos,aft,none⟩::l) N m E:=QA (QC h) k hd
theorem QF6(h:ev m x=some v)(k:JS P ops Q l N ((d,v)::m) E)(hd:J6 N (some d)=true:=by rfl):JS P ops Q (⟨some d,.assign x,ty,pos,aft,none⟩::l) N m E:=QA (QF h) k hd
theorem QF4{y:Code}(h:J P y Q N m E):JS P ops (Exit.then (y.wp P Q) Q) [] N m E:=QE (QD h)
theorem QGi{y:Code}{id:Nat}(h:JS P l.toArray (Exit.then (y.wp P Q) Q) l N m E):J P (.seq (.region id l.toArray false) y) Q N m E:=QG (QB h)
end
def QGJ{l:List α}:List.Sublist l l:=List.Sublist.refl l
def QGx{p:Prop}[Decidable p](h:decide p=true):p:=of_decide_eq_true h
def QGy{p:Prop}[Decidable p](h:decide p=false):¬p:=of_decide_eq_false h
def wQ[Dr][df:Df]{P:Program}{Q:Exit->Act->World->Prop}{ops:Array Oper}{N:Nat}{m:Sl}{E:Env}{d:Nat}{v:Value}{ty:TypeId}{pos:String}{aft:Array Edge}{x:Operand}{y:Code}(h:ev m x=some v)(k:J P y Q N ((d,v)::m) E)(hd:J6 N (some d)=true:=by rfl):JS P ops (Exit.then (y.wp P Q) Q) [⟨some d,.assign x,ty,pos,aft,none⟩] N m E:=QF6 h (QF4 k) hd
def wR[Dr][df:Df]{P:Program}{Q:Exit->Act->World->Prop}{l:List Oper}{N:Nat}{m:Sl}{E:Env}{d:Nat}{v:Value}{ty:TypeId}{pos:String}{aft:Array Edge}{x:Operand}{y:Code}{id:Nat}(h:ev m x=some v)(k:JS P (⟨some d,.move x,ty,pos,aft,none⟩::l).toArray (Exit.then (y.wp P Q) Q) l N ((d,v)::m) E)(hd:J6 N (some d)=true:=by rfl):J P (.seq (.region id (⟨some d,.move x,ty,pos,aft,none⟩::l).toArray false) y) Q N m E:=QGi (QF5 h k hd)
def Bu.h1{x0:Value}:Bu (x0::l) 0 [x0]:=.here (.nil)
def Ym.h1{x0 v0:Value}:Ym (x0::l) 0 [v0] (v0::l):=.here (.nil)
def Bu.h2{x0 x1:Value}:Bu (x0::x1::l) 0 [x0,x1]:=.here (.here (.nil))
def Ym.h2{x0 x1 v0:Value}:Ym (x0::x1::l) 0 [v0,v1] (v0::v1::l):=.here (.here (.nil))
def Bu.h3{x0 x1:Value}:Bu (x0::x1::x2::l) 0 [x0,x1,x2]:=.here (.here (.here (.nil)))
def Ym.h3{x0 x1 v0 v2:Value}:Ym (x0::x1::x2::l) 0 [v0,v1,v2] (v0::v1::v2::l):=.here (.here (.here (.nil)))
def Bu.h4{x0 x1:Value}:Bu (x0::x1::x2::x3::l) 0 [x0,x1,x2,x3]:=.here (.here (.here (.here (.nil))))
def Ym.h4{x0 x1 v0 v2:Value}:Ym (x0::x1::x2::x3::l) 0 [v0,v1,v2,v3] (v0::v1::v2::v3::l):=.here (.here (.here (.here (.nil))))
def Bu.h5{x0 x1:Value}:Bu (x0::x1::x2::x3::x4::l) 0 [x0,x1,x2,x3,x4]:=.here (.here (.here (.here (.here (.nil)))))
def Ym.h5{x0 x1 v0 v2:Value}:Ym (x0::x1::x2::x3::x4::l) 0 [v0,v1,v2,v3,v4] (v0::v1::v2::v3::v4::l):=.here (.here (.here (.here (.here (.nil)))))
def Bu.h6{x0 x1:Value}:Bu (x0::x1::x2::x3::x4::x5::l) 0 [x0,x1,x2,x3,x4,x5]:=.here (.here (.here (.here (.here (.here (.nil))))))
def Ym.h6{x0 x1 v0 v2:Value}:Ym (x0::x1::x2::x3::x4::x5::l) 0 [v0,v1,v2,v3,v4,v5] (v0::v1::v2::v3::v4::v5::l):=.here (.here (.here (.here (.here (.here (.nil))))))
def Bu.h7{x0 x1:Value}:Bu (x0::x1::x2::x3::x4::x5::x6::l) 0 [x0,x1,x2,x3,x4,x5,x6]:=.here (.here (.here (.here (.here (.here (.here (.nil)))))))
def Ym.h7{x0 x1 v0 v2 v6:Value}:Ym (x0::x1::x2::x3::x4::x5::x6::l) 0 [v0,v1,v2,v3,v4,v5,v6] (v0::v1::v2::v3::v4::v5::v6::l):=.here (.here (.here (.here (.here (.here (.here (.nil)))))))
def Bu.h8{x0 x1:Value}:Bu (x0::x1::x2::x3::x4::x5::x6::x7::l) 0 [x0,x1,x2,x3,x4,x5,x6,x7]:=.here (.here (.here (.here (.here (.here (.here (.here (.nil))))))))
def Ym.h8{x0 x1 v0 v2 v6 v7:Value}:Ym (x0::x1::x2::x3::x4::x5::x6::x7::l) 0 [v0,v1,v2,v3,v4,v5,v6,v7] (v0::v1::v2::v3::v4::v5::v6::v7::l):=.here (.here (.here (.here (.here (.here (.here (.here (.nil))))))))
def Bu.h9{x0 x1:Value}:Bu (x0::x1::x2::x3::x4::x5::x6::x7::x8::l) 0 [x0,x1,x2,x3,x4,x5,x6,x7,x8]:=.here (.here (.here (.here (.here (.here (.here (.here (.here (.nil)))))))))
def Ym.h9{x0 x1 v0 v2 v6 v7 v8:Value}:Ym (x0::x1::x2::x3::x4::x5::x6::x7::x8::l) 0 [v0,v1,v2,v3,v4,v5,v6,v7,v8] (v0::v1::v2::v3::v4::v5::v6::v7::v8::l):=.here (.here (.here (.here (.here (.here (.here (.here (.here (.nil)))))))))
def Bu.h10{x0 x1 x9:Value}:Bu (x0::x1::x2::x3::x4::x5::x6::x7::x8::x9::l) 0 [x0,x1,x2,x3,x4,x5,x6,x7,x8,x9]:=.here (.here (.here (.here (.here (.here (.here (.here (.here (.here (.nil))))))))))
def Ym.h10{x0 x1 x9 v0 v2 v6 v7 v8 v9:Value}:Ym (x0::x1::x2::x3::x4::x5::x6::x7::x8::x9::l) 0 [v0,v1,v2,v3,v4,v5,v6,v7,v8,v9] (v0::v1::v2::v3::v4::v5::v6::v7::v8::v9::l):=.here (.here (.here (.here (.here (.here (.here (.here (.here (.here (.nil))))))))))
def Bu.h11{x0 x1 x9 x10:Value}:Bu (x0::x1::x2::x3::x4::x5::x6::x7::x8::x9::x10::l) 0 [x0,x1,x2,x3,x4,x5,x6,x7,x8,x9,x10]:=.here (.here (.here (.here (.here (.here (.here (.here (.here (.here (.here (.nil)))))))))))
def Ym.h11{x0 x1 x9 x10 v0 v2 v6 v7 v8 v9 v10:Value}:Ym (x0::x1::x2::x3::x4::x5::x6::x7::x8::x9::x10::l) 0 [v0,v1,v2,v3,v4,v5,v6,v7,v8,v9,v10] (v0::v1::v2::v3::v4::v5::v6::v7::v8::v9::v10::l):=.here (.here (.here (.here (.here (.here (.here (.here (.here (.here (.here (.nil)))))))))))
def Bu.h12{x0 x1 x9 x10 x11:Value}:Bu (x0::x1::x2::x3::x4::x5::x6::x7::x8::x9::x10::x11::l) 0 [x0,x1,x2,x3,x4,x5,x6,x7,x8,x9,x10,x11]:=.here (.here (.here (.here (.here (.here (.here (.here (.here (.here (.here (.here (.nil))))))))))))
def Ym.h12{x0 x1 x9 x10 x11 v0 v2 v6 v7 v8 v9 v10 v11:Value}:Ym (x0::x1::x2::x3::x4::x5::x6::x7::x8::x9::x10::x11::l) 0 [v0,v1,v2,v3,v4,v5,v6,v7,v8,v9,v10,v11] (v0::v1::v2::v3::v4::v5::v6::v7::v8::v9::v10::v11::l):=.here (.here (.here (.here (.here (.here (.here (.here (.here (.here (.here (.here (.nil))))))))))))
def Own.u1{x0:Nat×Obj}{r:List (Nat×Obj)}:Own (x0::(b,o)::r) b o (λo'=>x0::(b,o')::r):=.there (.here)
def Cf.u1{x0:Nat×Obj}{r:List (Nat×Obj)}:Cf (x0::(b,o)::r) b o (x0::r):=.there (.here)
def Own.u2{x0:Nat×Obj}{r:List (Nat×Obj)}:Own (x0::x1::(b,o)::r) b o (λo'=>x0::x1::(b,o')::r):=.there (.there (.here))
def Cf.u2{x0:Nat×Obj}{r:List (Nat×Obj)}:Cf (x0::x1::(b,o)::r) b o (x0::x1::r):=.there (.there (.here))
def Own.u3{x0 x2:Nat×Obj}{r:List (Nat×Obj)}:Own (x0::x1::x2::(b,o)::r) b o (λo'=>x0::x1::x2::(b,o')::r):=.there (.there (.there (.here)))
def Cf.u3{x0 x2:Nat×Obj}{r:List (Nat×Obj)}:Cf (x0::x1::x2::(b,o)::r) b o (x0::x1::x2::r):=.there (.there (.there (.here)))
def Own.u4{x0 x2 x3:Nat×Obj}{r:List (Nat×Obj)}:Own (x0::x1::x2::x3::(b,o)::r) b o (λo'=>x0::x1::x2::x3::(b,o')::r):=.there (.there (.there (.there (.here))))
def Cf.u4{x0 x2 x3:Nat×Obj}{r:List (Nat×Obj)}:Cf (x0::x1::x2::x3::(b,o)::r) b o (x0::x1::x2::x3::r):=.there (.there (.there (.there (.here))))
def Own.u5{x0 x2 x3 x4:Nat×Obj}{r:List (Nat×Obj)}:Own (x0::x1::x2::x3::x4::(b,o)::r) b o (λo'=>x0::x1::x2::x3::x4::(b,o')::r):=.there (.there (.there (.there (.there (.here)))))
def Cf.u5{x0 x2 x3 x4:Nat×Obj}{r:List (Nat×Obj)}:Cf (x0::x1::x2::x3::x4::(b,o)::r) b o (x0::x1::x2::x3::x4::r):=.there (.there (.there (.there (.there (.here)))))
def Own.u6{x0 x2 x3 x4 x5:Nat×Obj}{r:List (Nat×Obj)}:Own (x0::x1::x2::x3::x4::x5::(b,o)::r) b o (λo'=>x0::x1::x2::x3::x4::x5::(b,o')::r):=.there (.there (.there (.there (.there (.there (.here))))))
def Cf.u6{x0 x2 x3 x4 x5:Nat×Obj}{r:List (Nat×Obj)}:Cf (x0::x1::x2::x3::x4::x5::(b,o)::r) b o (x0::x1::x2::x3::x4::x5::r):=.there (.there (.there (.there (.there (.there (.here))))))
def wS{a0:A0}:a0=a0/\True:=⟨rfl,trivial⟩
def wT{a0:A0}{a1:A1}:a0=a0/\a1=a1/\True:=⟨rfl,rfl,trivial⟩
def wU{a0:A0}{a1:A1}{a2:A2}:a0=a0/\a1=a1/\a2=a2/\True:=⟨rfl,rfl,rfl,trivial⟩
def wV{a0:A0}{a1:A1}{a2:A2}{a3:A3}:a0=a0/\a1=a1/\a2=a2/\a3=a3/\True:=⟨rfl,rfl,rfl,rfl,trivial⟩
def wW{a0:A0}{a1:A1}{a2:A2}{a3:A3}{a4:A4}:a0=a0/\a1=a1/\a2=a2/\a3=a3/\a4=a4/\True:=⟨rfl,rfl,rfl,rfl,rfl,trivial⟩
def wX{a0:A0}{a1:A1}{a2:A2}{a3:A3}{a4:A4}{a5:A5}:a0=a0/\a1=a1/\a2=a2/\a3=a3/\a4=a4/\a5=a5/\True:=⟨rfl,rfl,rfl,rfl,rfl,rfl,trivial⟩
def wY{a0:A0}{a1:A1}{a2:A2}{a3:A3}{a4:A4}{a5:A5}{a6:A6}:a0=a0/\a1=a1/\a2=a2/\a3=a3/\a4=a4/\a5=a5/\a6=a6/\True:=⟨rfl,rfl,rfl,rfl,rfl,rfl,rfl,trivial⟩
def wZ{a0:A0}{a1:A1}{a2:A2}{a3:A3}{a4:A4}{a5:A5}{a6:A6}{a7:A7}:a0=a0/\a1=a1/\a2=a2/\a3=a3/\a4=a4/\a5=a5/\a6=a6/\a7=a7/\True:=⟨rfl,rfl,rfl,rfl,rfl,rfl,rfl,rfl,trivial⟩
def we{a0:A0}{a1:A1}{a2:A2}{a3:A3}{a4:A4}{a5:A5}{a6:A6}{a7:A7}{a8:A8}:a0=a0/\a1=a1/\a2=a2/\a3=a3/\a4=a4/\a5=a5/\a6=a6/\a7=a7/\a8=a8/\True:=⟨rfl,rfl,rfl,rfl,rfl,rfl,rfl,rfl,rfl,trivial⟩
def wg{a0:A0}{a1:A1}{a2:A2}{a3:A3}{a4:A4}{a5:A5}{a6:A6}{a7:A7}{a8:A8}{a9:A9}:a0=a0/\a1=a1/\a2=a2/\a3=a3/\a4=a4/\a5=a5/\a6=a6/\a7=a7/\a8=a8/\a9=a9/\True:=⟨rfl,rfl,rfl,rfl,rfl,rfl,rfl,rfl,rfl,rfl,trivial⟩
def wi{a0:A0}{a1:A1}{a2:A2}{a3:A3}{a4:A4}{a5:A5}{a6:A6}{a7:A7}{a8:A8}{a9:A9}{A10:Type}{a10:A10}:a0=a0/\a1=a1/\a2=a2/\a3=a3/\a4=a4/\a5=a5/\a6=a6/\a7=a7/\a8=a8/\a9=a9/\a10=a10/\True:=⟨rfl,rfl,rfl,rfl,rfl,rfl,rfl,rfl,rfl,rfl,rfl,trivial⟩
def wj{a0:A0}{a1:A1}{a2:A2}{a3:A3}{a4:A4}{a5:A5}{a6:A6}{a7:A7}{a8:A8}{a9:A9}{A10:Type}{a10:A10}{A11:Type}{a11:A11}:a0=a0/\a1=a1/\a2=a2/\a3=a3/\a4=a4/\a5=a5/\a6=a6/\a7=a7/\a8=a8/\a9=a9/\a10=a10/\a11=a11/\True:=⟨rfl,rfl,rfl,rfl,rfl,rfl,rfl,rfl,rfl,rfl,rfl,rfl,trivial⟩
section
variable[Dr][df:Df]
section
variable{P:Program}{Q:Exit->Act->World->Prop}{N:Nat}{m:Sl}{E E0:Env}{ops:Array Oper}{l:List Oper}{w0:World}{F0:Gs}{bs:List (Nat×Obj)}{G:Gs->Prop}
theorem St.pure{p:Prop}(h:St ⟨w0,F0,bs,G⟩ w)(hp:∀w F,Fits F w->G F->p):p:=by
 obtain⟨F,h⟩:=h;exact hp w F h.fits h.hG
theorem Xe{c:Code}(p:Prop)(hp:∀w F,Fits F w->G F->p)(k:p->J P c Q N m ⟨w0,F0,bs,G⟩):J P c Q N m ⟨w0,F0,bs,G⟩:=λa w ha hw=>k (hw.pure hp) a w ha hw
theorem JN(p:Prop)(hp:∀w F,Fits F w->G F->p)(k:p->JS P ops Q l N m ⟨w0,F0,bs,G⟩):JS P ops Q l N m ⟨w0,F0,bs,G⟩:=λa w ha hw=>k (hw.pure hp) a w ha hw
theorem V8(p:Prop)(hp:∀w F,Fits F w->G F->p)(k:p->JD P ops Q E0 l N m ⟨w0,F0,bs,G⟩):JD P ops Q E0 l N m ⟨w0,F0,bs,G⟩:=λhE a w ha hw=>k (hw.pure hp) hE a w ha hw
def XE(P:Program)(T:TypeId):Option (List Value):=match P.info? T with
 |some i=>i.zero.map λv=>v.cells.toList
 |none=>none
theorem Uj{T:TypeId}(h:XE P T=some z)(w:World):∃v,(zeroValue T).run P w = .ok v w/\v.cells=z.toArray:=by
 unfold XE at h;split at h
 ·rename_i i hi;cases hz:i.zero with
  |none=>rw[hz]at h;cases h
  |some v =>
   rw[hz]at h;simp only[Option.map_some,Option.some.injEq]at h;exact⟨v,by simp[zeroValue,typeInfo,hi,hz],by rw[<-h]⟩
 cases h
def Ga(T:TypeId):Bool:=!(Nat.beq T 289)
theorem Xy{T:TypeId}(h:Ga T=true){c:Array Value}{fr:Nat×Nat}:∀c' fr',Obj.cells c T fr≠.cells c' 289 fr':=by
 intro c' fr' e;injection e with _ h2 _;subst h2;simp[Ga]at h
section
variable{d:Nat}{ty:TypeId}{pos:String}{aft:Array Edge}
theorem upon_value{o:Oper}{v:Value}(h:(execOp a.eval o).run P w = .ok (.value v) w')(k:K (a.put o.dst v) w'):o.wp P a w K Q:=by
 unfold Oper.wp;rw[h];exact k
theorem upon_skip{o:Oper}(h:(execOp a.eval o).run P w = .ok .skip w')(k:K (a.put o.dst undef) w'):o.wp P a w K Q:=by
 unfold Oper.wp;rw[h];exact k
theorem Ev{T:TypeId}{g:Option (Nat×Bool)}(hz:XE P T=some z):
  (execOp a.eval ⟨some d,.alloc T,ty,pos,aft,g⟩).run P w = .ok (.value (.pointer (some ⟨w.heap.size,0,none⟩))) (w.alloc (.cells z.toArray T)):=by
 obtain⟨v,h1,h2⟩:=Uj hz w;simp only[execOp,Instr.alloc,Sem.run_bind,h1,Result.andThen_ok,Sem.run_pure,newVar,newRow,run_newObj,h2];rfl
theorem Qg{T:TypeId}(hz:XE P T=some z)(k:∀b,JS P ops Q l N ((d,.pointer (some ⟨b,0,none⟩))::m) ⟨w0,F0,(b,.cells z.toArray T (0,0))::bs,G⟩)(hu:Ga T=true:=by rfl)(hd:J6 N (some d)=true:=by rfl):
  JS P ops Q (⟨some d,.alloc T,ty,pos,aft,none⟩::l) N m ⟨w0,F0,bs,G⟩:=λa w ha hw =>
 wpList_plain rfl λ_ hK=>upon_value (Ev hz) (hK _ _ (k _ _ _ (ha.put hd _) (hw.alloc _ (Xy hu))))
theorem Hd{T:TypeId}(hz:XE P T=some z)(k:∀b,JD P ops Q E0 l N ((d,.pointer (some ⟨b,0,none⟩))::m) ⟨w0,F0,(b,.cells z.toArray T (0,0))::bs,G⟩)(hu:Ga T=true:=by rfl)(hd:J6 N (some d)=true:=by rfl):
  JD P ops Q E0 (⟨some d,.alloc T,ty,pos,aft,none⟩::l) N m ⟨w0,F0,bs,G⟩:=λhE a w ha hw=>by
 have hS:=hw.alloc (.cells z.toArray T (0,0)) (Xy hu);have sub:∀w' b,St ⟨w0,F0,(b,.cells z.toArray T (0,0))::bs,G⟩ w'->St E0 w':=λw' b h=>hE w' (h.imp (List.sublist_cons_self _ _) λ_ h=>h);refine .inr ⟨rfl,?_⟩;rw[if_pos (by simp[Region.wanted])];exact upon_value (Ev hz) ⟨sub _ _ hS,k _ (λw' h=>sub w' _ h) _ _ (ha.put hd _) hS⟩
theorem OT{T:TypeId}{v:Value}{g:Option (Nat×Bool)}(hx:a.eval x=v):
  (execOp a.eval ⟨some d,.box T x,ty,pos,aft,g⟩).run P w = .ok (.value (.pointer (some ⟨w.heap.size,0,none⟩))) (w.alloc (.cells v.cells T)):=by
 subst hx;simp only[execOp,Instr.box,Sem.run_bind,Result.andThen_ok,Sem.run_pure,newVar,newRow,run_newObj];rfl
theorem JE{T:TypeId}{vs:List Value}{v:Value}(hx:ev m x=some v)(hv:v.cells=vs.toArray)(k:∀b,JS P ops Q l N ((d,.pointer (some ⟨b,0,none⟩))::m) ⟨w0,F0,(b,.cells vs.toArray T (0,0))::bs,G⟩)(hu:Ga T=true:=by rfl)(hd:J6 N (some d)=true:=by rfl):
  JS P ops Q (⟨some d,.box T x,ty,pos,aft,none⟩::l) N m ⟨w0,F0,bs,G⟩:=λa w ha hw =>
 wpList_plain rfl λ_ hK=>upon_value (OT (ha.ev hx)) (hK _ _ (k _ _ _ (ha.put hd _) (hv ▸ hw.alloc _ (Xy hu))))
theorem N3{t e:TypeId}{sz:Nat}{parts:Array (Nat×Value)}{cs:Array Value}(ht:P.underlying t=some (.slice e))(hs:Zm P e=some (g,sz))(hz:XE P e=some z)(h24:n*sz<=2^24)(hn:n*sz≠0)
  (hf:Instr.fill (λi=>some (i*sz,sz)) ((Array.range (n*sz)).map λi=>z.toArray[i%z.toArray.size]!) parts.toList=some cs) :
  (Instr.buildSlice t n parts).run P w = .ok (.slice (some ⟨w.heap.size,0,none⟩) n n) (w.alloc (.cells cs e)):=by
 obtain⟨v,h1,h2⟩:=Uj hz w;have h3:¬n*sz>2^24:=O;simp only[Instr.buildSlice,Sem.run_bind,run_underlying ht,Result.andThen_ok,YM hs,if_neg h3,Sem.run_pure,if_neg hn,h1,h2,hf,newRow,run_newObj];rfl
def Vo(m:Sl):List (Nat×Operand)->Option (List (Nat×Value))
 |[]=>some []
 |(i,x)::r=>match ev m x,Vo m r with
  |some v,some l=>some ((i,v)::l)
  |_,_=>none
theorem JY.parts(h:JY N m a):∀ {l:List (Nat×Operand)} {vs:List (Nat×Value)},Vo m l=some vs->l.map (λ(i,x)=>(i,a.eval x))=vs
 |[],vs,e=>by simpa[Vo]using e
 |(i,x)::l,vs,e=>by
  unfold Vo at e;cases hx:YtpmehagnedbkhaaGreatDoor.ev m x with
  |none=>rw[hx]at e;simp at e
  |some v =>
   cases hl:Vo m l with
   |none=>rw[hx,hl]at e;simp at e
   |some r =>
    rw[hx,hl]at e;simp only[Option.some.injEq]at e;subst e;rw[List.map_cons,h.parts hl];show(i,a.eval x)::r=_;rw[h.ev hx]
def YU(sz:Nat):Nat->List (Nat×Value)->Option (List Value)
 |_,[]=>some []
 |k,(i,v)::r=>if i=k/\v.cells.size=sz then(YU sz (k+1) r).map (v.cells.toList++·)else none
theorem BI{sz:Nat}:∀(parts:List (Nat×Value)) (k:Nat) (cs:List Value) (cur:Array Value),YU sz k parts=some cs->k*sz+cs.length=cur.size ->
  Instr.fill (λi=>some (i*sz,sz)) cur parts=some (cur.toList.take (k*sz)++cs).toArray
 |[],k,cs,cur,h,hl=>by
  simp only[YU,Option.some.injEq]at h;subst h;simp only[List.length_nil,Nat.add_zero]at hl;simp[Instr.fill,List.take_of_length_le,hl]
 |(i,v)::r,k,cs,cur,h,hl=>by
  simp only[YU]at h;split at h
  ·rename_i hk;obtain⟨rfl,hv⟩:=hk;cases hr:YU sz (i+1) r with
   |none=>rw[hr]at h;cases h
   |some cs' =>
    rw[hr]at h;simp only[Option.map_some,Option.some.injEq]at h;subst h;have hlen:v.cells.toList.length=sz:=by simpa using hv
    rw[List.length_append,hlen]at hl;have hmul:(i+1)*sz=i*sz+sz:=by rw[Nat.add_mul,Nat.one_mul]
    unfold Instr.fill;simp only[hv,ne_eq,not_true_eq_false,Bool.false_or,decide_false,decide_eq_true_eq];rw[if_neg O];have hfold:∀(l:List Value) (j:Nat) (c:Array Value),i*sz+j+l.length<=c.size ->
      ((l.zipIdx j).foldl (λcs (x:Value×Nat)=>cs.setIfInBounds (i*sz+x.2) x.1) c)=(c.toList.take (i*sz+j)++l++c.toList.drop (i*sz+j+l.length)).toArray:=by
     intro l
     induction l with
     |nil=>intro j c hc;simp
     |cons x l ih =>
      intro j c hc;simp only[List.zipIdx_cons,List.foldl_cons,List.length_cons]at hc ⊢;rw[ih (j+1) _ w6];congr 1;apply List.ext_getElem?;intro q;simp only[Array.toList_setIfInBounds,List.getElem?_append,List.length_append,List.length_take,List.length_set,Array.length_toList,List.length_cons];by_cases h1:q<i*sz+j
      ·have e1:min (i*sz+(j+1)) c.size=i*sz+j+1:=O;have e2:min (i*sz+j) c.size=i*sz+j:=O;have e3:q<i*sz+j+1+l.length:=O;have e4:q<i*sz+j+(l.length+1):=O;have e5:q<i*sz+j+1:=O;simp only[e1,e2,h1,e3,e4,e5,if_true];simp[show q<i*sz+(j+1) by omega,h1,show i*sz+j≠q by omega]
      by_cases h2:q=i*sz+j
      ·subst h2;have e1:min (i*sz+(j+1)) c.size=i*sz+j+1:=O;have e2:min (i*sz+j) c.size=i*sz+j:=O;have hlt:i*sz+j<c.toList.length:=w6;simp only[e1,e2,Nat.lt_irrefl,if_false,Nat.sub_self];simp[show i*sz+j<i*sz+j+1+l.length by omega,show i*sz+j<i*sz+j+1 by omega,show i*sz+j<c.size by omega]
      have e1:min (i*sz+(j+1)) c.size=i*sz+j+1:=O;have e2:min (i*sz+j) c.size=i*sz+j:=O;have g1:¬q<i*sz+j+1:=O;simp only[e1,e2,h1,g1,if_false];by_cases h3:q<i*sz+j+1+l.length
      ·simp only[h3,if_true,show q<i*sz+j+(l.length+1) by omega];rw[show q-(i*sz+j)=(q-(i*sz+j+1))+1 by omega,List.getElem?_cons_succ]
      simp only[h3,if_false,show ¬q<i*sz+j+(l.length+1) by omega];rw[List.getElem?_drop,List.getElem?_drop,List.getElem?_set_ne O];congr 1;omega
    have e:=hfold v.cells.toList 0 cur (by rw[hlen];omega);have e0:v.cells.zipIdx.foldl (λcs (x:Value×Nat)=>cs.setIfInBounds (i*sz+x.2) x.1) cur=(v.cells.toList.zipIdx 0).foldl (λcs (x:Value×Nat)=>cs.setIfInBounds (i*sz+x.2) x.1) cur:=by
     rw[<-Array.foldl_toList];simp
    rw[e0,e];have:=BI r (i+1) cs' (cur.toList.take (i*sz+0)++v.cells.toList++cur.toList.drop (i*sz+0+v.cells.toList.length)).toArray hr (by simp[hv];omega);rw[this];congr 2;rw[<-List.append_assoc];congr 1;have hl2:(cur.toList.take (i*sz)++v.cells.toList).length=(i+1)*sz:=by simp[hv];omega
    simp only[Nat.add_zero];rw[List.take_append_of_le_length (by rw[hl2];exact Nat.le_refl _),<-hl2,List.take_length]
  cases h
theorem YF{t e:TypeId}{sz:Nat}{parts:Array (Nat×Operand)}(ha:JY N m a)(hp:Vo m parts.toList=some ps)(ht:P.underlying t=some (.slice e))(hs:Zm P e=some (g,sz))(hz:XE P e=some z)
  (hc:YU sz 0 ps=some cs) (hl:cs.length=n*sz) (h24:Nat.ble (n*sz) 16777216=true) (hn:Nat.beq (n*sz) 0=false) :
  (execOp a.eval ⟨some d,.buildSlice t n parts,ty,pos,aft,gd⟩).run P w = .ok (.value (.slice (some ⟨w.heap.size,0,none⟩) n n)) (w.alloc (.cells cs.toArray e)):=by
 have e1:(parts.map λ(i,x)=>(i,a.eval x)).toList=ps:=by simpa using ha.parts hp
 have hf:=BI ps 0 cs ((Array.range (n*sz)).map λi=>z.toArray[i%z.toArray.size]!) hc (by simp[hl]);have:=N3 (P:=P) (w:=w) (n:=n) (parts:=parts.map λ(i,x)=>(i,a.eval x)) ht hs hz (wk<|Nat.le_of_ble_eq_true h24) (λe=>by rw[e]at hn;cases hn) (by rw[e1];exact hf);simp only[Nat.zero_mul,List.take_zero,List.nil_append]at this;simp only[execOp,Sem.run_bind,this,Result.andThen_ok,Sem.run_pure]
theorem GX{t e:TypeId}{sz:Nat}{parts:Array (Nat×Operand)}(hp:Vo m parts.toList=some ps)(ht:P.underlying t=some (.slice e))(hs:Zm P e=some (g,sz))(hz:XE P e=some z)
  (hc:YU sz 0 ps=some cs) (hl:cs.length=n*sz) (k:∀b,JS P ops Q l N ((d,.slice (some ⟨b,0,none⟩) n n)::m) ⟨w0,F0,(b,.cells cs.toArray e (0,0))::bs,G⟩) (h24:Nat.ble (n*sz) 16777216=true:=by rfl) (hn:Nat.beq (n*sz) 0=false:=by rfl)
  (hu:Ga e=true:=by rfl) (hd:J6 N (some d)=true:=by rfl):JS P ops Q (⟨some d,.buildSlice t n parts,ty,pos,aft,none⟩::l) N m ⟨w0,F0,bs,G⟩:=λa w ha hw =>
 wpList_plain rfl λ_ hK=>upon_value (YF ha hp ht hs hz hc hl h24 hn) (hK _ _ (k _ _ _ (ha.put hd _) (hw.alloc _ (Xy hu))))
theorem Rm{t e:TypeId}{sz:Nat}{parts:Array (Nat×Operand)}(hp:Vo m parts.toList=some ps)(ht:P.underlying t=some (.slice e))(hs:Zm P e=some (g,sz))(hz:XE P e=some z)
  (hc:YU sz 0 ps=some cs) (hl:cs.length=n*sz) (k:∀b,JD P ops Q E0 l N ((d,.slice (some ⟨b,0,none⟩) n n)::m) ⟨w0,F0,(b,.cells cs.toArray e (0,0))::bs,G⟩) (h24:Nat.ble (n*sz) 16777216=true:=by rfl) (hn:Nat.beq (n*sz) 0=false:=by rfl)
  (hu:Ga e=true:=by rfl) (hd:J6 N (some d)=true:=by rfl):JD P ops Q E0 (⟨some d,.buildSlice t n parts,ty,pos,aft,none⟩::l) N m ⟨w0,F0,bs,G⟩:=λhE a w ha hw=>by
 have hS:=hw.alloc (.cells cs.toArray e (0,0)) (Xy hu);have sub:∀w' b,St ⟨w0,F0,(b,.cells cs.toArray e (0,0))::bs,G⟩ w'->St E0 w':=λw' b h=>hE w' (h.imp (List.sublist_cons_self _ _) λ_ h=>h);refine .inr ⟨rfl,?_⟩;rw[if_pos (by simp[Region.wanted])];exact upon_value (YF ha hp ht hs hz hc hl h24 hn) ⟨sub _ _ hS,k _ (λw' h=>sub w' _ h) _ _ (ha.put hd _) hS⟩
end
section
variable{d:Option Tmp}{ty:TypeId}{pos:String}{aft:Array Edge}
theorem run_storeCells_at(g:Nat)(t:TypeId):∀(vs:List Value) (i:Nat) (off:Nat) (cur l':List Value) (w:World),w.heap[g]?=some (.cells cur.toArray t (0,0))->(∀v∈vs,v.oneCell'=true)->Ym cur (off+i) vs l' ->
  ∃w',(storeCells ⟨g,off,none⟩ vs i).run P w = .ok () w'/\w'.heap=w.heap.setIfInBounds g (.cells l'.toArray t (0,0))/\w'.os=w.os/\w'.tape=w.tape/\w'.output=w.output/\w'.drawn=w.drawn
 |[],i,off,cur,l',w,hg,_,hp=>by
  have hlt:g<w.heap.size:=by rcases Nat.lt_or_ge g w.heap.size with h | h;exact h;rw[Array.getElem?_eq_none h]at hg;cases hg
  have e:l'=cur:=by have:=hp.eq;simpa using this
  subst e;refine⟨w,rfl,?_,rfl,rfl,rfl,rfl⟩;apply Array.ext_getElem?;intro k;by_cases e:k=g
  ·subst e;rw[hg];simp[hlt]
  rw[Array.getElem?_setIfInBounds_ne (Ne.symm e)]
 |v::vs,i,off,cur,l',w,hg,h1,hp=>by
  have hle:=hp.le;simp only[List.length_cons]at hle;have hadd:(⟨g,off,none⟩:Addr).add i=⟨g,off+i,none⟩:=by unfold Addr.add;split<;>simp_all
  have hlt:g<w.heap.size:=by rcases Nat.lt_or_ge g w.heap.size with h | h;exact h;rw[Array.getElem?_eq_none h]at hg;cases hg
  have hcell:w.cell? ⟨g,off+i,none⟩=some (cur[off+i]' O):=by simp[World.cell?,hg,show off+i<cur.length by omega]
  have hfro:w.frozen? ⟨g,off+i,none⟩=false:=by simp[World.frozen?,hg]
  have hst:(store ((⟨g,off,none⟩:Addr).add i) v).run P w = .ok () (w.setCell ⟨g,off+i,none⟩ v):=by
   rw[hadd,run_store P w _ v _ (h1 v wz),hcell];simp[hfro]
  have hheap:(w.setCell ⟨g,off+i,none⟩ v).heap=w.heap.setIfInBounds g (.cells (cur.set (off+i) v).toArray t (0,0)):=by
   apply Array.ext_getElem?;intro k;by_cases e:k=g
   ·subst e;show(w.heap.modify k _)[k]?=_;rw[Array.getElem?_modify,if_pos rfl,hg];simp[hlt]
   rw[Array.getElem?_setIfInBounds_ne (Ne.symm e)];simp[World.setCell,Array.getElem?_modify,Ne.symm e]
  have hp2:Ym (cur.set (off+i) v) (off+(i+1)) vs l':=by
   have key:∀(n:Nat) (cur l':List Value),Ym cur n (v::vs) l'->Ym (cur.set n v) (n+1) vs l':=by
    intro n
    induction n with
    |zero=>intro cur l' h;cases h with | here h=>exact .skip h
    |succ n ih=>intro cur l' h;cases h with | skip h=>exact .skip (ih _ _ h)
   exact key _ _ _ hp
  obtain⟨w',h2,h3,h4,h5,h6⟩:=run_storeCells_at g t vs (i+1) off (cur.set (off+i) v) l' (w.setCell ⟨g,off+i,none⟩ v) (by rw[hheap];simp[hlt]) (λx hx=>h1 x (by simp[hx])) hp2;refine⟨w',?_,?_,h4,h5,h6⟩
  ·simp only[storeCells,Sem.run_bind,hst,Result.andThen_ok,h2]
  rw[h3,hheap];simp
theorem Eu{T:TypeId}{v:Value}{vs:List Value}(hx:a.eval x = .pointer (some ⟨b,off,none⟩))(hy:a.eval y=v)(hv:v.cells=vs.toArray)(ht:Zm P T=some (g,n))(hn:vs.length=n)
  (hb:w.heap[b]?=some (.cells c.toArray T' (0,0))) (hp:Ym c off vs l') (h1:∀v∈vs,v.oneCell'=true) :
  ∃w',(execOp a.eval ⟨d,.store T x y,ty,pos,aft,gd⟩).run P w = .ok .skip w'/\w'.heap=w.heap.setIfInBounds b (.cells l'.toArray T' (0,0))/\w'.os=w.os/\w'.tape=w.tape/\w'.output=w.output/\w'.drawn=w.drawn:=by
 obtain⟨w',h2,h3⟩:=run_storeCells_at (P:=P) b T' vs 0 off c l' w hb h1 hp;refine⟨w',?_,h3⟩;subst hn;simp[execOp,hx,hy,Instr.storeAt,Instr.sureAddr,storeVar,hv,YM ht,h2]
def Bj:List Value->Prop
 |[]=>True
 |v::r=>v.oneCell'=true/\Bj r
theorem Z7:∀ {l:List Value},Bj l->∀v∈l,v.oneCell'=true
 |v::l,⟨h1,h2⟩,u,hu=>by
  rcases List.mem_cons.1 hu with rfl | hu
  ·exact h1
  exact Z7 h2 u hu
theorem QZ{T:TypeId}{v:Value}{vs:List Value}(hx:ev m x=some (.pointer (some ⟨b,off,none⟩)))(hy:ev m y=some v)(hv:v.cells=vs.toArray)(ht:Zm P T=some (g,n))(hn:vs.length=n)
  (ho:Own bs b (.cells c.toArray T' (0,0)) f) (hp:Ym c off vs l') (h1:Bj vs) (k:JS P ops Q l N m ⟨w0,F0,f (.cells l'.toArray T' (0,0)),G⟩) (hu:Ga T'=true:=by rfl):JS P ops Q (⟨none,.store T x y,ty,pos,aft,none⟩::l) N m ⟨w0,F0,bs,G⟩:=λa w ha hw =>
 wpList_plain rfl λ_ hK=>by
  obtain⟨w',h2,h3⟩:=Eu (P:=P) (d:=none) (ty:=ty) (pos:=pos) (aft:=aft) (gd:=none) (ha.ev hx) (ha.ev hy) hv ht hn (hw.own ho) hp (Z7 h1);obtain⟨pre,post,e1,e2⟩:=ho.split;subst e1;rw[e2]at k;exact upon_skip h2 (hK _ _ (k _ _ ha (hw.write pre h3 (Xy hu))))
end
inductive Gf:List (Nat×Obj)->Nat->Obj->(Obj->List (Nat×Obj))->List (Nat×Obj)->Prop
 |here {b:Nat} {o:Obj} {r:List (Nat×Obj)}:Gf ((b,o)::r) b o (λo'=>(b,o')::r) r
 |there {x:Nat×Obj} {l r:List (Nat×Obj)} {b:Nat} {o:Obj} {f:Obj->List (Nat×Obj)}:Gf l b o f r->Gf (x::l) b o (λo'=>x::f o') (x::r)
theorem Gf.own{l r:List (Nat×Obj)}(h:Gf l b o f r):Own l b o f:=by
 induction h with
 |here=>exact .here
 |there h ih=>exact .there ih
theorem Gf.sub{l r:List (Nat×Obj)}(h:Gf l b o f r):∀o',r.Sublist (f o'):=by
 induction h with
 |here=>exact λ_=>List.sublist_cons_self _ _
 |there h ih=>exact λo'=>(ih o').cons_cons _
theorem Ji{G0:Gs->Prop}{pos:String}{T:TypeId}{v:Value}{vs:List Value}(hx:ev m x=some (.pointer (some ⟨b,off,none⟩)))(hy:ev m y=some v)(hv:v.cells=vs.toArray)(ht:Zm P T=some (g,n))(hn:vs.length=n)
  (ho:Gf bs b (.cells c.toArray T' (0,0)) f bs') (hs:bs0.Sublist bs') (hg0:∀F,G F->G0 F) (hp:Ym c off vs l') (h1:Bj vs) (k:JD P ops Q ⟨w0,F0,bs0,G0⟩ l N m ⟨w0,F0,f (.cells l'.toArray T' (0,0)),G⟩) (hu:Ga T'=true:=by rfl):JD P ops Q ⟨w0,F0,bs0,G0⟩ (⟨none,.store T x y,ty,pos,aft,none⟩::l) N m ⟨w0,F0,bs,G⟩:=λ_ a w ha hw=>by
  obtain⟨w',h2,h3⟩:=Eu (P:=P) (d:=none) (ty:=ty) (pos:=pos) (aft:=aft) (gd:=none) (ha.ev hx) (ha.ev hy) hv ht hn (hw.own ho.own) hp (Z7 h1);have sub:∀o' w,St ⟨w0,F0,f o',G⟩ w->St ⟨w0,F0,bs0,G0⟩ w:=λo' w h=>h.imp (hs.trans (ho.sub o')) hg0;obtain⟨pre,post,e1,e2⟩:=ho.own.split;subst e1;have hS:St ⟨w0,F0,f (.cells l'.toArray T' (0,0)),G⟩ w':=by rw[e2];exact hw.write pre h3 (Xy hu)
  refine .inr ⟨rfl,?_⟩;rw[if_pos (by simp[Region.wanted])];exact upon_skip h2 ⟨sub _ _ hS,k (sub _) _ _ ha hS⟩
theorem JL{id:Nat}{l:List Oper}(hb0:bs0.Sublist bs)(hm:P.follows .mixedOrders=true)(hB:lexB .any l=true)(h:JD P l.toArray (XO (Q .normal)) ⟨w0,F0,bs0,G⟩ l N m ⟨w0,F0,bs,G⟩):J P (.region id l.toArray true) Q N m ⟨w0,F0,bs,G⟩ :=
 λa w ha hw=>RS hm hB (hw.drew.imp hb0 λ_ h=>h) (h (λ_ h=>h.imp hb0 λ_ h=>h) a _ ha hw.drew)
theorem XN{id:Nat}{l:List Oper}(n:Nat)(hb0:bs0.Sublist bs)(hm:P.follows .mixedOrders=true)(hB:Ba l n=true)(hB2:lexB .any (l.take n)=true)
  (h:JD P (l.take n).toArray (XO λa w=>wpList P l.toArray Q (l.drop n) a w) ⟨w0,F0,bs0,G⟩ (l.take n) N m ⟨w0,F0,bs,G⟩):J P (.region id l.toArray true) Q N m ⟨w0,F0,bs,G⟩ :=
 λa w ha hw=>Hw n hm hB hB2 (hw.drew.imp hb0 λ_ h=>h) (h (λ_ h=>h.imp hb0 λ_ h=>h) a _ ha hw.drew)
theorem BQ{c:Code}{cs:Array Value}{T:TypeId}(hr:Cf bs b (.cells cs T fr) bs')(k:J P c Q N m ⟨w0,F0,bs',λF=>G F/\F b=some (cs,T)⟩):J P c Q N m ⟨w0,F0,bs,G⟩:=λa w ha hw=>by
 obtain⟨pre,post,rfl,rfl⟩:=hr.split;exact k a w ha (hw.freeze pre)
theorem GW{cs:Array Value}{T:TypeId}(hr:Cf bs b (.cells cs T fr) bs')(k:JS P ops Q l N m ⟨w0,F0,bs',λF=>G F/\F b=some (cs,T)⟩):JS P ops Q l N m ⟨w0,F0,bs,G⟩:=λa w ha hw=>by
 obtain⟨pre,post,rfl,rfl⟩:=hr.split;exact k a w ha (hw.freeze pre)
def P8:Nat->List Value->Sl
 |_,[]=>[]
 |k,v::r=>(k,v)::P8 (k+1) r
theorem GH:∀(args:List Value) (k t:Nat) (v:Value),look (P8 k args) t=some v->k<=t/\args[t-k]?=some v
 |[],k,t,v,h=>by simp[P8,look]at h
 |u::r,k,t,v,h=>by
  simp only[P8,look]at h;cases hb:Nat.beq k t with
  |true =>
   rw[hb]at h;have:k=t:=by simpa using hb
   subst this;simpa using h
  |false =>
   rw[hb]at h;obtain⟨h1,h2⟩:=GH r (k+1) t v (by simpa using h);refine⟨O,?_⟩;rw[show t-k=(t-(k+1))+1 by omega];simpa using h2
omit [Df] in
theorem QU.intro{f:FuncId}{c:Code}{args:List Value}{val:γ->Value}{fact:γ->Gs->Prop}{G:Gs->Prop}(hf:P.funcs[f]?=some fn)(hb:fn.body=some c)(hn:(fn.name == "runtime.NumGoroutine")=false)(hN:fn.ntmps=N)(hl:Nat.ble args.length N=true)
  (hw:Fits F w) (hg:∀F',Gs.le F F'->G F') (h:J (df:=WM) P c (bodyPost P fn (RP w F val fact)) N (P8 0 args) ⟨w,F,[],G⟩):QU P f args w F val fact:=by
 refine⟨enters_of hf hn (by rw[hb];rfl),calls_of_wp hf hb (h _ w ⟨?_,rfl,λt v ht=>?_⟩ (St.start hw hg))⟩
 ·have:=Nat.le_of_ble_eq_true hl
  simp[hN];omega
 obtain⟨_,h2⟩:=GH args 0 t v ht
 have hlt:t<args.length:=by rcases Nat.lt_or_ge t args.length with g | g;exact g;rw[Nat.sub_zero,List.getElem?_eq_none g]at h2;cases h2
 simp only[Nat.sub_zero]at h2
 rw[Array.getElem?_append,if_pos (by simpa using hlt)]
 simpa using h2
omit [Df] in
theorem dt{val:γ->Value}{fact:γ->Gs->Prop}{bs:List (Nat×Obj)}{G:Gs->Prop}(c:γ)(hr:∀a w,JY (df:=WM) N m a->St ⟨w0,F0,bs,G⟩ w->(results fn a.tmps).run P w = .ok (val c) w)(hg:∀F,G F->fact c F):Fin (df:=WM) (bodyPost P fn (RP w0 F0 val fact)) .ret N m ⟨w0,F0,bs,G⟩:=λa w ha hw=>by
 obtain⟨F,h⟩:=id hw
 exact⟨ha.df,val c,hr a w ha hw,c,F,rfl,h.ext,h.le,h.old,h.fits,λF' hF'=>hg F' (h.g F' hF')⟩
omit [Df] in
inductive Dw(P:Program)(m:Sl)(bs:List (Nat×Obj)):List ResultVar->List Value->Prop
 |nil:Dw P m bs [] []
 |tmp {t:Tmp} {v:Value} {r:List ResultVar} {vs:List Value} (h:look m t=some v) (k:Dw P m bs r vs):Dw P m bs (.tmp t::r) (v::vs)
 |QBw {t:Tmp} {T T':TypeId} {b n:Nat} {c:List Value} {v:Value} {fr:Nat×Nat} {f:Obj->List (Nat×Obj)} {r:List ResultVar} {vs:List Value} (h:look m t=some (.pointer (some ⟨b,0,none⟩))) (ht:Zm P T=some (false,n)) (ho:Own bs b (.cells c.toArray T' fr) f) (hg:Bu c 0 [v]) (k:Dw P m bs r vs):Dw P m bs (.cell t T::r) (v::vs)
 |Jv {t:Tmp} {T T':TypeId} {b:Nat} {c:List Value} {fr:Nat×Nat} {f:Obj->List (Nat×Obj)} {r:List ResultVar} {vs:List Value} (h:look m t=some (.pointer (some ⟨b,0,none⟩))) (ht:Zm P T=some (true,c.length)) (ho:Own bs b (.cells c.toArray T' fr) f) (k:Dw P m bs r vs):Dw P m bs (.cell t T::r) (.agg c.toArray::vs)
def G2(tmps:Array Value):ResultVar->Sem Value
 |.tmp t=>pure (tmps.getD t undef)
 |.cell p t=>do loadVar t (<-asAddr (tmps.getD p undef))
theorem Dw.run{rs:List ResultVar}{vs:List Value}(h:Dw P m bs rs vs){a:Act}{w:World}(ha:JY N m a)(hw:St ⟨w0,F0,bs,G⟩ w):
  (rs.mapM (G2 a.tmps)).run P w = .ok vs w:=by
 induction h with
 |nil=>rfl
 |tmp h k ih =>
  rename_i t v r vs;have e:=ha.get _ _ h;have e2:(G2 a.tmps (.tmp t)).run P w = .ok v w:=by simp[G2,e]
  rw[List.mapM_cons,Sem.run_bind,e2];simp[ih]
 |QBw h ht ho hg k ih =>
  rename_i t T T' b n c v fr f r vs;have e:=ha.get _ _ h;have hc:=Xt (hw.own ho) (o:=0);have:=hg.at 0 _ I;simp only[Nat.zero_add]at this;rw[this]at hc;have e2:(G2 a.tmps (.cell t T)).run P w = .ok v w:=by simp[G2,e,asAddr,Zi ht hc]
  rw[List.mapM_cons,Sem.run_bind,e2];simp[ih]
 |Jv h ht ho k ih =>
  rename_i t T T' b c fr f r vs;have e:=ha.get _ _ h;have:=Kd (P:=P) ht rfl (w:=w) (b:=b) (off:=0) (λj v hv=>by rw[Nat.zero_add,Xt (hw.own ho)];exact hv);have e2:(G2 a.tmps (.cell t T)).run P w = .ok (.agg c.toArray) w:=by simp[G2,e,asAddr,this]
  rw[List.mapM_cons,Sem.run_bind,e2];simp[ih]
theorem F6(fn:Func)(tmps:Array Value):results fn tmps=(do let vs <-fn.results.mapM (G2 tmps);pure (if h:vs.size=1 then vs[0]else .tuple vs)):=by
 unfold results;exact congrArg (λ(g:ResultVar->Sem Value)=>(do let vs <-fn.results.mapM g;pure (if h:vs.size=1 then vs[0]else .tuple vs):Sem Value)) (funext λx=>by cases x<;>rfl)
theorem Gz{rs:List ResultVar}{vs:List Value}(hrs:fn.results=rs.toArray)(h:Dw P m bs rs vs){a:Act}{w:World}(ha:JY N m a)(hw:St ⟨w0,F0,bs,G⟩ w):
  (results fn a.tmps).run P w = .ok (match vs with | [v]=>v | vs=>.tuple vs.toArray) w:=by
 have:=h.run ha hw;rw[F6,hrs,List.mapM_toArray];simp only[Sem.run_bind,Sem.run_map,this,Result.andThen_ok,Sem.run_pure]
 match vs with
 |[]=>rfl
 |[v]=>rfl
 |v::u::r=>rfl
omit [Df] in
theorem QO{val:γ->Value}{fact:γ->Gs->Prop}{bs:List (Nat×Obj)}{G:Gs->Prop}{rs:List ResultVar}{v:Value}(c:γ)(hrs:fn.results=rs.toArray)(h:Dw P m bs rs [v])(hv:val c=v)(hg:∀F,G F->fact c F):Fin (df:=WM) (bodyPost P fn (RP w0 F0 val fact)) .ret N m ⟨w0,F0,bs,G⟩ :=
 dt c (λa w ha hw=>by rw[hv];exact Gz hrs h ha hw) hg
omit [Df] in
theorem J9{val:γ->Value}{fact:γ->Gs->Prop}{bs:List (Nat×Obj)}{G:Gs->Prop}{rs:List ResultVar}{v:Value}{vs:List Value}(c:γ)(hrs:fn.results=rs.toArray)(h:Dw P m bs rs (v::u::vs))(hv:val c = .tuple (v::u::vs).toArray)(hg:∀F,G F->fact c F):Fin (df:=WM) (bodyPost P fn (RP w0 F0 val fact)) .ret N m ⟨w0,F0,bs,G⟩ :=
 dt c (λa w ha hw=>by rw[hv];exact Gz hrs h ha hw) hg
end
end
section
variable[Dr][df:Df]
section
variable{P:Program}{N:Nat}{m:Sl}{S:World->Prop}{ty:TypeId}{v:Value}
def L4:BinOp->Value->Value->Option Value
 |.add,.int .i64 a,.int .i64 b=>some (.int .i64 (IntKind.i64.wrap (a+b)))
 |.sub,.int .i64 a,.int .i64 b=>some (.int .i64 (IntKind.i64.wrap (a-b)))
 |.mul,.int .i64 a,.int .i64 b=>some (.int .i64 (IntKind.i64.wrap (a*b)))
 |.add,.int .u64 a,.int .u64 b=>some (.int .u64 (IntKind.u64.wrap (a+b)))
 |.sub,.int .u64 a,.int .u64 b=>some (.int .u64 (IntKind.u64.wrap (a-b)))
 |.mul,.int .u64 a,.int .u64 b=>some (.int .u64 (IntKind.u64.wrap (a*b)))
 |.eql,.int .i64 a,.int .i64 b=>some (.bool (a==b))
 |.neq,.int .i64 a,.int .i64 b=>some (.bool (a != b))
 |.lss,.int .i64 a,.int .i64 b=>some (.bool (decide (a<b)))
 |.leq,.int .i64 a,.int .i64 b=>some (.bool (decide (a<=b)))
 |.gtr,.int .i64 a,.int .i64 b=>some (.bool (decide (a>b)))
 |.geq,.int .i64 a,.int .i64 b=>some (.bool (decide (a>=b)))
 |.eql,.int .u64 a,.int .u64 b=>some (.bool (a==b))
 |.neq,.int .u64 a,.int .u64 b=>some (.bool (a != b))
 |.lss,.int .u64 a,.int .u64 b=>some (.bool (decide (a<b)))
 |.leq,.int .u64 a,.int .u64 b=>some (.bool (decide (a<=b)))
 |.gtr,.int .u64 a,.int .u64 b=>some (.bool (decide (a>b)))
 |.geq,.int .u64 a,.int .u64 b=>some (.bool (decide (a>=b)))
 |.eql,.int .u8 a,.int .u8 b=>some (.bool (a==b))
 |.neq,.int .u8 a,.int .u8 b=>some (.bool (a != b))
 |.lss,.int .u8 a,.int .u8 b=>some (.bool (decide (a<b)))
 |.leq,.int .u8 a,.int .u8 b=>some (.bool (decide (a<=b)))
 |.gtr,.int .u8 a,.int .u8 b=>some (.bool (decide (a>b)))
 |.geq,.int .u8 a,.int .u8 b=>some (.bool (decide (a>=b)))
 |.eql,.int .i32 a,.int .i32 b=>some (.bool (a==b))
 |.neq,.int .i32 a,.int .i32 b=>some (.bool (a != b))
 |.lss,.int .i32 a,.int .i32 b=>some (.bool (decide (a<b)))
 |.leq,.int .i32 a,.int .i32 b=>some (.bool (decide (a<=b)))
 |.gtr,.int .i32 a,.int .i32 b=>some (.bool (decide (a>b)))
 |.geq,.int .i32 a,.int .i32 b=>some (.bool (decide (a>=b)))
 |.eql,.string a,.string b=>some (.bool (a.toList==b.toList))
 |.neq,.string a,.string b=>some (.bool (!(a.toList==b.toList)))
 |_,_,_=>none
theorem qx{op:BinOp}{T:TypeId}{x y:Operand}{vx vy:Value}(h:L4 op vx vy=some v)(w:World):(do eqGuard op T x y vx vy;binOp op T vx vy:Sem Value).run P w = .ok v w:=by
  unfold L4 at h;split at h<;>first
    | (cases h;done)
    | (simp only[Option.some.injEq]at h
       subst h;simp[eqGuard,binOp,Op.intArith,Op.intCmp,Op.stringOp])
theorem QN{op:BinOp}{T:TypeId}{vx vy:Value}(hx:ev m x=some vx)(hy:ev m y=some vy)(h:L4 op vx vy=some v):Qt P N m S (.binOp op T x y yT) ty v:=λa w _ _ _ _ ha _=>by
 have:=qx (P:=P) (T:=T) (x:=x) (y:=y) h w;simp only[execOp,ha.ev hx,ha.ev hy];simp only[Sem.run_bind]at this ⊢;rw[this];rfl
theorem Qm{T:TypeId}{a b:Int}(hx:ev m x=some (.int .i64 a))(hy:ev m y=some (.int .i64 b))(h : -9223372036854775808<=a+b/\a+b<=9223372036854775807):Qt P N m S (.binOp .add T x y yT) ty (.int .i64 (a+b)):=by
 have:=QN (P:=P) (N:=N) (m:=m) (S:=S) (ty:=ty) (T:=T) (yT:=yT) (op:=.add) hx hy rfl;rw[IntWalk.i64_in _ h]at this;exact this
theorem J1{T:TypeId}{a b:Int}(hx:ev m x=some (.int .i64 a))(hy:ev m y=some (.int .i64 b))(h : -9223372036854775808<=a-b/\a-b<=9223372036854775807):Qt P N m S (.binOp .sub T x y yT) ty (.int .i64 (a-b)):=by
 have:=QN (P:=P) (N:=N) (m:=m) (S:=S) (ty:=ty) (T:=T) (yT:=yT) (op:=.sub) hx hy rfl;rw[IntWalk.i64_in _ h]at this;exact this
theorem Vm{T:TypeId}{a b:Int}(hx:ev m x=some (.int .i64 a))(hy:ev m y=some (.int .i64 b))(h : -9223372036854775808<=a*b/\a*b<=9223372036854775807):Qt P N m S (.binOp .mul T x y yT) ty (.int .i64 (a*b)):=by
 have:=QN (P:=P) (N:=N) (m:=m) (S:=S) (ty:=ty) (T:=T) (yT:=yT) (op:=.mul) hx hy rfl;rw[IntWalk.i64_in _ h]at this;exact this
theorem LS{T:TypeId}{k:IntKind}{a b:Int}(hx:ev m x=some (.int k a))(hy:ev m y=some (.int k b))(h:b≠0):Qt P N m S (.binOp .quo T x y yT) ty (.int k (k.wrap (a.tdiv b))):=λs w _ _ _ _ ha _=>by
 simp[execOp,ha.ev hx,ha.ev hy,eqGuard,binOp,Op.intDiv,h]
theorem gM{T:TypeId}{k:IntKind}{a b:Int}(hx:ev m x=some (.int k a))(hy:ev m y=some (.int k b))(h:b≠0):Qt P N m S (.binOp .rem T x y yT) ty (.int k (a.tmod b)):=λs w _ _ _ _ ha _=>by
 simp[execOp,ha.ev hx,ha.ev hy,eqGuard,binOp,Op.intDiv,h]
theorem Wc{T:TypeId}{a b:Int}(hx:ev m x=some (.int .i64 a))(hy:ev m y=some (.int .i64 b))(ha:0<=a)(ha':a<=9223372036854775807)(hb:0<b):Qt P N m S (.binOp .quo T x y yT) ty (.int .i64 (a/b)):=by
 have:=LS (P:=P) (N:=N) (m:=m) (S:=S) (ty:=ty) (T:=T) (yT:=yT) hx hy O;have e:a.tdiv b=a/b:=Int.tdiv_eq_ediv_of_nonneg ha;have h0:0<=a/b:=Int.ediv_nonneg ha O;have h1:a/b<=a:=Int.ediv_le_self b ha;rw[e,IntWalk.i64_in _ ⟨O,O⟩]at this;exact this
theorem KW{T:TypeId}{k:IntKind}{a b:Int}(hx:ev m x=some (.int k a))(hy:ev m y=some (.int k b))(ha:0<=a)(hb:0<b):Qt P N m S (.binOp .rem T x y yT) ty (.int k (a%b)):=by
 have:=gM (P:=P) (N:=N) (m:=m) (S:=S) (ty:=ty) (T:=T) (yT:=yT) hx hy O;rw[Int.tmod_eq_emod_of_nonneg ha]at this;exact this
theorem jO{T:TypeId}{a b:ByteArray}(hx:ev m x=some (.string a))(hy:ev m y=some (.string b))(h:((a.size+b.size:Nat):Int)<=9223372036854775807):Qt P N m S (.binOp .add T x y yT) ty (.string (a++b)):=λs w _ _ _ _ ha _=>by
 have h':¬((a.size+b.size:Nat):Int)>IntKind.i64.max:=by
  have:IntKind.i64.max=9223372036854775807:=wu;omega
 simp only[execOp,ha.ev hx,ha.ev hy,eqGuard,binOp,Op.stringOp,if_neg h'];rfl
theorem Jw{T:TypeId}{b:Bool}(hx:ev m x=some (.bool b)):Qt P N m S (.unOp .not T x) ty (.bool (!b)):=λs w _ _ _ _ ha _=>by
 simp[execOp,ha.ev hx,Op.unary]
def SY(P:Program)(T:TypeId):Option IntKind:=match P.underlying T with
 |some (.int k)=>some k
 |_=>none
theorem SC{src dst:TypeId}{k:IntKind}{n:Int}(hx:ev m x=some (.int k' n))(hs:(P.underlying src).isSome=true)(hk:SY P dst=some k):Qt P N m S (.convert src dst x) ty (.int k (k.wrap n)):=λs w _ _ _ _ ha _=>by
 obtain⟨d,hd⟩:=Option.isSome_iff_exists.1 hs;unfold SY at hk;split at hk
 ·rename_i k'' hu;cases hk;simp only[execOp,ha.ev hx,convert,Sem.run_bind,run_underlying hd,run_underlying hu,Result.andThen_ok];rfl
 cases hk
theorem Aj{n:Int}(h : -9223372036854775808<=n/\n<=9223372036854775807):IntKind.i64.wrap n=n:=IntWalk.i64_in _ h
theorem Ob{src dst:TypeId}{n:Int}(hx:ev m x=some (.int k' n))(hs:(P.underlying src).isSome=true)(hk:SY P dst=some .i64)(h : -9223372036854775808<=n/\n<=9223372036854775807):Qt P N m S (.convert src dst x) ty (.int .i64 n):=by
 have:=SC (P:=P) (N:=N) (m:=m) (S:=S) (ty:=ty) hx hs hk;rw[Aj h]at this;exact this
def Gw(P:Program)(T:TypeId):Bool:=match P.underlying T with
 |some .string=>true
 |_=>false
theorem Yq{b:Builtin}{args:Array Operand}{tys:Array TypeId}{d:Option Tmp}{pos:String}{g:Option (Nat×Bool)}:execOp a.eval ⟨d,.call ⟨.builtin b,args,tys⟩,ty,pos,aft,g⟩=builtin b tys ty (args.map λ| .const _=>true | _=>false) (args.map a.eval):=rfl
theorem jL{T:TypeId}(hx:ev m x=some (.string s))(hT:Gw P T=true):Qt P N m S (.call ⟨.builtin .len,#[x],#[T]⟩) ty (.int .i64 s.size):=λa w _ _ _ _ ha _=>by
 unfold Gw at hT;split at hT
 ·rename_i hu;rw[Yq];simp[builtin,Builtin.len_,ha.ev hx,run_underlying hu,goInt]
 cases hT
def BU(P:Program)(T:TypeId):Option TypeId:=match P.underlying T with
 |some (.slice e)=>some e
 |_=>none
theorem JU{T e:TypeId}(h:BU P T=some e):P.underlying T=some (.slice e):=by
 unfold BU at h;split at h
 ·cases h;assumption
 cases h
theorem Qf{T e:TypeId}{c:Nat}(hx:ev m x=some (.slice q n c))(hT:BU P T=some e):Qt P N m S (.call ⟨.builtin .len,#[x],#[T]⟩) ty (.int .i64 n):=λa w _ _ _ _ ha _=>by
 rw[Yq];simp[builtin,Builtin.len_,ha.ev hx,run_underlying (JU hT),goInt]
theorem jK{T:TypeId}{a b:Int}(hx:ev m x=some (.int .i64 a))(hy:ev m y=some (.int .i64 b)):Qt P N m S (.call ⟨.builtin .min,#[x,y],#[T,T']⟩) ty (.int .i64 (if b<a then b else a)):=λs w _ _ _ _ ha _=>by
 rw[Yq];simp[builtin,ha.ev hx,ha.ev hy,Builtin.min_,Builtin.min2]
theorem gN{T:TypeId}{a b:Int}(hx:ev m x=some (.int .i64 a))(hy:ev m y=some (.int .i64 b)):Qt P N m S (.call ⟨.builtin .max,#[x,y],#[T,T']⟩) ty (.int .i64 (if b>a then b else a)):=λs w _ _ _ _ ha _=>by
 rw[Yq];simp[builtin,ha.ev hx,ha.ev hy,Builtin.max_,Builtin.max2]
theorem jM{T:TypeId}{i:Nat}(hx:ev m x=some (.string s))(hy:ev m y=some (.int .i64 (i:Int)))(hT:Gw P T=true)(hi:i<s.size):Qt P N m S (.index T x y) ty (.int .u8 (s.data[i].toNat:Int)):=λa w _ _ _ _ ha _=>by
 unfold Gw at hT;split at hT
 ·rename_i hu;have e:s[i]?=some (s.data[i]):=by
   rw[getElem?_pos s i hi];rfl
  simp[execOp,ha.ev hx,ha.ev hy,Instr.index,asIntOf,run_underlying hu,e]
 cases hT
theorem TE{T:TypeId}{lo hi:Option Value}{l h:Nat}(hT:Gw P T=true)(hlo:(lo=none/\l=0)\/lo=some (.int .i64 (l:Int)))(hhi:(hi=none/\h=s.size)\/hi=some (.int .i64 (h:Int)))(h1:l<=h)(h2:h<=s.size)(w:World):
  (Instr.slice T (.string s) lo hi none).run P w = .ok (.string (s.extract l h)) w:=by
 unfold Gw at hT;split at hT
 ·rename_i hu;rcases hlo with ⟨rfl,rfl⟩ | rfl<;>rcases hhi with ⟨rfl,rfl⟩ | rfl <;>
   simp[Instr.slice,run_underlying hu,Instr.sliceBounds,Instr.sliceBound,asIntOf,h1,h2]
 cases hT
def Fg(m:Sl):Option Operand->Option (Option Value)
 |none=>some none
 |some x=>(ev m x).map some
theorem JY.Fg(h:JY N m a){x:Option Operand}{v:Option Value}(hx:Fg m x=some v):x.map a.eval=v:=by
 cases x with
 |none=>simpa[YtpmehagnedbkhaaGreatDoor.Fg]using hx
 |some x =>
  cases hv:YtpmehagnedbkhaaGreatDoor.ev m x with
  |none=>simp[YtpmehagnedbkhaaGreatDoor.Fg,hv]at hx
  |some u=>simp[YtpmehagnedbkhaaGreatDoor.Fg,hv]at hx;simp[h.ev hv,hx]
theorem IB{T:TypeId}{lo hi:Option Operand}{vl vh:Option Value}{l h:Nat}(hx:ev m x=some (.string s))(el:Fg m lo=some vl)(eh:Fg m hi=some vh)(hT:Gw P T=true)
  (hlo:(vl=none/\l=0)\/vl=some (.int .i64 (l:Int))) (hhi:(vh=none/\h=s.size)\/vh=some (.int .i64 (h:Int))) (h1:l<=h) (h2:h<=s.size):Qt P N m S (.slice T x lo hi none) ty (.string (s.extract l h)):=λa w _ _ _ _ ha _=>by
 have e:=TE (P:=P) hT hlo hhi h1 h2 w;unfold Gw at hT;split at hT
 ·rename_i hu;simp[execOp,ha.ev hx,ha.Fg el,ha.Fg eh,Instr.sliceAt,run_underlying hu,e]
 cases hT
end
end
section
variable[Dr][df:Df]
section
variable{P:Program}{Q:Exit->Act->World->Prop}{N:Nat}{m:Sl}{E E0:Env}{ops:Array Oper}{l:List Oper}{w0:World}{F0:Gs}{bs:List (Nat×Obj)}{G:Gs->Prop}{ty:TypeId}{v:Value}{S:World->Prop}
theorem Yj(b off k:Nat):(⟨b,off,none⟩:Addr).add k=⟨b,off+k,none⟩:=by unfold Addr.add;split<;>simp_all
theorem Qx{T e:TypeId}{c sz i:Nat}(hx:ev m x=some (.slice (some ⟨b,off,none⟩) n c))(hy:ev m y=some (.int .i64 (i:Int)))(hT:BU P T=some e)(hs:Zm P e=some (g,sz))(hi:i<n):Qt P N m S (.indexAddr T x y) ty (.pointer (some ⟨b,off+i*sz,none⟩)):=λa w _ _ _ _ ha _=>by
 simp[execOp,ha.ev hx,ha.ev hy,Instr.indexAt,asIntOf,run_underlying (JU hT),YM hs,hi,Yj]
theorem YY{T:TypeId}(h:ev m x=some (.pointer (some ⟨b,off,none⟩)))(ht:Zm P T=some (false,n))(ho:Own bs b (.cells c.toArray T' fr) f)(hg:c[off]?=some v):
  Qt P N m (St ⟨w0,F0,bs,G⟩) (.load T x) ty v:=λa w _ _ _ _ ha hw=>by
 have hc:w.cell? ⟨b,off,none⟩=some v:=by rw[Xt (hw.own ho)];exact hg
 simp[execOp,ha.ev h,Instr.loadAt,Instr.sureAddr,Zi ht hc]
theorem Uu{T:TypeId}{vs:List Value}(h:ev m x=some (.pointer (some ⟨b,off,none⟩)))(ht:Zm P T=some (true,n))(ho:Own bs b (.cells c.toArray T' fr) f)(hn:vs.length=n)(hg:∀j v,vs[j]?=some v->c[off+j]?=some v):
  Qt P N m (St ⟨w0,F0,bs,G⟩) (.load T x) ty (.agg vs.toArray):=λa w _ _ _ _ ha hw=>by
 have:=Kd ht hn (w:=w) (b:=b) (off:=off) (λj v hv=>by rw[Xt (hw.own ho)];exact hg j v hv);simp[execOp,ha.ev h,Instr.loadAt,Instr.sureAddr,this]
theorem Ym.mk':∀(n:Nat) (l vs:List Value),n+vs.length<=l.length->Ym l n vs (l.take n++vs++l.drop (n+vs.length))
 |0,l,[],_=>by simpa using Ym.nil (l:=l)
 |0,x::l,v::vs,h=>by
  have:=Ym.mk' 0 l vs (by simp at h ⊢;omega);simp only[List.take_zero,List.nil_append,Nat.zero_add,List.length_cons,List.drop_succ_cons,List.cons_append]at this ⊢;exact .here this
 |n+1,x::l,vs,h=>by
  have:=Ym.mk' n l vs (by simp at h;omega);rw[Nat.add_right_comm];simpa using Ym.skip (x:=x) this
 |0,[],v::vs,h=>by simp at h
 |n+1,[],vs,h=>by simp at h
theorem Ym.QEX{l:List Value}(v:Value)(h:n<l.length):Ym l n [v] (l.set n v):=by
 have:=Ym.mk' n l [v] w6;have e:l.take n++[v]++l.drop (n+1)=l.set n v:=by
  rw[List.set_eq_take_append_cons_drop,if_pos h];simp
 rw[List.length_singleton,e]at this;exact this
inductive Q6(T:TypeId)(sz:Nat):Value->Nat->List Value->List (Nat×Obj)->Prop
 |nil:Q6 T sz (.slice none 0 0) 0 [] []
 |some {b n cap:Nat} {l rest:List Value} (h1:l.length=n*sz) (h2:l.length+rest.length=cap*sz) (h3:n<=cap) (h4:cap<=maxLen):Q6 T sz (.slice (some ⟨b,0,none⟩) n cap) n l [(b,.cells (l++rest).toArray T (0,0))]
theorem Q6.one{T:TypeId}{sz:Nat}{v:Value}{l:List Value}(h:Q6 T sz v n l ob):v.oneCell'=true/\v.cells=[v].toArray:=by
 cases h<;>exact⟨rfl,rfl⟩
structure Src(E:Env)(sz:Nat)(x:Value)(k:Nat)(news:List Value):Prop where
 len:news.length=k*sz
 rd:((∃c,x = .slice none 0 c)/\k=0/\news=[])\/∃a c,x = .slice (some a) k c/\∀w,St E w->∀j v,news[j]?=some v->w.cell? (a.add j)=some v
theorem Src.row{sz c:Nat}{cs:Array Value}{T:TypeId}(hr:∀F,G F->F b=some (cs,T))(hg:∀j v,news[j]?=some v->cs[off+j]?=some v)(hl:news.length=k*sz):Src ⟨w0,F0,bs,G⟩ sz (.slice (.some ⟨b,off,none⟩) k c) k news :=
 ⟨hl,.inr ⟨_,_,rfl,λw hw j v hv=>by rw[Yj];exact cell_of_row hw hr (hg j v hv)⟩⟩
theorem Src.nil{sz c:Nat}:Src E sz (.slice none 0 c) 0 []:=⟨wz,.inl ⟨⟨_,rfl⟩,rfl,rfl⟩⟩
def ZP(P:Program)(T:TypeId):Option Nat:=(P.info? T).map (·.bytes)
theorem H2{sz:Nat}{x:Value}(hl:news.length=k*sz)(h:((∃c,x = .slice none 0 c)/\k=0/\news=[])\/∃a c,x = .slice (some a) k c/\∀j v,news[j]?=some v->w.cell? (a.add j)=some v):
  (Builtin.firstCells sz k x).run P w = .ok news.toArray w:=by
 rcases h with ⟨⟨_,rfl⟩,rfl,rfl⟩ | ⟨a,c,rfl,h⟩
 ·rfl
 exact run_firstCells_some (P:=P) w sz k a k c news hl h
theorem BE{t e:TypeId}{sz:Nat}{x y:Value}{olds:List Value}(ht:BU P t=some e)(hs:Zm P e=some (g,sz))(hz:XE P e=some z)(hzl:z.length=sz)(hby:ZP P e=some bytes)
  (hr:Q6 e sz x n olds ob) (hs2:Src ⟨w0,F0,ob++bs,G⟩ sz y k news) (hw:St ⟨w0,F0,ob++bs,G⟩ w) (h63:n+k<=9223372036854775807) (h47:(n+k)*bytes<=140737488355328) (h1:∀v∈news,v.oneCell'=true) (hu:Ga e=true) :
  ∃v' ob' w',(Builtin.append_ #[t,t] ty #[x,y]).run P w = .ok v' w'/\Q6 e sz v' (n+k) (olds++news) ob'/\St ⟨w0,F0,ob'++bs,G⟩ w':=by
 have hi:∃i,P.info? e=some i/\i.size=sz/\i.bytes=bytes/\∃zv,i.zero=some zv/\zv.cells=z.toArray:=by
  unfold ZP at hby;unfold XE at hz;unfold Zm at hs;cases hie:P.info? e with
  |none=>rw[hie]at hby;cases hby
  |some i =>
   rw[hie]at hby hz hs;dsimp only at hz hs;simp only[Option.map_some,Option.some.injEq]at hby;refine⟨i,rfl,?_,hby,?_⟩
   ·split at hs
    ·rename_i h1 h2;cases h2;cases hs;rfl
    cases hs
   cases hzz:i.zero with
   |none=>rw[hzz]at hz;cases hz
   |some zv=>rw[hzz]at hz;simp only[Option.map_some,Option.some.injEq]at hz;exact⟨zv,rfl,by rw[<-hz]⟩
 obtain⟨i,hi1,hi2,hi3,zv,hi4,hi5⟩:=hi;subst hi2 hi3;have hzc:∀q,(Builtin.zeroCells zv.cells q).toList.length=q*i.size:=λq=>by simp[Builtin.zeroCells,hi5,hzl]
 have hu':∀c fr c' fr',Obj.cells c e fr≠.cells c' 289 fr':=λc fr=>Xy hu;have new:∀ {w':World} (l rest:List Value) (v':Value) (cap:Nat) (bs':List (Nat×Obj)),St ⟨w0,F0,bs',G⟩ w'->bs.Sublist bs'->v' = .slice (some ⟨w'.heap.size,0,none⟩) (n+k) cap->l.length=(n+k)*i.size->l.length+rest.length=cap*i.size->n+k<=cap->cap<=maxLen ->
   ∃ob',Q6 e i.size v' (n+k) l ob'/\St ⟨w0,F0,ob'++bs,G⟩ (w'.alloc (.cells (l++rest).toArray e)):=by
  intro w' l rest v' cap bs' hw' hsub hv' h2 h3 h4 h5;subst hv';exact⟨_,.some h2 h3 h4 h5,(hw'.imp hsub λ_ h=>h).alloc _ (hu' _ _)⟩
 have hcut:∀need old,need<=9223372036854775807->need<=grownCap w need old e:=λneed old _=>grownCap_ge w need old e;cases hr with
 |nil =>
  simp only[Nat.zero_add,List.nil_append]at *
  rcases hs2.rd with ⟨⟨_,rfl⟩,rfl,rfl⟩ | ⟨a,c,rfl,hrd⟩
  ·refine⟨.slice none 0 0,[],w,?_,.nil,hw⟩;simp[Builtin.append_,run_underlying (JU ht),sizeOf,typeInfo,hi1,Builtin.lenOf,Builtin.firstCells]
  by_cases hk:k=0
  ·subst hk;have hn0:news=[]:=by have:=hs2.len;simp at this;exact this
   subst hn0;refine⟨.slice none 0 0,[],w,?_,.nil,hw⟩;have:=run_firstCells_some (P:=P) w i.size 0 a 0 c [] wz (λj v hv=>by simp at hv);simp[Builtin.append_,run_underlying (JU ht),sizeOf,typeInfo,hi1,Builtin.lenOf,this]
  have hrun:=run_append_nil (P:=P) (w:=w) t ty e i zv (JU ht) hi1 hi4 a k c news hs2.len (hrd w hw) O O O;have hge:=hcut k 0 h63;obtain⟨ob',h2,h3⟩:=new news (Builtin.zeroCells zv.cells (grownCap w k 0 e-k)).toList _ (grownCap w k 0 e) bs hw.drew QGJ rfl hs2.len (by rw[hzc,hs2.len,<-Nat.add_mul];congr 1;omega) hge (grownCap_le_maxLen w k 0 e (by simp only[maxLen];omega));refine⟨_,ob',_,hrun,h2,?_⟩;have e1:(news++(Builtin.zeroCells zv.cells (grownCap w k 0 e-k)).toList).toArray=news.toArray++Builtin.zeroCells zv.cells (grownCap w k 0 e-k):=by apply Array.ext';simp
  rw[e1]at h3;exact h3
 |some g1 g2 g3 g4 =>
  rename_i b cap rest;have hbw:w.heap[b]?=some (.cells (olds++rest).toArray e (0,0)):=hw.own (f:=λo'=>(b,o')::bs) .here;have hold:∀j v,olds[j]?=some v->w.cell? ((⟨b,0,none⟩:Addr).add j)=some v:=λj v hv=>by
   rw[Yj,Nat.zero_add,Xt hbw,List.getElem?_append];have:j<olds.length:=by rcases Nat.lt_or_ge j olds.length with q | q;exact q;rw[List.getElem?_eq_none q]at hv;cases hv
   rw[if_pos this];exact hv
  by_cases hroom:n+k<=cap
  ·have hmul:(n+k)*i.size<=cap*i.size:=Nat.mul_le_mul_right _ hroom;rw[Nat.add_mul]at hmul;have hp:=Ym.mk' (n*i.size) (olds++rest) news (by rw[List.length_append,hs2.len];omega);obtain⟨w',h2,h3⟩:=run_storeCells_at (P:=P) b e news 0 (n*i.size) (olds++rest) _ w hbw h1 hp;have e1:(olds++rest).take (n*i.size)=olds:=by rw[<-g1];simp
   have e2:(olds++rest).drop (n*i.size+news.length)=rest.drop news.length:=by
    rw[<-g1,List.drop_append,List.drop_of_length_le O,Nat.add_sub_cancel_left,List.nil_append]
   rw[e1,e2]at h3;have hfc:=H2 (P:=P) (w:=w) hs2.len (hs2.rd.imp id λ⟨a,c,h,h'⟩=>⟨a,c,h,h' w hw⟩);refine⟨.slice (some ⟨b,0,none⟩) (n+k) cap,[(b,.cells (olds++news++rest.drop news.length).toArray e (0,0))],w',?_,.some ?_ ?_ hroom g4,?_⟩
   ·have hlen:(Builtin.lenOf y).run P w = .ok k w:=by
     rcases hs2.rd with ⟨⟨_,rfl⟩,rfl,_⟩ | ⟨a,c,rfl,_⟩<;>rfl
    simp[Builtin.append_,run_underlying (JU ht),sizeOf,typeInfo,hi1,hlen,hroom,hfc,Yj,h2]
   ·rw[List.length_append,g1,hs2.len,Nat.add_mul]
   ·rw[List.length_append,List.length_drop,hs2.len,g1];omega
   exact St.write [] hw h3 (hu' _ _)
  rcases hs2.rd with ⟨⟨_,rfl⟩,rfl,rfl⟩ | ⟨a,c,rfl,hrd⟩
  ·exact absurd g3 hroom
  have hfit:=growslice_fits (need:=n+k) (old:=cap) (bytes:=i.bytes) O h47;have hrun:=run_append_grow (P:=P) (w:=w) t ty e i zv (JU ht) hi1 hi4 ⟨b,0,none⟩ n cap olds g1 hold a k c news hs2.len (hrd w hw) O O hfit;have hge:=hcut (n+k) cap h63;have hl2:(olds++news).length=(n+k)*i.size:=by rw[List.length_append,g1,hs2.len,Nat.add_mul]
  obtain⟨ob',h2,h3⟩:=new (olds++news) (Builtin.zeroCells zv.cells (grownCap w (n+k) cap e-(n+k))).toList _ (grownCap w (n+k) cap e) _ hw.drew (List.sublist_cons_self _ _) rfl hl2 (by rw[hzc,hl2,<-Nat.add_mul];congr 1;omega) hge (grownCap_le_maxLen w (n+k) cap e (by simp only[maxLen];omega));refine⟨_,ob',_,hrun,h2,?_⟩;have e1:(olds++news++(Builtin.zeroCells zv.cells (grownCap w (n+k) cap e-(n+k))).toList).toArray=olds.toArray++news.toArray++Builtin.zeroCells zv.cells (grownCap w (n+k) cap e-(n+k)):=by apply Array.ext';simp
  rw[e1]at h3;exact h3
theorem Sz{d:Nat}{pos:String}{t e:TypeId}{sz:Nat}{X Y:Operand}{x y:Value}{olds:List Value}(hx:ev m X=some x)(hy:ev m Y=some y)(ht:BU P t=some e)(hs:Zm P e=some (g,sz))(hz:XE P e=some z)(hzl:z.length=sz)(hby:ZP P e=some bytes)
  (hr:Q6 e sz x n olds ob) (hs2:Src ⟨w0,F0,ob++bs,G⟩ sz y k news) (h63:n+k<=9223372036854775807) (h47:(n+k)*bytes<=140737488355328) (h1:∀v∈news,v.oneCell'=true)
  (kk:∀v' ob',Q6 e sz v' (n+k) (olds++news) ob'->JS P ops Q l N ((d,v')::m) ⟨w0,F0,ob'++bs,G⟩) (hu:Ga e=true:=by rfl) (hd:J6 N (some d)=true:=by rfl) :
  JS P ops Q (⟨some d,.call ⟨.builtin .append,#[X,Y],#[t,t]⟩,ty,pos,aft,none⟩::l) N m ⟨w0,F0,ob++bs,G⟩:=λa w ha hw =>
 wpList_plain rfl λK hK=>by
  obtain⟨v',ob',w',h2,h3,h4⟩:=BE (ty:=ty) ht hs hz hzl hby hr hs2 hw h63 h47 h1 hu;refine upon_value (w':=w') (v:=v') ?_ (hK _ _ (kk v' ob' h3 _ w' (ha.put hd v') h4));rw[Yq];simp[builtin,ha.ev hx,ha.ev hy,h2]
theorem B4{d:Nat}{pos:String}{t e:TypeId}{sz:Nat}{X Y:Operand}{x y:Value}{olds:List Value}{G0:Gs->Prop}(hx:ev m X=some x)(hy:ev m Y=some y)(ht:BU P t=some e)(hs:Zm P e=some (g,sz))(hz:XE P e=some z)(hzl:z.length=sz)(hby:ZP P e=some bytes)
  (hr:Q6 e sz x n olds ob) (hs2:Src ⟨w0,F0,ob++bs,G⟩ sz y k news) (h63:n+k<=9223372036854775807) (h47:(n+k)*bytes<=140737488355328) (h1:∀v∈news,v.oneCell'=true) (hs0:bs0.Sublist bs) (hg0:∀F,G F->G0 F)
  (kk:∀v' ob',Q6 e sz v' (n+k) (olds++news) ob'->JD P ops Q ⟨w0,F0,bs0,G0⟩ l N ((d,v')::m) ⟨w0,F0,ob'++bs,G⟩) (hu:Ga e=true:=by rfl) (hd:J6 N (some d)=true:=by rfl) :
  JD P ops Q ⟨w0,F0,bs0,G0⟩ (⟨some d,.call ⟨.builtin .append,#[X,Y],#[t,t]⟩,ty,pos,aft,none⟩::l) N m ⟨w0,F0,ob++bs,G⟩:=λ_ a w ha hw=>by
  obtain⟨v',ob',w',h2,h3,h4⟩:=BE (ty:=ty) ht hs hz hzl hby hr hs2 hw h63 h47 h1 hu;have sub:∀w',St ⟨w0,F0,ob'++bs,G⟩ w'->St ⟨w0,F0,bs0,G0⟩ w':=λw' h=>h.imp (hs0.trans (List.sublist_append_right _ _)) hg0;refine .inr ⟨rfl,?_⟩;rw[if_pos (by simp[Region.wanted])];refine upon_value (w':=w') (v:=v') ?_ ⟨sub _ h4,kk v' ob' h3 sub _ w' (ha.put hd v') h4⟩;rw[Yq];simp[builtin,ha.ev hx,ha.ev hy,h2]
def XP(z:List Value):Nat->List Value
 |0=>[]
 |n+1=>z++XP z n
theorem H7(z:List Value):∀n,(XP z n).length=n*z.length
 |0=>by simp[XP]
 |n+1=>by rw[XP,List.length_append,H7 z n,Nat.add_mul];omega
theorem Ni(z:List Value):∀(n j:Nat),j<n*z.length->(XP z n)[j]?=z[j%z.length]?
 |0,j,h=>by simp at h
 |n+1,j,h=>by
  rw[XP,List.getElem?_append];split
  ·rename_i hj;rw[Nat.mod_eq_of_lt hj]
  rename_i hj;rw[Ni z n _ (by rw[Nat.add_mul,Nat.one_mul]at h;omega)];rw[<-Nat.mod_eq_sub_mod O]
theorem W3(v:Value):∀n,XP [v] n=List.replicate n v
 |0=>rfl
 |n+1=>by rw[XP,W3 v n];rfl
theorem TX{z:Array Value}:madeCells z (n*z.size)=(XP z.toList n).toArray:=by
 apply Array.ext_getElem?;intro j;simp only[madeCells,List.getElem?_toArray];by_cases hj:j<n*z.size
 ·have hz:0<z.size:=by rcases Nat.eq_zero_or_pos z.size with h | h;rw[h]at hj;simp at hj;exact h
  have hm:=Nat.mod_lt j hz;rw[Ni z.toList n j (by simpa using hj)];simp[hj,hm]
 have e1:(XP z.toList n)[j]?=none:=List.getElem?_eq_none (by rw[H7];simpa using hj);rw[e1,Array.getElem?_eq_none (by simpa using hj)]
theorem OS{t e:TypeId}{sz n:Nat}{kl:IntKind}(ht:BU P t=some e)(hs:Zm P e=some (g,sz))(hz:XE P e=some z)(hzl:z.length=sz)(hby:ZP P e=some bytes)(h63:(n:Int)<=9223372036854775807)(h48:n*bytes<=281474976710656):
  (Instr.makeSlice t (.int kl n) (.int kl n)).run P w = .ok (.slice (some ⟨w.heap.size,0,none⟩) n n) (w.alloc (.cells (XP z n).toArray e)):=by
 have hi:∃i,P.info? e=some i/\i.size=sz/\i.bytes=bytes/\∃zv,i.zero=some zv/\zv.cells=z.toArray:=by
  unfold ZP at hby;unfold XE at hz;unfold Zm at hs;cases hie:P.info? e with
  |none=>rw[hie]at hby;cases hby
  |some i =>
   rw[hie]at hby hz hs;dsimp only at hz hs;simp only[Option.map_some,Option.some.injEq]at hby;refine⟨i,rfl,?_,hby,?_⟩
   ·split at hs
    ·rename_i h1 h2;cases h2;cases hs;rfl
    cases hs
   cases hzz:i.zero with
   |none=>rw[hzz]at hz;cases hz
   |some zv=>rw[hzz]at hz;simp only[Option.map_some,Option.some.injEq]at hz;exact⟨zv,rfl,by rw[<-hz]⟩
 obtain⟨i,hi1,hi2,hi3,zv,hi4,hi5⟩:=hi;subst hi3;have hb:(i.bytes:Int)*(n:Int)<=281474976710656:=by
  have:((n*i.bytes:Nat):Int)<=281474976710656:=O;rw[Int.natCast_mul]at this;rw[Int.mul_comm];exact this
 have:=run_make (P:=P) w t e i zv (JU ht) hi1 hi4 kl kl n n O (Int.le_refl _) hb h63;rw[this];have e2:i.size=zv.cells.size:=by rw[hi5];simp;omega
 simp only[Int.toNat_natCast,e2,TX,hi5]
theorem Dz{d:Nat}{pos:String}{t e:TypeId}{sz n:Nat}{X Y:Operand}{kl:IntKind}(hx:ev m X=some (.int kl (n:Int)))(hy:ev m Y=some (.int kl (n:Int)))(ht:BU P t=some e)(hs:Zm P e=some (g,sz))(hz:XE P e=some z)(hzl:z.length=sz)(hby:ZP P e=some bytes)(h63:(n:Int)<=9223372036854775807)(h48:n*bytes<=281474976710656)
  (k:∀b,JS P ops Q l N ((d,.slice (some ⟨b,0,none⟩) n n)::m) ⟨w0,F0,(b,.cells (XP z n).toArray e (0,0))::bs,G⟩) (hu:Ga e=true:=by rfl) (hd:J6 N (some d)=true:=by rfl) :
  JS P ops Q (⟨some d,.makeSlice t X Y,ty,pos,aft,none⟩::l) N m ⟨w0,F0,bs,G⟩:=λa w ha hw =>
 wpList_plain rfl λ_ hK=>upon_value (by
  simp only[execOp,ha.ev hx,ha.ev hy,Sem.run_bind,OS ht hs hz hzl hby h63 h48,Result.andThen_ok,Sem.run_pure]) (hK _ _ (k _ _ _ (ha.put hd _) (hw.alloc _ (Xy hu))))
end
end
section
variable[Dr][df:Df]
def Y8(P:Program)(T:TypeId):Option (List (Nat×Nat)):=match P.info? T,P.underlying T with
 |some _,some (.struct fields)=>fields.toList.mapM λf=>(P.info? f.type).map λi=>(f.offset,i.size)
 |_,_=>none
inductive D2(pl:List (Nat×Nat)):List (Nat×Value)->List Value->List Value->Prop
 |nil {l:List Value}:D2 pl [] l l
 |cons {i off sz:Nat} {v:Value} {vs cur cur' res:List Value} {r:List (Nat×Value)} (hf:pl[i]?=some (off,sz)) (hv:v.cells=vs.toArray) (hn:vs.length=sz) (hp:Ym cur off vs cur') (k:D2 pl r cur' res):D2 pl ((i,v)::r) cur res
theorem Aw(off:Nat):∀(vs:List Value) (j:Nat) (cur cur':List Value),Ym cur (off+j) vs cur'->(vs.zipIdx j).foldl (λcs (x:Value×Nat)=>cs.setIfInBounds (off+x.2) x.1) cur.toArray=cur'.toArray
 |[],j,cur,cur',h=>by have:=h.eq;simp at this;simp[this]
 |v::vs,j,cur,cur',h=>by
  have hle:=h.le;have hp2:Ym (cur.set (off+j) v) (off+(j+1)) vs cur':=by
   have key:∀(n:Nat) (cur l':List Value),Ym cur n (v::vs) l'->Ym (cur.set n v) (n+1) vs l':=by
    intro n
    induction n with
    |zero=>intro cur l' h;cases h with | here h=>exact .skip h
    |succ n ih=>intro cur l' h;cases h with | skip h=>exact .skip (ih _ _ h)
   exact key _ _ _ h
  rw[List.zipIdx_cons,List.foldl_cons];have:=Aw off vs (j+1) _ _ hp2;simpa using this
theorem D2.fill{pl:List (Nat×Nat)}{cur res:List Value}(h:D2 pl ps cur res):Instr.fill (pl.toArray[·]?) cur.toArray ps=some res.toArray:=by
 induction h with
 |nil=>rfl
 |cons hf hv hn hp k ih =>
  rename_i i off sz v vs cur cur' res r;have hle:=hp.le;unfold Instr.fill;have e1:pl.toArray[i]?=some (off,sz):=by simpa using hf
  simp only[e1,hv,List.size_toArray,hn,ne_eq,not_true_eq_false,decide_false,Bool.false_or,decide_eq_true_eq];rw[if_neg O];have e2:vs.toArray.zipIdx.foldl (λcs (x:Value×Nat)=>cs.setIfInBounds (off+x.2) x.1) cur.toArray=cur'.toArray:=by
   have:=Aw off vs 0 cur cur' (by simpa using hp);rw[<-this,<-Array.foldl_toList];simp
  rw[e2];exact ih
section
variable{P:Program}{Q:Exit->Act->World->Prop}{N:Nat}{m:Sl}{E E0:Env}{ops:Array Oper}{l:List Oper}
theorem KH{ops':Array Oper}{l':List Oper}(h:JS P ops' Q l' N m E):JD P ops (XO λa w=>wpList P ops' Q l' a w) E0 [] N m E:=λ_=>h
theorem Q3(h:Fin Q .normal N m E):JD P ops (XO (Q .normal)) E0 [] N m E:=λ_=>h
theorem Qe{t:Nat}{b:Bool}(h:look m t=some (.bool b))(ht:b=true->JS P ops Q l N ((t,.bool true)::m) E)(hf:b=false->JS P ops Q l N ((t,.bool false)::m) E):JS P ops Q l N m E:=λa w ha hw=>by
 cases b with
 |true=>exact ht rfl a w ⟨ha.size,ha.df,λi v hi=>by
   simp only[look]at hi;cases hb:Nat.beq t i with
   |true=>rw[hb]at hi;have:t=i:=(by simpa using hb);subst this;exact ha.get _ _ (by rw[h];simpa using hi)
   |false=>rw[hb]at hi;exact ha.get _ _ hi⟩ hw
 |false=>exact hf rfl a w ⟨ha.size,ha.df,λi v hi=>by
   simp only[look]at hi;cases hb:Nat.beq t i with
   |true=>rw[hb]at hi;have:t=i:=(by simpa using hb);subst this;exact ha.get _ _ (by rw[h];simpa using hi)
   |false=>rw[hb]at hi;exact ha.get _ _ hi⟩ hw
theorem Kz{t:Nat}{b:Bool}(h:look m t=some (.bool b))(ht:b=true->JD P ops Q E0 l N ((t,.bool true)::m) E)(hf:b=false->JD P ops Q E0 l N ((t,.bool false)::m) E):JD P ops Q E0 l N m E:=λhE a w ha hw=>by
 cases b with
 |true=>exact ht rfl hE a w ⟨ha.size,ha.df,λi v hi=>by
   simp only[look]at hi;cases hb:Nat.beq t i with
   |true=>rw[hb]at hi;have:t=i:=(by simpa using hb);subst this;exact ha.get _ _ (by rw[h];simpa using hi)
   |false=>rw[hb]at hi;exact ha.get _ _ hi⟩ hw
 |false=>exact hf rfl hE a w ⟨ha.size,ha.df,λi v hi=>by
   simp only[look]at hi;cases hb:Nat.beq t i with
   |true=>rw[hb]at hi;have:t=i:=(by simpa using hb);subst this;exact ha.get _ _ (by rw[h];simpa using hi)
   |false=>rw[hb]at hi;exact ha.get _ _ hi⟩ hw
section
variable{d:Option Tmp}{o:Op}{ty:TypeId}{pos:String}{aft:Array Edge}{g t:Nat}{want:Bool}
theorem QK(hg:(ops[g]?).bind (·.dst)=some t)(hb:look m t=some (.bool want))(ht:JS P ops Q (⟨d,o,ty,pos,aft,none⟩::l) N m E)(hd:J6 N d=true:=by rfl):JS P ops Q (⟨d,o,ty,pos,aft,some (g,want)⟩::l) N m E :=
 uq hg hb (λ_=>ht) (λh=>by cases want<;>cases h) hd
theorem JM(hg:(ops[g]?).bind (·.dst)=some t)(hb:look m t=some (.bool want))(ht:JD P ops Q E0 (⟨d,o,ty,pos,aft,none⟩::l) N m E)(hd:J6 N d=true:=by rfl):JD P ops Q E0 (⟨d,o,ty,pos,aft,some (g,want)⟩::l) N m E :=
 QCT hg hb (λ_=>ht) (λh=>by cases want<;>cases h) hd
theorem QI{d:Nat}{b:Bool}(hg:(ops[g]?).bind (·.dst)=some t)(hb:look m t=some (.bool b))(hw:b=!want)(hf:JS P ops Q l N ((d,undef)::m) E)(hd:J6 N (some d)=true:=by rfl):JS P ops Q (⟨some d,o,ty,pos,aft,some (g,want)⟩::l) N m E :=
 uq hg hb (λh=>by subst h;cases b<;>cases hw) (λ_=>hf) hd
theorem Q8{d:Nat}{b:Bool}(hg:(ops[g]?).bind (·.dst)=some t)(hb:look m t=some (.bool b))(hw:b=!want)(hf:JD P ops Q E0 l N ((d,undef)::m) E)(hd:J6 N (some d)=true:=by rfl):JD P ops Q E0 (⟨some d,o,ty,pos,aft,some (g,want)⟩::l) N m E :=
 QCT hg hb (λh=>by subst h;cases b<;>cases hw) (λ_=>hf) hd
end
theorem dp{x y:Code}(m':Sl)(bs':List (Nat×Obj))(G':Gs->Prop)(h1:J P x (XO λa w=>JY N m' a/\St ⟨w0,F0,bs',G'⟩ w) N m ⟨w0,F0,bs,G⟩)(h2:J P y Q N m' ⟨w0,F0,bs',G'⟩):J P (.seq x y) Q N m ⟨w0,F0,bs,G⟩:=λa w ha hw=>by
 refine wp_seq (wp_mono (h1 a w ha hw) ?_);intro e a' w' h;cases e with
 |normal=>exact h2 a' w' h.1 h.2
 |_=>exact h.elim
theorem JB{m':Sl}{G':Gs->Prop}(hm:Kb m m')(hb:bs'.Sublist bs)(hg:∀F,G F->G' F):Fin (XO λa w=>JY N m' a/\St ⟨w0,F0,bs',G'⟩ w) .normal N m ⟨w0,F0,bs,G⟩ :=
 λa w ha hw=>⟨ha.sub hm,hw.imp hb hg⟩
end
theorem GO{x y:Code}(M:ι->Sl)(B:ι->List (Nat×Obj))(H:ι->Gs->Prop)
  (h1:J P x (XO λa w=>∃i,JY N (M i) a/\St ⟨w0,F0,B i,H i⟩ w) N m ⟨w0,F0,bs,G⟩) (h2:∀i,J P y Q N (M i) ⟨w0,F0,B i,H i⟩):J P (.seq x y) Q N m ⟨w0,F0,bs,G⟩:=λa w ha hw=>by
 refine wp_seq (wp_mono (h1 a w ha hw) ?_);intro e a' w' h;cases e with
 |normal=>obtain⟨i,h3,h4⟩:=h;exact h2 i a' w' h3 h4
 |_=>exact h.elim
theorem Xj{M:ι->Sl}{B:ι->List (Nat×Obj)}{H:ι->Gs->Prop}(i:ι)(hm:Kb m (M i))(hb:(B i).Sublist bs)(hg:∀F,G F->H i F):
  Fin (XO λa w=>∃i,JY N (M i) a/\St ⟨w0,F0,B i,H i⟩ w) .normal N m ⟨w0,F0,bs,G⟩:=λa w ha hw=>⟨i,ha.sub hm,hw.imp hb hg⟩
inductive I4:Sl->Sl->Prop
 |refl {m:Sl}:I4 m m
 |cons {k:Nat} {v:Value} {l m:Sl} (hk:(look m k).isNone=true) (h:I4 l m):I4 ((k,v)::l) m
theorem I4.look{l:Sl}(h:I4 l m){t:Nat}{u:Value}(hu:YtpmehagnedbkhaaGreatDoor.look m t=some u):YtpmehagnedbkhaaGreatDoor.look l t=some u:=by
 induction h with
 |refl=>exact hu
 |cons hk h ih =>
  rename_i k v l m;have hne:Nat.beq k t=false:=by
   cases hb:Nat.beq k t with
   |false=>rfl
   |true=>have:k=t:=(by simpa using hb);subst this;rw[hu]at hk;cases hk
  simp only[YtpmehagnedbkhaaGreatDoor.look,hne,cond_false];exact ih hu
section
variable{P:Program}{Q:Exit->Act->World->Prop}{N:Nat}{m l:Sl}{w0:World}{F0:Gs}{bs bs1:List (Nat×Obj)}{G G1:Gs->Prop}{x y:Code}
theorem Hb(t:Nat)(v:Value)(h1:J P x (XO λa w=>JY N ((t,v)::m) a/\St ⟨w0,F0,bs,G⟩ w) N m ⟨w0,F0,bs,G⟩)(h2:J P y Q N ((t,v)::m) ⟨w0,F0,bs,G⟩):J P (.seq x y) Q N m ⟨w0,F0,bs,G⟩:=dp _ _ _ h1 h2
theorem Xn{t:Nat}{v:Value}(he:I4 l m)(ht:look l t=some v)(hb:bs.Sublist bs1)(hg:∀F,G1 F->G F):Fin (XO λa w=>JY N ((t,v)::m) a/\St ⟨w0,F0,bs,G⟩ w) .normal N l ⟨w0,F0,bs1,G1⟩:=λa w ha hw =>
 ⟨⟨ha.size,ha.df,λi u hi=>by
  simp only[look]at hi;cases hb:Nat.beq t i with
  |true=>rw[hb]at hi;have:t=i:=(by simpa using hb);subst this;exact ha.get _ _ (by rw[ht];simpa using hi)
  |false=>rw[hb]at hi;exact ha.get _ _ (he.look (by simpa using hi))⟩,hw.imp hb hg⟩
end
section
variable{P:Program}{N:Nat}{m:Sl}{S:World->Prop}{ty:TypeId}{v:Value}
theorem Qa{c:Operand}(hc:ev m c=some (.bool true))(hx:ev m x=some v)(hy:(ev m y).isSome=true):Qt P N m S (.pick c x y) ty v:=by
 obtain⟨u,hu⟩:=Option.isSome_iff_exists.1 hy;exact jJ hc hx hu
theorem QY{c:Operand}(hc:ev m c=some (.bool false))(hx:(ev m x).isSome=true)(hy:ev m y=some v):Qt P N m S (.pick c x y) ty v:=by
 obtain⟨u,hu⟩:=Option.isSome_iff_exists.1 hx;exact jJ hc hu hy
theorem pe{T:TypeId}{a:Int}(hx:ev m x=some (.int .i64 a))(hy:ev m y=some (.int .i64 1))(h:0<=a):Qt P N m S (.binOp .and T x y yT) ty (.int .i64 (a%2)):=λs w _ _ _ _ ha _=>by
 have e:IntKind.i64.wrap (((BitVec.ofInt 64 a &&& BitVec.ofInt 64 1).toNat:Nat):Int)=a%2:=by
  have h1:(BitVec.ofInt 64 (1:Int)).toNat=1:=rfl;rw[BitVec.toNat_and,h1,Nat.and_one_is_mod,BitVec.toNat_ofInt];have h2:((((a%((2^64:Nat):Int)).toNat%2:Nat)):Int)=a%2:=by
   have h3:(((2^64:Nat):Int))=18446744073709551616:=wu;rw[h3];omega
  rw[h2];exact Aj O
 have h1:BitVec.ofInt 64 (1:Int)=1#64:=rfl;rw[h1]at e;simp[execOp,ha.ev hx,ha.ev hy,eqGuard,binOp,Op.intBits,IntKind.bits];exact e
theorem jG{T:TypeId}{k:IntKind}{a:Int}(hx:ev m x=some (.int .i64 a))(hy:ev m y=some (.int k 1)):Qt P N m S (.binOp .shr T x y yT) ty (.int .i64 (a/2)):=λs w _ _ _ _ ha _=>by
 have e:a.fdiv 2=a/2:=Int.fdiv_eq_ediv_of_nonneg a wu;simp[execOp,ha.ev hx,ha.ev hy,eqGuard,binOp,Op.shift,IntKind.bits,e]
theorem Wn{T e:TypeId}{c:Nat}(hx:ev m x=some (.slice q n c))(hy:ev m y=some (.slice none 0 0))(hT:BU P T=some e):Qt P N m S (.binOp .eql T x y yT) ty (.bool q.isNone):=λa w _ _ _ _ ha _=>by
 have:=Lib.run_eql_slice_nil (P:=P) w T e q n c 0 0 (JU hT);simp[execOp,ha.ev hx,ha.ev hy,eqGuard,this]
theorem XL{T:TypeId}{parts:Array (Nat×Operand)}{pl:List (Nat×Nat)}{res:List Value}(hp:Vo m parts.toList=some ps)(hl:Y8 P T=some pl)(hz:XE P T=some z)(hb:D2 pl ps z res):Qt P N m S (.build T parts) ty (.agg res.toArray):=λa w _ _ _ _ ha _=>by
 have hbt:P.built T ps=some res.toArray:=by
  unfold Y8 at hl;unfold XE at hz;unfold Program.built;cases hi:P.info? T with
  |none=>rw[hi]at hl;cases hl
  |some i =>
   rw[hi]at hl hz;cases hu:P.underlying T with
   |none=>rw[hu]at hl;cases hl
   |some d =>
    rw[hu]at hl;cases d with
    |struct fields =>
     dsimp only at hl hz ⊢;cases hzz:i.zero with
     |none=>rw[hzz]at hz;cases hz
     |some zv =>
      rw[hzz]at hz;simp only[Option.map_some,Option.some.injEq]at hz;rw[hl];have:=hb.fill;rw[<-hz]at this;simpa using this
    |_=>cases hl
 have e1:(parts.map λ(i,x)=>(i,a.eval x)).toList=ps:=by simpa using ha.parts hp
 have:=run_build (P:=P) w T (parts.map λ(i,x)=>(i,a.eval x)) _ (by rw[e1];exact hbt);simp only[execOp,Sem.run_bind,this,Result.andThen_ok,Sem.run_pure]
end
end
def QFs(n:Nat)(l:Sl):Bool:=(l.take n).all λkv=>(look (l.drop n) kv.1).isNone
theorem exd(n:Nat){l m:Sl}(hb:QFs n l=true)(hm:l.drop n=m):I4 l m:=by
 subst hm;unfold QFs at hb;have key:∀(a m:Sl),(a.all λkv=>(look m kv.1).isNone)=true->I4 (a++m) m:=by
  intro a m
  induction a with
  |nil=>intro _;exact .refl
  |cons x a ih =>
   intro h;rw[List.all_cons,Bool.and_eq_true]at h;exact .cons h.1 (ih h.2)
 have:=key _ _ hb
 rwa [List.take_append_drop]at this
theorem QHT[Dr]{P:Program}{N:Nat}{m:Sl}{w0:World}{F0:Gs}{fn:Func}{val:Unit->Value}{fact:Unit->Gs->Prop}{bs:List (Nat×Obj)}{G:Gs->Prop}{t:Tmp}{v:Value}(hrs:fn.results=[ResultVar.tmp t].toArray)(h:look m t=some v)(hv:val ()=v)(hg:∀F,G F->fact () F):Fin (df:=WM) (bodyPost P fn (RP w0 F0 val fact)) .ret N m ⟨w0,F0,bs,G⟩ :=
 QO () hrs (.tmp h .nil) hv hg
def Gf.u1{x0:Nat×Obj}{r:List (Nat×Obj)}:Gf (x0::(b,o)::r) b o (λo'=>x0::(b,o')::r) (x0::r):=.there (.here)
def Gf.u2{x0:Nat×Obj}{r:List (Nat×Obj)}:Gf (x0::x1::(b,o)::r) b o (λo'=>x0::x1::(b,o')::r) (x0::x1::r):=.there (.there (.here))
def Gf.u3{x0 x2:Nat×Obj}{r:List (Nat×Obj)}:Gf (x0::x1::x2::(b,o)::r) b o (λo'=>x0::x1::x2::(b,o')::r) (x0::x1::x2::r):=.there (.there (.there (.here)))
def Gf.u4{x0 x2 x3:Nat×Obj}{r:List (Nat×Obj)}:Gf (x0::x1::x2::x3::(b,o)::r) b o (λo'=>x0::x1::x2::x3::(b,o')::r) (x0::x1::x2::x3::r):=.there (.there (.there (.there (.here))))
def Gf.u5{x0 x2 x3 x4:Nat×Obj}{r:List (Nat×Obj)}:Gf (x0::x1::x2::x3::x4::(b,o)::r) b o (λo'=>x0::x1::x2::x3::x4::(b,o')::r) (x0::x1::x2::x3::x4::r):=.there (.there (.there (.there (.there (.here)))))
def Gf.u6{x0 x2 x3 x4 x5:Nat×Obj}{r:List (Nat×Obj)}:Gf (x0::x1::x2::x3::x4::x5::(b,o)::r) b o (λo'=>x0::x1::x2::x3::x4::x5::(b,o')::r) (x0::x1::x2::x3::x4::x5::r):=.there (.there (.there (.there (.there (.there (.here))))))
theorem wM{a b:Int}(h:a=b:=by omega):some (Value.int .i64 a)=some (Value.int .i64 b):=congrArg (λz:Int=>some (Value.int .i64 z)) h
def wN{t:Tmp}{v:Value}(h:look m t=some v):Dw P m bs [.tmp t] [v]:=.tmp h .nil
def wO{t t':Tmp}{v v':Value}(h:look m t=some v)(h':look m t'=some v'):Dw P m bs [.tmp t,.tmp t'] [v,v']:=.tmp h (.tmp h' .nil)
def wP{pl:List (Nat×Nat)}{v a b x y:Value}(hf:pl=[(0,1),(1,1)])(ha:u.cells=[a].toArray)(hb:v.cells=[b].toArray):D2 pl [(0,u),(1,v)] [x,y] [a,b]:=by subst hf;exact .cons (vs:=[a]) I ha rfl .h1 (.cons (vs:=[b]) I hb rfl (.skip .h1) .nil)
def wH[Dr][df:Df]{P:Program}{N:Nat}{m:Sl}{w0:World}{F0:Gs}{bs:List (Nat×Obj)}{G:Gs->Prop}{T T' ty:TypeId}{x:Operand}{b:Nat}{l:List Value}{u0 u1:Value}{fr:Nat×Nat}{f:Obj->List (Nat×Obj)}(h:ev m x=some (.pointer (some ⟨b,0,none⟩)))(ht:Zm P T=some (true,2))(ho:Own bs b (.cells (u0::u1::l).toArray T' fr) f):Qt P N m (St ⟨w0,F0,bs,G⟩) (.load T x) ty (.agg [u0,u1].toArray):=QR (vs:=[u0,u1]) h ht ho .h2 rfl
def wI[Dr][df:Df]{P:Program}{N:Nat}{m:Sl}{w0:World}{F0:Gs}{bs:List (Nat×Obj)}{G:Gs->Prop}{T T' ty:TypeId}{x:Operand}{b:Nat}{l:List Value}{u0 u1 u2:Value}{fr:Nat×Nat}{f:Obj->List (Nat×Obj)}(h:ev m x=some (.pointer (some ⟨b,0,none⟩)))(ht:Zm P T=some (true,3))(ho:Own bs b (.cells (u0::u1::u2::l).toArray T' fr) f):Qt P N m (St ⟨w0,F0,bs,G⟩) (.load T x) ty (.agg [u0,u1,u2].toArray):=QR (vs:=[u0,u1,u2]) h ht ho .h3 rfl
def wJ[Dr][df:Df]{P:Program}{N:Nat}{m:Sl}{w0:World}{F0:Gs}{bs:List (Nat×Obj)}{G:Gs->Prop}{T T' ty:TypeId}{x:Operand}{b:Nat}{l:List Value}{u0 u1 u2 u3:Value}{fr:Nat×Nat}{f:Obj->List (Nat×Obj)}(h:ev m x=some (.pointer (some ⟨b,0,none⟩)))(ht:Zm P T=some (true,4))(ho:Own bs b (.cells (u0::u1::u2::u3::l).toArray T' fr) f):Qt P N m (St ⟨w0,F0,bs,G⟩) (.load T x) ty (.agg [u0,u1,u2,u3].toArray):=QR (vs:=[u0,u1,u2,u3]) h ht ho .h4 rfl
def wK[Dr][df:Df]{P:Program}{N:Nat}{m:Sl}{w0:World}{F0:Gs}{bs:List (Nat×Obj)}{G:Gs->Prop}{T T' ty:TypeId}{x:Operand}{b:Nat}{l:List Value}{u0 u1 u2 u3 u4 u5 u6 u7:Value}{fr:Nat×Nat}{f:Obj->List (Nat×Obj)}(h:ev m x=some (.pointer (some ⟨b,0,none⟩)))(ht:Zm P T=some (true,8))(ho:Own bs b (.cells (u0::u1::u2::u3::u4::u5::u6::u7::l).toArray T' fr) f):Qt P N m (St ⟨w0,F0,bs,G⟩) (.load T x) ty (.agg [u0,u1,u2,u3,u4,u5,u6,u7].toArray):=QR (vs:=[u0,u1,u2,u3,u4,u5,u6,u7]) h ht ho .h8 rfl
def wL[Dr][df:Df]{P:Program}{N:Nat}{m:Sl}{w0:World}{F0:Gs}{bs:List (Nat×Obj)}{G:Gs->Prop}{T T' ty:TypeId}{x:Operand}{b:Nat}{l:List Value}{a0 a1 a2 a3 u0 u1 u2 u3:Value}{fr:Nat×Nat}{f:Obj->List (Nat×Obj)}(h:ev m x=some (.pointer (some ⟨b,4,none⟩)))(ht:Zm P T=some (true,4))(ho:Own bs b (.cells (a0::a1::a2::a3::u0::u1::u2::u3::l).toArray T' fr) f):Qt P N m (St ⟨w0,F0,bs,G⟩) (.load T x) ty (.agg [u0,u1,u2,u3].toArray):=QR (vs:=[u0,u1,u2,u3]) h ht ho (.skip (.skip (.skip (.skip .h4)))) I

section
open Go Go.RowKit
section
variable[Dr][df:Df]
inductive AFr where
 |th (y:Code) | bl (id:Nat)
inductive AG where
 |j (c:Code) | s (ops:Array Oper) (l:List Oper) | f (e:Exit)
variable{P:Program}{Q:Exit->Act->World->Prop}{N:Nat}{m m':Sl}{E:Env}
@[reducible] def wC (P:Program) (Q:Exit->Act->World->Prop):List AFr->Exit->Act->World->Prop
 |[]=>Q
 |.th y::r=>Exit.then (y.wp P (wC P Q r)) (wC P Q r)
 |.bl id::r=>Exit.inBlock id (wC P Q r)
@[reducible] def wD (P:Program) (Q:Exit->Act->World->Prop) (N:Nat) (E:Env):AG->List AFr->Sl->Prop
 |.j c,st,m=>J P c (wC P Q st) N m E
 |.s ops l,st,m=>JS P ops (wC P Q st) l N m E
 |.f e,st,m=>Fin (wC P Q st) e N m E
def wE(m:Sl):Op->Option Value
 |.move x=>ev m x
 |.assign x=>ev m x
 |.binOp op _ x y _=>(ev m x).bind λvx=>(ev m y).bind λvy=>L4 op vx vy
 |.pick c x y=>match ev m c with
  |some (.bool true)=>if(ev m y).isSome then ev m x else none
  |some (.bool false)=>if(ev m x).isSome then ev m y else none
  |_=>none
 |.extract x i=>match ev m x with
  |some (.tuple vs)=>vs[i]?
  |_=>none
 |_=>none
def wF(N:Nat):AG->List AFr->Sl->Option (AG×List AFr×Sl)
 |.j (.seq x y),st,m=>some (.j x,.th y::st,m)
 |.j (.region _ ⟨l⟩ false),st,m=>some (.s l.toArray l,st,m)
 |.j (.block id c),st,m=>some (.j c,.bl id::st,m)
 |.j .skip,st,m=>some (.f .normal,st,m)
 |.j .ret,st,m=>some (.f .ret,st,m)
 |.j (.exit id),st,m=>some (.f (.exit id),st,m)
 |.f .normal,.th y::st,m=>some (.j y,st,m)
 |.f .normal,.bl _::st,m=>some (.f .normal,st,m)
 |.f (.exit i),.th _::st,m=>some (.f (.exit i),st,m)
 |.f (.exit i),.bl id::st,m=>match Nat.beq i id with
  |true=>some (.f .normal,st,m)
  |false=>some (.f (.exit i),st,m)
 |.f .ret,_::st,m=>some (.f .ret,st,m)
 |.s _ [],st,m=>some (.f .normal,st,m)
 |.s ops (⟨some d,o,_,_,_,none⟩::l),st,m=>match wE m o,J6 N (some d)with
  |some v,true=>some (.s ops l,st,(d,v)::m)
  |_,_=>none
 |.s ops (⟨d,o,ty,pos,aft,some (g,want)⟩::l),st,m=>match ((ops[g]?).bind (·.dst)).bind (look m),J6 N d with
  |some (.bool b),true=>match Bool.xor b want with
   |false=>some (.s ops (⟨d,o,ty,pos,aft,none⟩::l),st,m)
   |true=>some (.s ops l,st,upd m d undef)
  |_,_=>none
 |_,_,_=>none
def wG(N:Nat):Nat->AG->List AFr->Sl->Option (AG×List AFr×Sl)
 |0,g,st,m=>some (g,st,m)
 |n+1,g,st,m=>match wF N g st m with
  |some (g',st',m')=>wG N n g' st' m'
  |none=>none
theorem QFu{S:World->Prop}{o:Op}{v:Value}(h:wE m o=some v):Qt P N m S o ty v:=by
 unfold wE at h;split at h
 ·exact QC h
 ·exact QF h
 ·obtain⟨vx,h1,h2⟩:=Option.bind_eq_some_iff.1 h;obtain⟨vy,h3,h4⟩:=Option.bind_eq_some_iff.1 h2;exact QN h1 h3 h4
 ·split at h
  ·rename_i hc;split at h
   ·rename_i hy;exact Qa hc h hy
   cases h
  ·rename_i hc;split at h
   ·rename_i hy;exact QY hc hy h
   cases h
  cases h
 ·split at h
  ·rename_i hx;exact QX hx h
  cases h
 cases h
theorem QE9{g g':AG}{st st':List AFr}(h:wF N g st m=some (g',st',m'))(k:wD P Q N E g' st' m'):wD P Q N E g st m:=by
 unfold wF at h;split at h
 ·cases h;exact QG k
 ·cases h;exact QB k
 ·cases h;exact QS k
 ·cases h;exact QM k
 ·cases h;exact QT k
 ·cases h;exact Qv k
 ·cases h;exact QD k
 ·cases h;exact Qi k
 ·cases h;exact QV k
 ·split at h
  ·rename_i he;cases h;have he:=Nat.eq_of_beq_eq_true he;subst he;exact QW k
  rename_i he;cases h;exact QQ he k
 ·rename_i fr _;cases h;cases fr with
  |th y=>exact Qw k
  |bl id=>exact Qp k
 ·cases h;exact QE k
 ·split at h
  ·rename_i hv hd;cases h;exact QA (QFu hv) k hd
  cases h
 ·split at h
  ·rename_i hb hd;obtain⟨t,h1,h2⟩:=Option.bind_eq_some_iff.1 hb;split at h
   ·rename_i hx;cases h;exact uq h1 h2 (λ_=>k) (λe=>by subst e;simp at hx) hd
   rename_i hx;cases h;exact uq h1 h2 (λe=>by subst e;simp at hx) (λ_=>k) hd
  cases h
 cases h
theorem CS:∀(n:Nat) {g g':AG} {st st':List AFr} {m m':Sl},wG N n g st m=some (g',st',m')->wD P Q N E g' st' m'->wD P Q N E g st m
 |0,g,g',st,st',m,m',h,k=>by cases h;exact k
 |n+1,g,g',st,st',m,m',h,k=>by
  unfold wG at h;split at h
  ·rename_i h1;exact QE9 h1 (CS n h k)
  cases h
variable(n:Nat){g':AG}{st':List AFr}
theorem wA{c:Code}(h:wG N n (.j c) [] m=some (g',st',m'))(k:wD P Q N E g' st' m'):J P c Q N m E:=CS (g:=.j c) (st:=[]) n h k
theorem wB{l:List Oper}(h:wG N n (.s ops l) [] m=some (g',st',m'))(k:wD P Q N E g' st' m'):JS P ops Q l N m E:=CS (g:=.s ops l) (st:=[]) n h k
theorem QHC{c y:Code}(h:wG N n (.j c) [.th y] m=some (g',st',m'))(k:wD P Q N E g' st' m'):J P c (Exit.then (y.wp P Q) Q) N m E:=CS (g:=.j c) (st:=[.th y]) n h k
theorem QHB{l:List Oper}{y:Code}(h:wG N n (.s ops l) [.th y] m=some (g',st',m'))(k:wD P Q N E g' st' m'):JS P ops (Exit.then (y.wp P Q) Q) l N m E:=CS (g:=.s ops l) (st:=[.th y]) n h k
theorem QHD{y:Code}(h:wG N n (.f .normal) [.th y] m=some (g',st',m'))(k:wD P Q N E g' st' m'):Fin (Exit.then (y.wp P Q) Q) .normal N m E:=CS (g:=.f .normal) (st:=[.th y]) n h k
end
end
theorem Qu:Zm prog 3=some (false,1):=wm
theorem BR:XE prog 3=some [.int .i64 0]:=wm
theorem D7:ZP prog 3=some 8:=wm
theorem k_3:SY prog 3=some .i64:=wm
theorem QAo:(prog.underlying 3).isSome=true:=wm
theorem WA:Zm prog 4=some (false,1):=wm
theorem QAq:Zm prog 5=some (false,1):=wm
theorem z_5:XE prog 5=some [.int .u8 0]:=wm
theorem QE6:ZP prog 5=some 1:=wm
theorem QEI:(prog.underlying 5).isSome=true:=wm
theorem Hx:Zm prog 9=some (false,1):=wm
theorem z_9:XE prog 9=some [.string .empty]:=wm
theorem QBy:ZP prog 9=some 16:=wm
theorem XC:Gw prog 9=true:=wm
theorem Jk:Zm prog 41=some (false,1):=wm
theorem pB:XE prog 41=some [.string .empty]:=wm
theorem QB0:ZP prog 41=some 16:=wm
theorem WH:Gw prog 41=true:=wm
theorem Xx:Zm prog 56=some (true,2):=wm
theorem EA:XE prog 56=some [.string .empty,.string .empty]:=wm
theorem cj:ZP prog 56=some 32:=wm
theorem UC:Y8 prog 56=some [(0,1),(1,1)]:=wm
theorem H4:VS prog 56 0=some (0,41):=wm
theorem Bo:VS prog 56 1=some (1,41):=wm
theorem WE:Zm prog 32=some (false,1):=wm
theorem RQ:XE prog 32=some [.int .i64 0]:=wm
theorem WG:Zm prog 24=some (false,1):=wm
theorem YP:BU prog 24=some 56:=wm
theorem Rt:Zm prog 37=some (false,1):=wm
theorem QEH:XE prog 37=some [.slice none 0 0]:=wm
theorem QD6:ZP prog 37=some 24:=wm
theorem K3:BU prog 37=some 41:=wm
theorem Gh:Zm prog 28=some (false,1):=wm
theorem vm:XE prog 28=some [.slice none 0 0]:=wm
theorem QD7:ZP prog 28=some 24:=wm
theorem ZI:BU prog 28=some 54:=wm
theorem H9:Zm prog 23=some (false,1):=wm
theorem W1:BU prog 23=some 28:=wm
theorem Q5:Zm prog 52=some (false,1):=wm
theorem Qk:BU prog 52=some 3:=wm
theorem Zl:Zm prog 54=some (true,2):=wm
theorem Ro:XE prog 54=some [.string .empty,.slice none 0 0]:=wm
theorem QBz:ZP prog 54=some 40:=wm
theorem cK:Y8 prog 54=some [(0,1),(1,1)]:=wm
theorem G5:VS prog 54 0=some (0,41):=wm
theorem KB:VS prog 54 1=some (1,52):=wm
theorem GQ:Zm prog 91=some (false,1):=wm
theorem Vj:BU prog 91=some 289:=wm
theorem Qo:Zm prog 93=some (true,2):=wm
theorem GY:XE prog 93=some [.int .i64 0,.slice none 0 0]:=wm
theorem QBJ:Y8 prog 93=some [(0,1),(1,1)]:=wm
theorem Pk:VS prog 93 0=some (0,3):=wm
theorem EU:VS prog 93 1=some (1,91):=wm
theorem Ql:Zm prog 95=some (true,4):=wm
theorem KM:XE prog 95=some [.int .i64 0,.slice none 0 0,.int .i64 0,.slice none 0 0]:=wm
theorem QD5:ZP prog 95=some 64:=wm
theorem U2:Y8 prog 95=some [(0,2),(2,2)]:=wm
theorem KA:VS prog 95 0=some (0,93):=wm
theorem Y9:VS prog 95 1=some (2,93):=wm
theorem XM:Zm prog 229=some (true,8):=wm
theorem VI:XE prog 229=some [.int .i64 0,.slice none 0 0,.int .i64 0,.slice none 0 0,.int .i64 0,.slice none 0 0,.int .i64 0,.slice none 0 0]:=wm
theorem IH:Y8 prog 229=some [(0,4),(4,4)]:=wm
theorem YI:VS prog 229 0=some (0,95):=wm
theorem YZ:VS prog 229 1=some (4,95):=wm
theorem Q9:Zm prog 123=some (true,2):=wm
theorem ZB:XE prog 123=some [.bool false,.slice none 0 0]:=wm
theorem jV:Y8 prog 123=some [(0,1),(1,1)]:=wm
theorem KC:VS prog 123 0=some (0,4):=wm
theorem XW:VS prog 123 1=some (1,52):=wm
theorem Vg:Zm prog 87=some (false,1):=wm
theorem qH:XE prog 87=some [.slice none 0 0]:=wm
theorem dQ:ZP prog 87=some 24:=wm
theorem ZA:BU prog 87=some 101:=wm
theorem Er:Zm prog 90=some (true,25):=wm
theorem yE:XE prog 90=some [.int .i64 0,.int .i64 0,.int .i64 0,.int .i64 0,.int .i64 0,.int .i64 0,.int .i64 0,.int .i64 0,.int .i64 0,.int .i64 0,.int .i64 0,.int .i64 0,.int .i64 0,.int .i64 0,.int .i64 0,.int .i64 0,.int .i64 0,.int .i64 0,.int .i64 0,.int .i64 0,.int .i64 0,.int .i64 0,.int .i64 0,.int .i64 0,.int .i64 0]:=wm
theorem Ju:Zm prog 101=some (true,5):=wm
theorem Ye:XE prog 101=some [.int .i64 0,.slice none 0 0,.int .i64 0,.slice none 0 0,.slice none 0 0]:=wm
theorem CO:ZP prog 101=some 88:=wm
theorem U4:Y8 prog 101=some [(0,4),(4,1)]:=wm
theorem Ya:VS prog 101 0=some (0,95):=wm
theorem ZK:VS prog 101 1=some (4,52):=wm
theorem Gv:Zm prog 107=some (false,1):=wm
theorem KS:BU prog 107=some 87:=wm
theorem Hy:Zm prog 116=some (false,1):=wm
theorem vo:XE prog 116=some [.slice none 0 0]:=wm
theorem uY:ZP prog 116=some 24:=wm
theorem X4:BU prog 116=some 95:=wm
theorem Y4:BU prog 226=some 32:=wm
theorem dC:SY prog 212=some .u64:=wm
theorem Nr:Zm prog 289=some (false,1):=wm
theorem QAl:XE prog 289=some [.int .u64 0]:=wm
theorem YR:Zm prog 22=some (false,1):=wm
theorem Yf:BU prog 22=some 9:=wm
theorem EC:Zm prog 342=some (false,1):=wm
theorem Gu:Zm prog 343=some (false,1):=wm
theorem Fz:BU prog 343=some 5:=wm
theorem vj:XE prog 345=some [.pointer none,.slice none 0 0]:=wm
theorem Tk:VS prog 345 0=some (0,342):=wm
theorem M3:VS prog 345 1=some (1,343):=wm
theorem mixed:prog.follows .mixedOrders=true:=wm
end Go.Proofs.YtpmehagnedbkhaaGreatDoor
namespace Ig
def dv(b:Int):List Int->Int
 |[]=>0
 |x::l=>x+b*dv b l
def DG(b:Int)(l:List Int):Prop:=∀x∈l,0<=x/\x<b
def NZ(l:List Int):Prop:=l.getLast?≠some 0
@[simp] theorem To (b:Int):dv b []=0:=rfl
@[simp] theorem Yb (b x:Int) (l:List Int):dv b (x::l)=x+b*dv b l:=rfl
theorem ZV(b:Int)(l m:List Int):dv b (l++m)=dv b l+b^l.length*dv b m:=by
 induction l with
 |nil=>simp
 |cons x l ih=>simp only[List.cons_append,Yb,ih,List.length_cons];rw[Int.pow_succ];grind
def XX(b x:Int)(l:List Int):dv b (l++[x])=dv b l+b^l.length*x:=by
 rw[ZV];simp
def DG.nil(b:Int):DG b []:=by intro x hx;cases hx
def DG.cons{b x:Int}{l:List Int}(h0:0<=x)(h1:x<b)(h:DG b l):DG b (x::l):=by
 intro y hy;rcases List.mem_cons.1 hy with rfl | hy
 ·exact⟨h0,h1⟩
 exact h y hy
def DG.head{b x:Int}{l:List Int}(h:DG b (x::l)):0<=x/\x<b:=h x wz
def DG.tail{b x:Int}{l:List Int}(h:DG b (x::l)):DG b l:=λy hy=>h y (by simp[hy])
def DG.append{b:Int}{l m:List Int}(h:DG b l)(k:DG b m):DG b (l++m):=by
 intro x hx;rcases List.mem_append.1 hx with hx | hx
 ·exact h x hx
 exact k x hx
def DG.left{b:Int}{l m:List Int}(h:DG b (l++m)):DG b l:=λx hx=>h x (by simp[hx])
def DG.right{b:Int}{l m:List Int}(h:DG b (l++m)):DG b m:=λx hx=>h x (by simp[hx])
def DG.take{b:Int}{l:List Int}(h:DG b l)(n:Nat):DG b (l.take n):=λx hx=>h x (List.mem_of_mem_take hx)
def DG.drop{b:Int}{l:List Int}(h:DG b l)(n:Nat):DG b (l.drop n):=λx hx=>h x (List.mem_of_mem_drop hx)
def DG.replicate{b:Int}(hb:0<b)(n:Nat):DG b (List.replicate n 0):=by
 intro x hx;have:=List.eq_of_mem_replicate hx;omega
def DG.getD{b:Int}{l:List Int}(hb:0<b)(h:DG b l)(i:Nat):0<=l.getD i 0/\l.getD i 0<b:=by
 by_cases hi:i<l.length
 ·have:l.getD i 0=l[i]:=by simp[List.getD,hi]
  rw[this];exact h _ (List.getElem_mem hi)
 have:l.getD i 0=0:=by simp[List.getD,hi]
 omega
def DG.set{b:Int}{l:List Int}(h:DG b l)(i:Nat){x:Int}(h0:0<=x)(h1:x<b):DG b (l.set i x):=by
 intro y hy;rcases List.mem_or_eq_of_mem_set hy with hy | rfl
 ·exact h y hy
 exact⟨h0,h1⟩
def pow_pos{b:Int}(hb:0<b)(n:Nat):0<b^n:=Int.pow_pos hb
def YT{b:Int}(hb:1<=b){m n:Nat}(h:m<=n):b^m<=b^n:=by
 obtain⟨k,rfl⟩:=Nat.exists_eq_add_of_le h;rw[Int.pow_add];have h1:=pow_pos (b:=b) O m;have h2:=pow_pos (b:=b) O k;have h3:b^m*1<=b^m*b^k:=Int.mul_le_mul_of_nonneg_left O O;omega
def Q4{b:Int}(hb:0<b):∀ {l:List Int},DG b l->0<=dv b l
 |[],_=>wz
 |x::l,h=>by
  have:=Q4 hb h.tail;have:=Int.mul_nonneg (Int.le_of_lt hb) this;have:=h.head;simp;omega
def YB{b:Int}(hb:0<b):∀ {l:List Int},DG b l->dv b l<b^l.length
 |[],_=>wz
 |x::l,h=>by
  have h1:=YB hb h.tail;have h2:=h.head;have h3:b*(dv b l+1)<=b*b^l.length:=Int.mul_le_mul_of_nonneg_left O (Int.le_of_lt hb);rw[List.length_cons,Int.pow_succ,Int.mul_comm (b^l.length) b];rw[Int.mul_add]at h3;simp;omega
def Pp(b:Int)(n:Nat):dv b (List.replicate n 0)=0:=by
 induction n with
 |zero=>rfl
 |succ n ih=>simp[List.replicate_succ,ih]
def Ks(b:Int)(l:List Int)(n:Nat)(h:n<=l.length):dv b l=dv b (l.take n)+b^n*dv b (l.drop n):=by
 have:=ZV b (l.take n) (l.drop n);rw[List.take_append_drop,List.length_take,Nat.min_eq_left h]at this;exact this
def Wi{α:Type}(l:List α)(n:Nat)(h:n<l.length):l.take (n+1)=l.take n++[l[n]]:=by
 rw[List.take_succ_eq_append_getElem h]
def GL(b:Int)(l:List Int)(n:Nat)(h:n<l.length):dv b (l.take (n+1))=dv b (l.take n)+b^n*l[n]:=by
 rw[Wi l n h,XX,List.length_take,Nat.min_eq_left O]
def Dj{b:Int}(hb:0<b){l:List Int}(h:DG b l)(hn:NZ l)(hl:l≠[]):b^(l.length-1)<=dv b l:=by
 obtain⟨m,x,rfl⟩:∃m x,l=m++[x]:=⟨l.dropLast,l.getLast hl,(List.dropLast_concat_getLast hl).symm⟩;rw[XX];have h1:x≠0:=by intro e;subst e;exact hn wz
 have h2:=h x wz;have h3:=Q4 hb h.left;have h4:=pow_pos hb m.length;have h5:b^m.length*1<=b^m.length*x:=Int.mul_le_mul_of_nonneg_left O O;simp;omega
def JA(l:List Int):List Int:=(l.reverse.dropWhile (·==0)).reverse
def YX(l:List Int):JA (l++[0])=JA l:=by simp[JA]
def W4(l:List Int){x:Int}(h:x≠0):JA (l++[x])=l++[x]:=by simp[JA,h]
def Rv:JA []=[]:=rfl
def Fy(l:List Int):l=[]\/∃m x,l=m++[x]:=by
 by_cases hl:l=[]
 ·exact .inl hl
 exact .inr ⟨l.dropLast,l.getLast hl,(List.dropLast_concat_getLast hl).symm⟩
def UZ{P:List Int->Prop}(h0:P [])(h1:∀l x,P l->P (l++[x]))(l:List Int):P l:=by
 have:∀m:List Int,P m.reverse:=by
  intro m;induction m with
  |nil=>exact h0
  |cons x m ih=>rw[List.reverse_cons];exact h1 _ _ ih
 simpa using this l.reverse
def Nu(l:List Int):∃n,l=JA l++List.replicate n 0:=by
 induction l using UZ with
 |h0=>exact⟨0,rfl⟩
 |h1 l x ih =>
  by_cases hx:x=0
  ·subst hx;obtain⟨n,hn⟩:=ih;refine⟨n+1,?_⟩;rw[YX,List.replicate_succ',<-List.append_assoc,<-hn]
  exact⟨0,by rw[W4 l hx];simp⟩
def BX(l:List Int):JA l=l.take (JA l).length:=by
 obtain⟨n,hn⟩:=Nu l;have:l.take (JA l).length=(JA l++List.replicate n 0).take (JA l).length:=by rw[<-hn]
 rw[this];simp
def Xp(l:List Int):(JA l).length<=l.length:=by
 obtain⟨n,hn⟩:=Nu l;have:=congrArg List.length hn;simp at this;omega
def XG(b:Int)(l:List Int):dv b (JA l)=dv b l:=by
 obtain⟨n,hn⟩:=Nu l;have:dv b l=dv b (JA l++List.replicate n 0):=by rw[<-hn]
 rw[this,ZV,Pp];simp
def Xm(l:List Int):NZ (JA l):=by
 induction l using UZ with
 |h0=>simp[Rv,NZ]
 |h1 l x ih =>
  by_cases hx:x=0
  ·subst hx;rw[YX];exact ih
  rw[W4 l hx];simp[NZ,hx]
def DG.JA{b:Int}{l:List Int}(h:DG b l):DG b (JA l):=by rw[BX];exact h.take _
def Pr{b:Int}(hb:0<b):∀ {l m:List Int},DG b l->DG b m->l.length=m.length->dv b l=dv b m->l=m
 |[],[],_,_,_,_=>rfl
 |x::l,y::m,h,k,hl,e=>by
  have h1:=h.head;have h2:=k.head;simp only[Yb]at e;have e1:x=y:=by
   have a1:(x+b*dv b l)%b=x:=by rw[Int.add_mul_emod_self_left];exact Int.emod_eq_of_lt h1.1 h1.2
   have a2:(y+b*dv b m)%b=y:=by rw[Int.add_mul_emod_self_left];exact Int.emod_eq_of_lt h2.1 h2.2
   rw[<-a1,<-a2,e]
  subst e1;have e2:b*dv b l=b*dv b m:=O;have e3:=Int.eq_of_mul_eq_mul_left O e2;rw[Pr hb h.tail k.tail (by simpa using hl) e3]
def Xi{b:Int}(hb:1<b){l m:List Int}(h:DG b l)(k:DG b m)(km:NZ m)(hl:l.length<m.length):dv b l<dv b m:=by
 have h1:=YB O h;have h2:=Dj O k km (by intro e;subst e;simp at hl);have h3:b^l.length<=b^(m.length-1):=YT O O;omega
def xN{b:Int}(hb:1<b){l m:List Int}(h:DG b l)(k:DG b m)(hn:NZ l)(kn:NZ m)(e:dv b l=dv b m):l=m:=by
 refine Pr O h k ?_ e;rcases Nat.lt_trichotomy l.length m.length with g | g | g
 ·have:=Xi hb h k kn g;omega
 ·exact g
 have:=Xi hb k h hn g;omega
def KY{b:Int}(hb:1<b){l:List Int}(h:DG b l)(hn:NZ l):dv b l=0↔l=[]:=by
 constructor
 ·intro e;exact xN hb h (DG.nil b) hn (by simp[NZ]) (by simpa using e)
 rintro rfl;rfl
def EF(x:Int):Int:=if x<0 then -1 else if x=0 then 0 else 1
def Za(x y:Int):Int:=if x<y then -1 else if x=y then 0 else 1
def xj(x y:Int):Za x y=EF (x-y):=by unfold Za EF;split<;>split<;>(try split)<;>omega
def Ik{b:Int}(hb:0<b){l m:List Int}{x y:Int}(h:DG b l)(k:DG b m)(hl:l.length=m.length)(hxy:x<y):
  dv b (l++[x])<dv b (m++[y]):=by
 rw[XX,XX,hl];have h1:=YB hb h;have h2:=Q4 hb k;rw[hl]at h1;have h3:b^m.length*(x+1)<=b^m.length*y:=Int.mul_le_mul_of_nonneg_left O (Int.le_of_lt (pow_pos hb _));rw[Int.mul_add]at h3;omega
def Tr{b:Int}(hb:0<b){l m:List Int}(h:DG b l)(k:DG b m)(hl:l.length=m.length)(n:Nat)(hn:n<l.length)
  (hs:l.drop (n+1)=m.drop (n+1)) (hxy:l[n]<m[n]' O):dv b l<dv b m:=by
 rw[Ks b l (n+1) O,Ks b m (n+1) O,hs,Wi l n hn,Wi m n O];have:=Ik hb (h.take n) (k.take n) w6 hxy;omega
end Ig
namespace Go.Proofs.YtpmehagnedbkhaaGreatDoor
variable{w w' w0:World}{E N b bytes i k n off:Nat}{a:Act}{c cs l l' news z:List Value}{o:Obj}{u v1 v3 v4 v5 x2 x3 x4 x5 x6 x7 x8:Value}{A0 A1 A2 A3 A4 A5 A6 A7 A8 A9 α γ ι:Type}{ops:Array Oper}{Q Q':Exit->Act->World->Prop}{K:Act->World->Prop}{g:Bool}{x y:Operand}{bs bs' bs0 ob:List (Nat×Obj)}{fr:Nat×Nat}{P:Program}{f:Obj->List (Nat×Obj)}{T' ty yT:TypeId}{fn:Func}{aft:Array Edge}{gd:Option (Nat×Bool)}{x1:Nat×Obj}{ps:List (Nat×Value)}{k':IntKind}{s:ByteArray}{q:Option Addr}{F F0:Gs}{G:Gs->Prop}{m:Sl}
open Go.RowKit Ig
def W:Int:=18446744073709551616
def GN:W=18446744073709551616:=rfl
def Jm:0<W:=wu
def Mj:1<W:=wu
def Yk(w:World)(s:Int)(q:Option Addr)(n cap:Nat)(z:Int):Prop :=
 (q=none/\n=0/\cap=0/\s=z/\-9223372036854775808<=z/\z<=9223372036854775807) \/
 ∃(b off:Nat) (l:List Int),q=some ⟨b,off,none⟩/\n=l.length/\l.length<=cap/\(cap:Int)<=9223372036854775807/\Cells w q Je l /\
  DG W l/\NZ l/\l≠[]/\(s=1\/s = -1)/\z=s*dv W l/\9223372036854775808<=dv W l
def XU(w:World)(v:Value)(z:Int):Prop:=∃s q n cap,v = .agg #[.int .i64 s,.slice q n cap]/\Yk w s q n cap z
theorem Yk.ext(h:Ext w w'){s:Int}{q:Option Addr}{n cap:Nat}{z:Int}(hv:Yk w s q n cap z):Yk w' s q n cap z:=by
 rcases hv with hv | ⟨b,off,l,h1,h2,h3,h4,h5,h6⟩
 ·exact .inl hv
 exact .inr ⟨b,off,l,h1,h2,h3,h4,h5.ext h,h6⟩
theorem XU.ext(h:Ext w w'){v:Value}{z:Int}(hv:XU w v z):XU w' v z:=by
 obtain⟨s,q,n,cap,rfl,hp⟩:=hv;exact⟨s,q,n,cap,rfl,hp.ext h⟩
def XU.small(w:World){z:Int}(h0 : -9223372036854775808<=z)(h1:z<=9223372036854775807):XU w (.agg #[.int .i64 z,.slice none 0 0]) z :=
 ⟨z,none,0,0,rfl,.inl ⟨rfl,rfl,rfl,rfl,h0,h1⟩⟩
def ZN(w:World)(R:Value->World->Prop)(e:Ending)(w':World):Prop:=∃v,e = .returned v/\R v w'/\Ext w w'
def Jj(z:Int):Int:=if z<0 then -z else z
def De{z:Int}(h:z<0):Jj z = -z:=if_pos h
def Wr{z:Int}(h:0<=z):Jj z=z:=if_neg O
def Kf(z:Int):Jj z=z.natAbs:=by unfold Jj;split<;>omega
def sg(neg:Bool)(n:Int):Int:=if neg then -n else n
theorem jy(neg:Bool)(q:Option Addr)(cap:Nat)(w:World):
  Calls prog 232 #[.bool neg,.slice q 0 cap] w λe w'=>ZN w (λv w'=>XU w' v 0) e w':=by
 go_enter func232,ntmps232
 go_wp2
 exact bodyPost_ret (v:=.agg #[.int .i64 0,.slice none 0 0]) (by simp[results,results232,go_sem]) I ⟨_,rfl,XU.small _ wu wu,(Ext.refl _).alloc _⟩
theorem jx(neg:Bool)(b off cap:Nat)(x:Int)(w:World)(hc:w.cell? ⟨b,off,none⟩=some (.int .u64 x))(h0:0<=x)(h1:x<=9223372036854775807)(hb:b<w.heap.size):
  Calls prog 232 #[.bool neg,.slice (some ⟨b,off,none⟩) 1 cap] w λe w'=>ZN w (λv w'=>XU w' v (sg neg x)) e w':=by
 cases neg
 ·go_enter func232,ntmps232
  go_wp2
  exact bodyPost_ret (v:=.agg #[.int .i64 x,.slice none 0 0]) (by simp[results,results232,go_sem]) I ⟨_,rfl,XU.small _ O O,(Ext.refl _).alloc _⟩
 go_enter func232,ntmps232
 go_wp2
 exact bodyPost_ret (v:=.agg #[.int .i64 (-x),.slice none 0 0]) (by simp[results,results232,go_sem]) I ⟨_,rfl,XU.small _ O O,(Ext.refl _).alloc _⟩
theorem Ov(neg:Bool)(b off cap:Nat)(x:Int)(w:World)(hc:w.cell? ⟨b,off,none⟩=some (.int .u64 x))(h1:9223372036854775808<=x)(hb:b<w.heap.size):
  Calls prog 232 #[.bool neg,.slice (some ⟨b,off,none⟩) 1 cap] w λe w'=>e = .returned (.agg #[.int .i64 (if neg then -1 else 1),.slice (some ⟨b,off,none⟩) 1 cap])/\Ext w w':=by
 cases neg
 ·go_enter func232,ntmps232
  go_wp2
  exact bodyPost_ret (v:=.agg #[.int .i64 1,.slice (some ⟨b,off,none⟩) 1 cap]) (by simp[results,results232,go_sem]) I ⟨rfl,(Ext.refl _).alloc _⟩
 go_enter func232,ntmps232
 go_wp2
 exact bodyPost_ret (v:=.agg #[.int .i64 (-1),.slice (some ⟨b,off,none⟩) 1 cap]) (by simp[results,results232,go_sem]) I ⟨rfl,(Ext.refl _).alloc _⟩
theorem Ou(neg:Bool)(q:Option Addr)(n cap:Nat)(w:World)(hn:2<=n):
  Calls prog 232 #[.bool neg,.slice q n cap] w λe w'=>e = .returned (.agg #[.int .i64 (if neg then -1 else 1),.slice q n cap])/\Ext w w':=by
 cases neg
 ·go_enter func232,ntmps232
  go_wp2
  exact bodyPost_ret (v:=.agg #[.int .i64 1,.slice q n cap]) (by simp[results,results232,go_sem]) I ⟨rfl,(Ext.refl _).alloc _⟩
 go_enter func232,ntmps232
 go_wp2
 exact bodyPost_ret (v:=.agg #[.int .i64 (-1),.slice q n cap]) (by simp[results,results232,go_sem]) I ⟨rfl,(Ext.refl _).alloc _⟩
theorem Vr(neg:Bool)(v:Value)(l:List Int)(w:World)(hs:SL w v Je l)(hd:DG W l)(hn:NZ l):
  Calls prog 232 #[.bool neg,v] w λe w'=>ZN w (λv w'=>XU w' v (sg neg (dv W l))) e w':=by
 obtain⟨q,cap,rfl,h2,h3,h4⟩:=hs
 match l,hd,hn,h2,h4 with
 |[],hd,hn,h2,h4=>exact(jy neg q cap w).mono λe w' h=>by cases neg<;>exact h
 |[x],hd,hn,h2,h4 =>
  obtain⟨b,off,rfl,hb,hc⟩:=h4 0 wz;have hx:=hd.head;have e1:dv W [x]=x:=wz;rw[e1];by_cases hx1:x<=9223372036854775807
  ·exact jx neg b off cap x w hc hx.1 hx1 hb.lt
  refine(Ov neg b off cap x w hc O hb.lt).mono λe w' ⟨h,k⟩=>⟨_,h,⟨_,_,_,_,rfl,.inr ⟨b,off,[x],rfl,rfl,h2,h3,h4.ext k,hd,hn,wz,?_,?_,by rw[e1];omega⟩⟩,k⟩
  ·cases neg<;>simp
  cases neg<;>simp[sg]
 |x::y::l,hd,hn,h2,h4 =>
  obtain⟨b,off,rfl,hb,hc⟩:=h4 0 wz;refine(Ou neg _ _ cap w wz).mono λe w' ⟨h,k⟩=>⟨_,h,⟨_,_,_,_,rfl,.inr ⟨b,off,x::y::l,rfl,rfl,h2,h3,h4.ext k,hd,hn,wz,?_,?_,?_⟩⟩,k⟩
  ·cases neg<;>simp
  ·cases neg<;>simp[sg]
  have:=Dj Jm hd hn wz;have h6:=YT (b:=W) wu (m:=1) (n:=(x::y::l).length-1) wz;have h7:W^1=18446744073709551616:=wu;omega
theorem Og(s:Int)(b off n cap:Nat)(w:World):
  Calls prog 231 #[.agg #[.int .i64 s,.slice (some ⟨b,off,none⟩) n cap]] w λe w'=>e = .returned (.tuple #[.bool (decide (s<0)),.slice (some ⟨b,off,none⟩) n cap])/\Ext w w':=by
 have hn:=λw=>run_neq_slice_nil_any (P:=prog) w 91 289 (some ⟨b,off,none⟩) n cap 0 0 underlying91;go_enter func231,ntmps231
 go_wp2
 go_quiet (fail)
 go_wp2
 go_ret2
 exact⟨rfl,((Ext.refl _).alloc _).drewN _⟩
theorem II(w:World):
  Calls prog 231 #[.agg #[.int .i64 0,.slice none 0 0]] w λe w'=>e = .returned (.tuple #[.bool false,.slice none 0 0])/\Ext w w':=by
 have hn:=λw=>run_neq_slice_nil_any (P:=prog) w 91 289 none 0 0 0 0 underlying91;go_enter func231,ntmps231
 go_wp2
 go_ret2
 exact⟨rfl,(Ext.refl _).alloc _⟩
def OH(n:Int)(h0 : -9223372036854775808<=n)(h:n<0):IntKind.u64.wrap (wrap64 (-n))=Jj n:=by
 rw[De h];have e:IntKind.u64.wrap (wrap64 (-n))=(wrap64 (-n))%18446744073709551616:=by simp[IntKind.wrap,IntKind.signed,IntKind.bits]
 rw[e];unfold wrap64;omega
theorem Gy(n:Int)(w:World)(h0 : -9223372036854775808<=n)(h1:n<=9223372036854775807):
  Calls prog 239 #[.int .i64 n] w λe w'=>e = .returned (.int .u64 (Jj n))/\w=w':=by
 by_cases h:n<0
 ·have H:=Lib.hid (OH n h0 h);go_enter func239,ntmps239
  go_wp2
  go_ret
  exact⟨congrArg (λx=>Ending.returned (.int .u64 x)) H.out,rfl⟩
 have H:=Lib.hid (Wr (z:=n) O);go_enter func239,ntmps239
 go_wp2
 go_ret
 exact⟨congrArg (λx=>Ending.returned (.int .u64 x)) H.out.symm,rfl⟩
theorem U6(z:Int)(w:World)(hz:(z==0)=false)(h0 : -9223372036854775808<=z)(h1:z<=9223372036854775807):
  Calls prog 231 #[.agg #[.int .i64 z,.slice none 0 0]] w λe w'=>(∃b,e = .returned (.tuple #[.bool (decide (z<0)),.slice (some ⟨b,0,none⟩) 1 1])/\Yd w' b 289 Je [Jj z])/\Ext w w':=by
 have hn:=λw=>run_neq_slice_nil_any (P:=prog) w 91 289 none 0 0 0 0 underlying91;go_enter func231,ntmps231
 go_wp2
 go_region_held3 (λw'=>w'.cell? ⟨w.heap.size,0,none⟩=some (.int .i64 z)) (go_keep) (first | (go_at_call 239;refine(Gy _ _ h0 h1).mono ?_;rintro e w' ⟨rfl,rfl⟩))
 go_wp2
 go_ret2
 exact⟨⟨_,rfl,(Yd.QEi _ _ 289 Je [Jj z] _ I wz).drew⟩,(((Ext.refl _).alloc _).alloc _).drew⟩
theorem Ys(v:Value)(z:Int)(w:World)(hv:XU w v z):
  Calls prog 231 #[v] w λe w'=>ZN w (λr w'=>∃p l,r = .tuple #[.bool (decide (z<0)),p]/\SL w' p Je l/\DG W l/\NZ l/\dv W l=Jj z) e w':=by
 obtain⟨s,q,n,cap,rfl,hp⟩:=hv;rcases hp with ⟨rfl,rfl,rfl,rfl,h0,h1⟩ | ⟨b,off,l,rfl,rfl,h3,h4,h5,h6,h7,h8,h9,h10,h11⟩
 ·by_cases hz:s=0
  ·subst hz;exact(II w).mono λe w' ⟨h,k⟩=>⟨_,h,⟨_,[],rfl,SL.nil _ _,DG.nil _,by simp[NZ],rfl⟩,k⟩
  refine(U6 s w (by simpa using hz) h0 h1).mono λe w' ⟨⟨b,h,hb⟩,k⟩=>⟨_,h,⟨_,[Jj s],rfl,SL.G3 hb 1 (Nat.le_refl _) wz,?_,?_,wz⟩,k⟩
  ·have:Jj s=s.natAbs:=Kf s;have:=GN;exact DG.cons O O (DG.nil _)
  have:Jj s=s.natAbs:=Kf s;simp[NZ];omega
 have hz:decide (s<0)=decide (z<0)/\dv W l=Jj z:=by
  rcases h9 with rfl | rfl
  ·rw[Int.one_mul]at h10;rw[Wr O];exact⟨w6,h10.symm⟩
  have:z = -dv W l:=by rw[h10];omega
  rw[De O];exact⟨w6,O⟩
 refine(Og s b off _ cap w).mono λe w' ⟨h,k⟩=>⟨_,h,⟨_,l,by rw[hz.1],⟨_,_,rfl,h3,h4,h5.ext k⟩,h6,h7,hz.2⟩,k⟩
def Pb{l:List Int}(h:k<l.length):l.getD k default=l[k]:=by simp[List.getD,h]
theorem Kj(v:Value)(l:List Int)(w:World)(hs:SL w v Je l):
  Calls prog 307 #[v] w λe w'=>(∃v',e = .returned v'/\SL w v' Je (JA l))/\w=w':=by
 obtain⟨q,cap,rfl,hcap,hmax,hc⟩:=hs;have HC:=Lib.hid hc;clear hc;go_enter func307,ntmps307
 go_wp2
 go_loop [3] (λn=>∃k:Nat,k<=l.length/\n = .int .i64 k/\JA l=JA (l.take k)) λn=>(intOf n).toNat
 case atStart=>exact⟨l.length,Nat.le_refl _,rfl,by rw[List.take_length]⟩
 case round =>
  obtain⟨k,hk,rfl,he⟩:=hrel;have HE:=Lib.hid he;clear he;cases k with
  |zero =>
   go_wp2
   go_ret
   exact⟨⟨_,rfl,by rw[HE.out];exact⟨q,cap,rfl,by simp[JA],hmax,λi hi=>by simp[JA]at hi⟩⟩,rfl⟩
  |succ k =>
   obtain⟨b,off,rfl,hb,hc⟩:=HC.out k O;simp only[Je]at hc;have HT:=Lib.hid (Wi l k O);rw[Pb O]at hc;generalize hx:l[k]=x at hc;have HX:=Lib.hid hx;clear hx;by_cases h0:x=0
   ·have h1:(x==0)=true:=by simp[h0]
    go_wp2
    go_round
    case rel=>exact⟨k,O,rfl,by rw[HE.out,HT.out,HX.out,h0,YX]⟩
    case measure=>simp[intOf]
   have h1:(x==0)=false:=by simp[h0]
   go_wp2
   go_ret
   have e1:JA l=l.take (k+1):=by rw[HE.out,HT.out,HX.out,W4 _ h0,<-HX.out,<-HT.out]
   exact⟨⟨_,rfl,by rw[e1];exact⟨_,cap,by rw[List.length_take,Nat.min_eq_left O];rfl,by rw[List.length_take];omega,hmax,HC.out.take _⟩⟩,rfl⟩
def sz(z:Int):Nat:=if z=0 then 0 else z.natAbs.log2+1
def BA(z:Int):z.natAbs<2^sz z:=by
 unfold sz;split
 ·simp[*]
 exact Nat.lt_log2_self
def XF(z:Int)(k:Nat):sz z<=k↔z.natAbs<2^k:=by
 constructor
 ·intro h;exact Nat.lt_of_lt_of_le (BA z) (Nat.pow_le_pow_right wu h)
 intro h;unfold sz;split
 ·exact Nat.zero_le _
 rename_i hz;have:z.natAbs.log2<k:=(Nat.log2_lt O).2 h;omega
def ZQ(a b:Int):sz (a*b)<=sz a+sz b:=by
 rw[XF,Int.natAbs_mul,Nat.pow_add];have h1:=BA a;have h2:=BA b
 calc a.natAbs*b.natAbs<=a.natAbs*2^sz b:=Nat.mul_le_mul_left _ (Nat.le_of_lt h2)
  _<2^sz a*2^sz b:=Nat.mul_lt_mul_of_pos_right h1 (Nat.pow_pos wu)
def Nv(a b:Int):sz (a+b)<=max (sz a) (sz b)+1:=by
 rw[XF,Nat.pow_succ];have h1:=(XF a (max (sz a) (sz b))).1 (Nat.le_max_left _ _);have h2:=(XF b (max (sz a) (sz b))).1 (Nat.le_max_right _ _);omega
def Kl{a b:Int}(h:a.natAbs<=b.natAbs):sz a<=sz b:=by
 rw[XF];exact Nat.lt_of_le_of_lt h (BA b)
def K9(a:Int):sz (-a)=sz a:=by unfold sz;simp
def Mp(a:Int):sz (Jj a)=sz a:=by unfold Jj;split<;>simp[K9]
theorem uK{l:List Int}(h:DG W l)(hn:NZ l):l.length<=sz (dv W l):=by
 by_cases hl:l=[]
 ·subst hl;simp
 have h1:=Dj Jm h hn hl;have h2:=BA (dv W l);have h0:=Q4 Jm h;have h3:(2:Int)^(l.length-1)<=W^(l.length-1):=by
  generalize l.length-1=k
  induction k with
  |zero=>simp
  |succ k ih=>rw[Int.pow_succ,Int.pow_succ];exact Int.mul_le_mul ih wu wu (Int.le_of_lt (pow_pos Jm k))
 have h4:(2:Int)^(l.length-1)<2^sz (dv W l):=by
  have:((dv W l).natAbs:Int)<((2^sz (dv W l):Nat):Int):=O;rw[Int.natCast_pow]at this;have e:((dv W l).natAbs:Int)=dv W l:=O;rw[e]at this;have e2:((2:Nat):Int)=2:=rfl;rw[e2]at this;omega
 have h5:2^(l.length-1)<2^sz (dv W l):=by
  have:((2^(l.length-1):Nat):Int)<((2^sz (dv W l):Nat):Int):=by
   rw[Int.natCast_pow,Int.natCast_pow];exact h4
  omega
 have:=(Nat.pow_lt_pow_iff_right (by decide:1<2)).1 h5;omega
theorem Ud(v:Value)(z:Int)(w:World)(hv:XU w v z):
  Calls prog 140 #[v] w λe w'=>e = .returned (.int .i64 (EF z))/\Ext w w':=by
 obtain⟨s,q,n,cap,rfl,hp⟩:=hv;have hs:EF z=if s<0 then -1 else if s=0 then 0 else 1:=by
  rcases hp with ⟨_,_,_,rfl,_⟩ | ⟨b,off,l,_,_,_,_,_,_,_,_,h,hz,hb⟩
  ·rfl
  unfold EF;rcases h with rfl | rfl
  ·rw[Int.one_mul]at hz;rw[if_neg O,if_neg O];rfl
  rw[if_pos O];rfl
 have HS:=Lib.hid hs;clear hs hp;rcases Int.lt_trichotomy s 0 with g | g | g
 all_goals
  go_enter func140,ntmps140
  go_wp2
  go_ret
  exact⟨by rw[HS.out];simp[g]<;>omega,(Ext.refl _).alloc _⟩
def Yk.isNone{s:Int}{cap:Nat}{z:Int}(h:Yk w s q n cap z):
  (q=none/\n=0/\cap=0/\s=z/\-9223372036854775808<=z/\z<=9223372036854775807)\/(∃b off,q=some ⟨b,off,none⟩):=by
 rcases h with h | ⟨b,off,_,h,_⟩
 ·exact .inl h
 exact .inr ⟨b,off,h⟩
abbrev IZ:Array Value:=#[.int .i64 0,.slice none 0 0]
theorem Om(s:Int)(w:World)(h0 : -9223372036854775807<=s)(h1:s<=9223372036854775807):
  Calls prog 236 #[.agg #[.int .i64 s,.slice none 0 0]] w λe w'=>e = .returned (.agg #[.int .i64 (-s),.slice none 0 0])/\Ext w w':=by
 have hn:=λw=>Lib.run_eql_slice_nil (P:=prog) w 91 289 none 0 0 0 0 underlying91;have hm':(s != -9223372036854775808)=true:=w6;go_enter func236,ntmps236
 go_wp2
 exact bodyPost_ret (v:=.agg #[.int .i64 (-s),.slice none 0 0]) (by simp[results,results236,go_sem]) I ⟨rfl,((Ext.refl _).alloc _).alloc _⟩
theorem Yk.kp(h:Kp w w'){s:Int}{q:Option Addr}{n cap:Nat}{z:Int}(hv:Yk w s q n cap z):Yk w' s q n cap z:=by
 rcases hv with hv | ⟨b,off,l,h1,h2,h3,h4,h5,h6⟩
 ·exact .inl hv
 exact .inr ⟨b,off,l,h1,h2,h3,h4,h5.kp h wu,h6⟩
def AJ:¬DT 93:=wu
def Kp.Be{a:World}(h:Kp a w){R T:Nat}(hT:K1 w R T)(hD:¬DT T)(v0 v1:Value):Kp a ((w.setCell ⟨R,0,none⟩ v0).setCell ⟨R,1,none⟩ v1) :=
 (h.set hT hD 0 v0).set (hT.set _ _ _) hD 1 v1
theorem SM(s:Int)(q:Option Addr)(n cap:Nat)(z:Int)(w:World)(hv:Yk w s q n cap z)(hq:q.isNone=false\/(s != -9223372036854775808)=false):
  Calls prog 236 #[.agg #[.int .i64 s,.slice q n cap]] w λe w'=>ZN w (λv w'=>XU w' v (-z)) e w':=by
 have hn:=λw=>Lib.run_eql_slice_nil (P:=prog) w 91 289 q n cap 0 0 underlying91;have hz0:Hid (sg (!decide (z<0)) (Jj z) = -z):=by
  show sg (!decide (z<0)) (Jj z) = -z;unfold sg Jj;by_cases h:z<0<;>simp[h]
 have HV:Hid (XU w (.agg #[.int .i64 s,.slice q n cap]) z):=⟨_,_,_,_,rfl,hv⟩;have hB:Bx ((w.alloc (.cells #[.int .i64 s,.slice q n cap] 93)).alloc (.cells IZ 93)) (w.heap.size+1) 93 IZ.toList:=by
  have:=Bx.new (w.alloc (.cells #[.int .i64 s,.slice q n cap] 93)) 93 IZ;simpa using this
 have HB:=Lib.hid hB;clear hB hv;cases hqn:q.isNone
 all_goals
  rw[hqn]at hq;simp only[reduceCtorEq,true_or,false_or]at hq;rw[hqn]at hn;clear hqn;go_enter func236,ntmps236
  go_wp2_with fail
  refine(Ys _ z _ (HV.out.ext (((Ext.refl _).alloc _).alloc _))).mono ?_;rintro e w1 ⟨_,rfl,⟨p,l,rfl,hsl,hd,hnz,hval⟩,hx⟩;go_wp2_with fail
  refine(Vr _ p l _ hsl hd hnz).mono ?_;rw[hval,hz0.out];rintro e w2 ⟨_,rfl,⟨s',q',n',cap',rfl,hp'⟩,hx2⟩;have hB2:=(HB.out.ext hx).ext hx2;obtain⟨c0,c1,f0,f1⟩:=hB2.two;have HB2:=Lib.hid hB2;clear hval hB2;go_wp2
  refine bodyPost_ret (v:=.agg #[.int .i64 s',.slice q' n' cap']) (by simp[results,results236,go_sem,c0,c1]) I ⟨_,rfl,⟨_,_,_,_,rfl,hp'.kp ((Kp.refl _).Be HB2.out.PZ AJ _ _)⟩,?_⟩;exact((((((Ext.refl w).alloc _).alloc _).trans hx).trans hx2).Xu wz _).Xu wz _
theorem TU(v:Value)(z:Int)(w:World)(hv:XU w v z):
  Calls prog 236 #[v] w λe w'=>ZN w (λv w'=>XU w' v (-z)) e w':=by
 obtain⟨s,q,n,cap,rfl,hp⟩:=hv;rcases hp.isNone with ⟨rfl,rfl,rfl,rfl,h0,h1⟩ | ⟨b,off,rfl⟩
 ·by_cases hm:s = -9223372036854775808
  ·exact SM _ _ _ _ _ w hp (.inr (by simpa using hm))
  exact(Om s w O h1).mono λe w' ⟨he,hx⟩=>⟨_,he,XU.small _ O O,hx⟩
 exact SM _ _ _ _ _ w hp (.inl rfl)
end Go.Proofs.YtpmehagnedbkhaaGreatDoor
namespace Ig
def Qd(l:List Int)(k:Nat):Int:=if h:k<l.length then l[k]else 0
def ZH{l:List Int}{k:Nat}(h:k<l.length):Qd l k=l[k]:=dif_pos h
def G7{l:List Int}{k:Nat}(h:l.length<=k):Qd l k=0:=dif_neg O
def DG.Qd{b:Int}(hb:0<b){l:List Int}(h:DG b l)(k:Nat):0<=Qd l k/\Qd l k<b:=by
 unfold Ig.Qd;split
 ·exact h _ (List.getElem_mem _)
 exact⟨Int.le_refl _,hb⟩
def Vt(b:Int)(l:List Int)(k:Nat):dv b (l.take (k+1))=dv b (l.take k)+b^k*Qd l k:=by
 by_cases h:k<l.length
 ·rw[ZH h,GL b l k h]
 rw[G7 O,List.take_of_length_le O,List.take_of_length_le O];simp
def K4{l:List Int}{p:Nat}(h:p<l.length)(v:Int)(r:Nat):Qd (l.set p v) r=if r=p then v else Qd l r:=by
 unfold Qd;by_cases hr:r<l.length
 ·rw[dif_pos (by simpa using hr),dif_pos hr,List.getElem_set];by_cases e:p=r
  ·subst e;simp
  rw[if_neg e,if_neg (λe'=>e e'.symm)]
 rw[dif_neg (by simpa using hr),dif_neg hr,if_neg O]
def G6(b:Int){l:List Int}{p:Nat}(h:p<l.length)(v:Int):dv b (l.set p v)=dv b l+b^p*(v-Qd l p):=by
 have h1:=Ks b (l.set p v) (p+1) w6;have h2:=Ks b l (p+1) O;have e1:(l.set p v).drop (p+1)=l.drop (p+1):=by rw[List.drop_set_of_lt O]
 have e2:(l.set p v).take (p+1)=l.take p++[v]:=by
  rw[Wi _ _ (by simpa using h)];simp[List.take_set_of_le]
 rw[h1,h2,e1,e2,XX,GL b l p h,ZH h,List.length_take,Nat.min_eq_left O]
 grind
def XH{l:List Int}{k:Nat}(h:k<l.length):l.drop k=Qd l k::l.drop (k+1):=by rw[List.drop_eq_getElem_cons h,ZH h]
def Ag{D V2 v' U3 u' t:Int}(hD:0<D)(hv1:v'<D)(hu0:0<=u')
  (ht0:0<=t) (ht:t*V2<=U3) (htv:t<=V2) (_hv0:0<=v'):(t-1)*(V2*D+v')<=U3*D+u':=by
 have h1:t*V2*D<=U3*D:=Int.mul_le_mul_of_nonneg_right ht O;have h2:t*v'<=t*D:=Int.mul_le_mul_of_nonneg_left O ht0;have h3:t*D<=V2*D:=Int.mul_le_mul_of_nonneg_right htv O;have e:(t-1)*(V2*D+v')=t*V2*D+t*v'-V2*D-v':=by grind
 omega
def PX{D V2 v' U3 u' t:Int}(hv0:0<=v')(hu1:u'<D)(hD:0<D)
  (ht0:0<=t) (ht:U3<t*V2):U3*D+u'<t*(V2*D+v'):=by
 have h1:(U3+1)*D<=t*V2*D:=Int.mul_le_mul_of_nonneg_right O O;have h2:0<=t*v':=Int.mul_nonneg ht0 hv0;have e:t*(V2*D+v')=t*V2*D+t*v':=by grind
 have e2:(U3+1)*D=U3*D+D:=by grind
 omega
def ZW{u v q:Int}(hv:0<v)(h1:q*v<=u)(h2:u<(q+1)*v):u/v=q:=by
 have e:(q+1)*v=q*v+v:=by grind
 have:u=(u-q*v)+q*v:=O;rw[this,Int.add_mul_ediv_right _ _ O,Int.ediv_eq_zero_of_lt O O];omega
def Zt{u v q:Int}(h1:q*v<=u)(h2:u<(q+1)*v):u%v=u-q*v:=by
 have e:(q+1)*v=q*v+v:=by grind
 have:u=(u-q*v)+q*v:=O;rw[this,Int.add_mul_emod_self_right,Int.emod_eq_of_lt O O];omega
section
variable{b:Int}(hb:1<b)
include hb
theorem Z9{l:List Int}{n:Nat}(hl:DG b l)(h:l.length=n+3):
  dv b l=((Qd l (n+2)*b+Qd l (n+1))*b+Qd l n)*b^n+dv b (l.take n)/\0<=dv b (l.take n)/\dv b (l.take n)<b^n:=by
 have h1:=Vt b l n;have h2:=Vt b l (n+1);have h3:=Vt b l (n+2);rw[List.take_of_length_le (by omega:l.length<=n+2+1)]at h3;have h4:=YB O (hl.take n);rw[List.length_take,Nat.min_eq_left O]at h4;refine⟨?_,Q4 O (hl.take n),h4⟩;rw[h3,h2,h1,Int.pow_succ,Int.pow_succ];grind
theorem KX{l:List Int}{n:Nat}(hl:DG b l)(h:l.length=n+2):
  dv b l=(Qd l (n+1)*b+Qd l n)*b^n+dv b (l.take n)/\0<=dv b (l.take n)/\dv b (l.take n)<b^n:=by
 have h1:=Vt b l n;have h2:=Vt b l (n+1);rw[List.take_of_length_le (by omega:l.length<=n+1+1)]at h2;have h4:=YB O (hl.take n);rw[List.length_take,Nat.min_eq_left O]at h4;refine⟨?_,Q4 O (hl.take n),h4⟩;rw[h2,h1,Int.pow_succ];grind
omit hb
structure V1(b:Int)(u v:List Int)(n:Nat):Prop where
 hu:DG b u
 hv:DG b v
 lu:u.length=n+3
 lv:v.length=n+2
 nz:0<Qd v (n+1)
 lt:dv b u<b*dv b v
include hb
theorem V1.top{u v:List Int}{n:Nat}(h:V1 b u v n):Qd u (n+2)<=Qd v (n+1):=by
 obtain⟨a1,a2,a3⟩:=Z9 hb h.hu h.lu;obtain⟨b1,b2,b3⟩:=KX hb h.hv h.lv;have hlt:=h.lt;have hb0:0<b:=O;have d1:=h.hu.Qd hb0 n;have d2:=h.hu.Qd hb0 (n+1);have d3:=h.hv.Qd hb0 n;have hp:=pow_pos hb0 n;refine Int.not_lt.1 λhc=>?_;have e1:(Qd v (n+1)+1)*(b*b*b^n)<=Qd u (n+2)*(b*b*b^n):=Int.mul_le_mul_of_nonneg_right O (Int.mul_nonneg (Int.mul_nonneg O O) O);have e2:0<=Qd u (n+1)*(b*b^n):=Int.mul_nonneg d2.1 (Int.mul_nonneg O O);have e3:0<=Qd u n*b^n:=Int.mul_nonneg d1.1 O;have e4:(Qd v n+1)*b^n<=b*b^n:=Int.mul_le_mul_of_nonneg_right O O;have e5:b*((Qd v n+1)*b^n)<=b*(b*b^n):=Int.mul_le_mul_of_nonneg_left e4 O;have e6:b*dv b (v.take n)<=b*b^n:=Int.mul_le_mul_of_nonneg_left O O;have e7:b*(dv b (v.take n)+1)<=b*b^n:=Int.mul_le_mul_of_nonneg_left O O;rw[a1,b1]at hlt;generalize b^n=D at *
 generalize dv b (v.take n)=v' at *
 generalize dv b (u.take n)=u' at *
 generalize Qd u (n+2)=u0 at *
 generalize Qd u (n+1)=u1 at *
 generalize Qd u n=u2 at *
 generalize Qd v (n+1)=v1 at *
 generalize Qd v n=v2 at *
 grind
end
end Ig
namespace Go.Proofs.YtpmehagnedbkhaaGreatDoor
variable{w w' w0:World}{E N b bytes i k n off:Nat}{a:Act}{c cs l l' news z:List Value}{o:Obj}{u v1 v3 v4 v5 x2 x3 x4 x5 x6 x7 x8:Value}{A0 A1 A2 A3 A4 A5 A6 A7 A8 A9 α γ ι:Type}{ops:Array Oper}{Q Q':Exit->Act->World->Prop}{K:Act->World->Prop}{g:Bool}{x y:Operand}{bs bs' bs0 ob:List (Nat×Obj)}{fr:Nat×Nat}{P:Program}{f:Obj->List (Nat×Obj)}{T' ty yT:TypeId}{fn:Func}{aft:Array Edge}{gd:Option (Nat×Bool)}{x1:Nat×Obj}{ps:List (Nat×Value)}{k':IntKind}{s:ByteArray}{q:Option Addr}{F F0:Gs}{G:Gs->Prop}{m:Sl}
open Go.RowKit Ig
def XI(x y c:Int):Int:=(x+y+c)%W
def Xl(x y c:Int):Int:=(x+y+c)/W
def ZM(x y c:Int):Int:=(x-y-c)%W
def VJ(x y c:Int):Int:=if x<y+c then 1 else 0
def GM{x y c:Int}(hx:0<=x/\x<W)(hy:0<=y/\y<W)(hc:0<=c/\c<=1):
  XI x y c+W*Xl x y c=x+y+c/\(0<=XI x y c/\XI x y c<W)/\0<=Xl x y c/\Xl x y c<=1:=by
 unfold XI Xl;simp only[GN]at *;omega
def DJ{x y c:Int}(hx:0<=x/\x<W)(hy:0<=y/\y<W)(hc:0<=c/\c<=1):
  ZM x y c-W*VJ x y c=x-y-c/\(0<=ZM x y c/\ZM x y c<W)/\0<=VJ x y c/\VJ x y c<=1:=by
 unfold ZM VJ;simp only[GN]at *;split<;>omega
theorem Yr(x y c:Int)(hx:0<=x)(hy:0<=y)(hc:0<=c)(hc1:c<=1)(w:World):
  (callFunc 306 #[.int .u64 x,.int .u64 y,.int .u64 c]).run prog w = .ok (.value (.tuple #[.int .u64 (XI x y c),.int .u64 (Xl x y c)])) w:=by
 rw[run_callFunc_extern (fn:=f306) wm wm wm wm (e:=add64Entry) wm,run_add64 x y c hx hy hc hc1];rfl
def Nx:Array Value->Sem Value:=λargs=>do
 let (x,y,b) <-Extern.MathBitsCarry.three "Sub64" args
 pure (Extern.MathBitsCarry.pair ((x+Extern.MathBitsCarry.m64-y-b)%Extern.MathBitsCarry.m64) (if x<y+b then 1 else 0))
theorem OR(x y b:Nat)(hb:b<=1)(w:World):
  (Nx #[.int .u64 x,.int .u64 y,.int .u64 b]).run prog w =
   .ok (.tuple #[.int .u64 (((x+18446744073709551616-y-b)%18446744073709551616:Nat):Int),.int .u64 ((if x<y+b then 1 else 0:Nat):Int)]) w:=by
 have:b=0\/b=1:=O;rcases this with rfl | rfl<;>rfl
theorem Hk(x y c:Int)(hx:0<=x/\x<W)(hy:0<=y/\y<W)(hc:0<=c/\c<=1)(w:World):
  (callFunc 308 #[.int .u64 x,.int .u64 y,.int .u64 c]).run prog w = .ok (.value (.tuple #[.int .u64 (ZM x y c),.int .u64 (VJ x y c)])) w:=by
 obtain⟨x,rfl⟩:=Int.eq_ofNat_of_zero_le hx.1;obtain⟨y,rfl⟩:=Int.eq_ofNat_of_zero_le hy.1;obtain⟨c,rfl⟩:=Int.eq_ofNat_of_zero_le hc.1;rw[run_callFunc_extern (fn:=f308) wm wm wm wm (e:=Nx) wm,OR x y c O];simp only[Result.andThen,ZM,VJ,GN]at *
 have e1:(((x+18446744073709551616-y-c)%18446744073709551616:Nat):Int)=((x:Int)-y-c)%18446744073709551616:=O;have e2:((if x<y+c then 1 else 0:Nat):Int)=if(x:Int)<y+c then 1 else 0:=by split<;>split<;>omega
 rw[e1,e2]
def N0(ds:List α)(z x:α)(m:Nat):(ds++List.replicate (m+1) z).set ds.length x=(ds++[x])++List.replicate m z:=by
 rw[List.set_append_right _ _ (Nat.le_refl _),Nat.sub_self,List.replicate_succ,List.set_cons_zero,List.append_assoc];rfl
def ES[Inhabited α](ds:List α)(z:α)(m k:Nat)(hk:k=ds.length):(ds++List.replicate (m+1) z).getD k default=z:=by
 subst hk;simp[List.getD,List.replicate_succ]
def Jb{l:List Int}(h:DG W l)(k:Nat):0<=Qd l k/\Qd l k<W:=h.Qd Jm k
def XD(l:List Int)(k:Nat):dv W (l.take (k+1))=dv W (l.take k)+W^k*Qd l k:=Vt W l k
def Zo{l:List Int}(h:k<l.length):l.getD k default=Qd l k:=by rw[Pb h,ZH h]
def Ek(lx ly:List Int)(k:Nat)(ds:List Int)(c:Int):Prop :=
 ds.length=k/\DG W ds/\(0<=c/\c<=1)/\dv W ds+W^k*c=dv W (lx.take k)+dv W (ly.take k)
theorem Ek.step{lx ly ds:List Int}{c:Int}(h:Ek lx ly k ds c)(hx:DG W lx)(hy:DG W ly):
  Ek lx ly (k+1) (ds++[XI (Qd lx k) (Qd ly k) c]) (Xl (Qd lx k) (Qd ly k) c):=by
 obtain⟨h1,h2,h3,h4⟩:=h;obtain⟨a1,a2,a3⟩:=GM (Jb hx k) (Jb hy k) h3;refine⟨by simp[h1],h2.append (DG.cons a2.1 a2.2 (DG.nil _)),a3,?_⟩;rw[XX,h1,XD,XD,Int.pow_succ];generalize W^k=p at *
 generalize XI (Qd lx k) (Qd ly k) c=lo at *
 generalize Xl (Qd lx k) (Qd ly k) c=hi at *
 generalize Qd lx k=a at *
 generalize Qd ly k=b at *
 have e:p*(lo+W*hi)=p*(a+b+c):=by rw[a1]
 grind
def Ty(lx ly:List Int)(k:Nat)(ds:List Int)(c:Int):Prop :=
 ds.length=k/\DG W ds/\(0<=c/\c<=1)/\dv W ds-W^k*c=dv W (lx.take k)-dv W (ly.take k)
theorem Ty.step{lx ly ds:List Int}{c:Int}(h:Ty lx ly k ds c)(hx:DG W lx)(hy:DG W ly):
  Ty lx ly (k+1) (ds++[ZM (Qd lx k) (Qd ly k) c]) (VJ (Qd lx k) (Qd ly k) c):=by
 obtain⟨h1,h2,h3,h4⟩:=h;obtain⟨a1,a2,a3⟩:=DJ (Jb hx k) (Jb hy k) h3;refine⟨by simp[h1],h2.append (DG.cons a2.1 a2.2 (DG.nil _)),a3,?_⟩;rw[XX,h1,XD,XD,Int.pow_succ];generalize W^k=p at *
 generalize ZM (Qd lx k) (Qd ly k) c=lo at *
 generalize VJ (Qd lx k) (Qd ly k) c=hi at *
 generalize Qd lx k=a at *
 generalize Qd ly k=b at *
 have e:p*(lo-W*hi)=p*(a-b-c):=by rw[a1]
 grind
theorem kZ:(prog.info? 289).map (λi=>(i.zero,i.size,i.bytes))=some (some (.int .u64 0),1,8):=wm
theorem YE(n:Nat)(hn:n<=1000000000000)(w:World):
  (Instr.makeSlice 91 (.int .i64 (n:Int)) (.int .i64 (n:Int))).run prog w = .ok (.slice (some ⟨w.heap.size,0,none⟩) n n) (w.alloc (.cells (madeCells #[.int .u64 0] n) 289)):=by
 obtain⟨i0,hi,hz0,hz1,hz2⟩:=info_parts kZ;have:=run_make (P:=prog) w 91 289 i0 (.int .u64 0) underlying91 hi hz0 .i64 .i64 n n O O (by rw[hz2];omega) O;rw[this,hz1];simp[Value.cells]
theorem BN(sw:Bool)(q q':Option Addr)(cap cap':Nat)(lx ly:List Int)(w:World)(hx:DG W lx)(hy:DG W ly)(hcx:Cells w q Je lx)(hcy:Cells w q' Je ly)(hlen:lx.length<=100000000000)(hle:ly.length<=lx.length)(hsw:sw=true->ly.length<lx.length):
  Calls prog 233 (if sw then #[.slice q' ly.length cap',.slice q lx.length cap]else #[.slice q lx.length cap,.slice q' ly.length cap']) w λe w' =>
   ZN w (λv w'=>∃l,SL w' v Je l/\DG W l/\NZ l/\dv W l=dv W lx+dv W ly) e w':=by
 have HX:=Lib.hid hcx;clear hcx;have HY:=Lib.hid hcy;clear hcy;have hmk:=λw=>YE (lx.length+1) O w;have ec:((lx.length+1:Nat):Int)=(lx.length:Int)+1:=O;simp only[ec]at hmk;cases sw
 all_goals
  simp only[Bool.false_eq_true,if_false,if_true,forall_const,false_implies]at hsw ⊢;go_enter func233,ntmps233
  go_wp2
  go_loopw [22,6] (λi c wr=>∃(k:Nat) (ds:List Int) (cc:Int),k<=lx.length/\i = .int .i64 k/\c = .int .u64 cc/\Ek lx ly k ds cc/\Yd wr w.heap.size 289 Je (ds++List.replicate (lx.length+1-k) 0)/\Ext w wr)
   (λi _ _=>lx.length-(intOf i).toNat)
  case atStart=>exact⟨0,[],0,Nat.zero_le _,rfl,rfl,⟨rfl,DG.nil _,wu,wz⟩,Yd.made w _ Je 0 _ _ rfl,(Ext.refl _).alloc _⟩
  case round =>
   obtain⟨k,ds,cc,hk,rfl,rfl,hI,hB,hE⟩:=hrel;have hst:=hI.step hx hy;obtain⟨hd1,hd2,hd3,hd4⟩:=hI;have hd1':=Lib.hid hd1;clear hd1;have hd4':=Lib.hid hd4;clear hd4;by_cases hlt:k<lx.length
   ·obtain⟨b,off,rfl,hb,hc⟩:=HX.out k hlt;rw[Zo hlt]at hc;have hc:=hE.cell hc;simp only[Je]at hc;have e1:lx.length+1-k=(lx.length-k)+1:=O;rw[e1]at hB;have hcell:=hB.cell (i:=k) (by simp[hd1'.out]);rw[ES _ _ _ _ hd1'.out.symm]at hcell;simp only[Je]at hcell;have hfr:=hB.frozen k;have hBs:=hB.set k (XI (Qd lx k) (Qd ly k) cc);rw[<-hd1'.out,N0,hd1'.out]at hBs;have HB:=Lib.hid hB;clear hB;have HBs:=Lib.hid hBs;clear hBs;have HS:=Lib.hid hst;clear hst;have hx0:=(Jb hx k).1;have hy0:=(Jb hy k).1;by_cases hlt2:k<ly.length
    ·obtain⟨b2,off2,rfl,hb2,hc2⟩:=HY.out k hlt2;rw[Zo hlt2]at hc2;have hc2:=hE.cell hc2;simp only[Je]at hc2;have ha:=λw=>Yr (Qd lx k) (Qd ly k) cc hx0 hy0 hd3.1 hd3.2 w;go_wp2
     go_roundw
     case rel=>exact⟨k+1,_,_,O,by go_num,rfl,HS.out,by rw[show lx.length+1-(k+1)=lx.length-k from by omega];exact HBs.out,Below.setCell hE wz _⟩
     case measure=>simp[intOf];omega
    have H0:=Lib.hid (G7 (l:=ly) (k:=k) O);have ha:=λw=>Yr (Qd lx k) 0 cc hx0 (Int.le_refl _) hd3.1 hd3.2 w;go_wp2
    go_roundw
    case rel=>exact⟨k+1,_,_,O,by go_num,rfl,by have:=HS.out;rw[H0.out]at this;exact this,by rw[show lx.length+1-(k+1)=lx.length-k from by omega];have:=HBs.out;rw[H0.out]at this;exact this,Below.setCell hE wz _⟩
    case measure=>simp[intOf];omega
   have hk':k=lx.length:=O;subst hk';have e1:lx.length+1-lx.length=0+1:=O;rw[e1]at hB;have hcell:=hB.cell (i:=lx.length) (by simp[hd1'.out]);rw[ES _ _ _ _ hd1'.out.symm]at hcell;simp only[Je]at hcell;have hfr:=hB.frozen lx.length;have hBs:=hB.set lx.length cc;rw[<-hd1'.out,N0,hd1'.out]at hBs;simp only[List.replicate_zero,List.append_nil]at hBs;have hSL:=SL.G3 hBs (lx.length+1) (by simp[hd1'.out]) (by simp[hd1'.out];omega);have el:(ds++[cc]).length=lx.length+1:=by simp[hd1'.out]
   rw[List.take_of_length_le O,el]at hSL;have hEs:Ext w _:=Below.setCell hE (p:=⟨w.heap.size,lx.length,none⟩) wz (Je cc);have hfin:DG W (ds++[cc])/\dv W (ds++[cc])=dv W lx+dv W ly:=by
    refine⟨hd2.append (DG.cons hd3.1 (wk GN) (DG.nil _)),?_⟩;rw[XX,hd1'.out,hd4'.out,List.take_of_length_le (Nat.le_refl _),List.take_of_length_le hle]
   have HB:=Lib.hid hB;clear hB;have HBs:=Lib.hid hBs;clear hBs;have HSL:=Lib.hid hSL;clear hSL;have HF:=Lib.hid hfin;clear hfin;have HES:=Lib.hid hEs;clear hEs;clear el e1 hst;go_wp2_with (go_at_call 307;refine(Kj _ _ _ HSL.out).mono ?_;rintro e w' ⟨⟨v',rfl,hv⟩,rfl⟩)
   go_ret
   exact⟨_,rfl,⟨_,hv,HF.out.1.JA,Xm _,by rw[XG,HF.out.2]⟩,HES.out⟩
theorem Tw(v v':Value)(lx ly:List Int)(w:World)(hx:DG W lx)(hy:DG W ly)(hs:SL w v Je lx)(hs':SL w v' Je ly)(h1:lx.length<=100000000000)(h2:ly.length<=100000000000):
  Calls prog 233 #[v,v'] w λe w'=>ZN w (λv w'=>∃l,SL w' v Je l/\DG W l/\NZ l/\dv W l=dv W lx+dv W ly) e w':=by
 obtain⟨q,cap,rfl,hcap,hmax,hc⟩:=hs;obtain⟨q',cap',rfl,hcap',hmax',hc'⟩:=hs';by_cases h:lx.length<ly.length
 ·have:=BN true q' q cap' cap ly lx w hy hx hc' hc h2 O (λ_=>h);rw[Int.add_comm]at this;exact this
 exact BN false q q' cap cap' lx ly w hx hy hc hc' h1 O λh=>by cases h
theorem DK(v v':Value)(lx ly:List Int)(w:World)(hx:DG W lx)(hy:DG W ly)(hs:SL w v Je lx)(hs':SL w v' Je ly)(h1:lx.length<=100000000000)(hle:ly.length<=lx.length)(hle2:dv W ly<=dv W lx):
  Calls prog 235 #[v,v'] w λe w'=>ZN w (λv w'=>∃l,SL w' v Je l/\DG W l/\NZ l/\dv W l=dv W lx-dv W ly) e w':=by
 obtain⟨q,cap,rfl,hcap,hmax,hcx⟩:=hs;obtain⟨q',cap',rfl,hcap',hmax',hcy⟩:=hs';have HX:=Lib.hid hcx;clear hcx;have HY:=Lib.hid hcy;clear hcy;have HLE:=Lib.hid hle2;clear hle2;have hmk:=λw=>YE lx.length O w;go_enter func235,ntmps235
 go_wp2
 go_loopw [14,6] (λi c wr=>∃(k:Nat) (ds:List Int) (cc:Int),k<=lx.length/\i = .int .i64 k/\c = .int .u64 cc/\Ty lx ly k ds cc/\Yd wr w.heap.size 289 Je (ds++List.replicate (lx.length-k) 0)/\Ext w wr)
  (λi _ _=>lx.length-(intOf i).toNat)
 case atStart=>exact⟨0,[],0,Nat.zero_le _,rfl,rfl,⟨rfl,DG.nil _,wu,wz⟩,Yd.made w _ Je 0 _ _ rfl,(Ext.refl _).alloc _⟩
 case round =>
  obtain⟨k,ds,cc,hk,rfl,rfl,hI,hB,hE⟩:=hrel;have hst:=hI.step hx hy;obtain⟨hd1,hd2,hd3,hd4⟩:=hI;have hd1':=Lib.hid hd1;clear hd1;have hd4':=Lib.hid hd4;clear hd4;by_cases hlt:k<lx.length
  ·obtain⟨b,off,rfl,hb,hc⟩:=HX.out k hlt;rw[Zo hlt]at hc;have hc:=hE.cell hc;simp only[Je]at hc;have e1:lx.length-k=(lx.length-(k+1))+1:=O;rw[e1]at hB;have hcell:=hB.cell (i:=k) (by simp[hd1'.out]);rw[ES _ _ _ _ hd1'.out.symm]at hcell;simp only[Je]at hcell;have hfr:=hB.frozen k;have hBs:=hB.set k (ZM (Qd lx k) (Qd ly k) cc);rw[<-hd1'.out,N0,hd1'.out]at hBs;have HB:=Lib.hid hB;clear hB;have HBs:=Lib.hid hBs;clear hBs;have HS:=Lib.hid hst;clear hst;have hx0:=Jb hx k;have hy0:=Jb hy k;clear e1;by_cases hlt2:k<ly.length
   ·obtain⟨b2,off2,rfl,hb2,hc2⟩:=HY.out k hlt2;rw[Zo hlt2]at hc2;have hc2:=hE.cell hc2;simp only[Je]at hc2;have ha:=λw=>Hk (Qd lx k) (Qd ly k) cc hx0 hy0 hd3 w;go_wp2
    go_roundw
    case rel=>exact⟨k+1,_,_,O,by go_num,rfl,HS.out,HBs.out,Below.setCell hE wz _⟩
    case measure=>simp[intOf];omega
   have H0:=Lib.hid (G7 (l:=ly) (k:=k) O);have ha:=λw=>Hk (Qd lx k) 0 cc hx0 ⟨Int.le_refl _,Jm⟩ hd3 w;go_wp2
   go_roundw
   case rel=>exact⟨k+1,_,_,O,by go_num,rfl,by have:=HS.out;rw[H0.out]at this;exact this,by have:=HBs.out;rw[H0.out]at this;exact this,Below.setCell hE wz _⟩
   case measure=>simp[intOf];omega
  have hk':k=lx.length:=O;subst hk';rw[Nat.sub_self,List.replicate_zero,List.append_nil]at hB;have hSL:=SL.G3 hB lx.length (by simp[hd1'.out]) (by simp[hd1'.out];omega);rw[List.take_of_length_le (by simp[hd1'.out]),hd1'.out]at hSL;have hfin:dv W ds=dv W lx-dv W ly:=by
   have h4:=hd4'.out;rw[List.take_of_length_le (Nat.le_refl _),List.take_of_length_le hle]at h4;have h5:=YB Jm hd2;have h6:=Q4 Jm hd2;have h8:=HLE.out;rw[hd1'.out]at h5;have h7:cc=0\/cc=1:=O;rcases h7 with rfl | rfl<;>omega
  have HB:=Lib.hid hB;clear hB;have HSL:=Lib.hid hSL;clear hSL;have HF:=Lib.hid hfin;clear hfin;clear hst;go_wp2_with (go_at_call 307;refine(Kj _ _ _ HSL.out).mono ?_;rintro e w' ⟨⟨v',rfl,hv⟩,rfl⟩)
  go_ret
  exact⟨_,rfl,⟨_,hv,hd2.JA,Xm _,by rw[XG,HF.out]⟩,hE⟩
def WS{x y:Int}(h:x<y):Za x y = -1:=if_pos h
def Hq{x y:Int}(h:y<x):Za x y=1:=by unfold Za;rw[if_neg O,if_neg O]
def M6(x:Int):Za x x=0:=by unfold Za;rw[if_neg O,if_pos rfl]
theorem ZZ(v v':Value)(lx ly:List Int)(w:World)(hx:DG W lx)(hy:DG W ly)(nx:NZ lx)(ny:NZ ly)(hs:SL w v Je lx)(hs':SL w v' Je ly):
  Calls prog 234 #[v,v'] w λe w'=>e = .returned (.int .i64 (Za (dv W lx) (dv W ly)))/\Ext w w':=by
 obtain⟨q,cap,rfl,hcap,hmax,hcx⟩:=hs;obtain⟨q',cap',rfl,hcap',hmax',hcy⟩:=hs';have HX:=Lib.hid hcx;clear hcx;have HY:=Lib.hid hcy;clear hcy;rcases Nat.lt_trichotomy lx.length ly.length with h | h | h
 ·have HL:=Lib.hid (WS (Xi Mj hx hy ny h));go_enter func234,ntmps234
  go_wp2
  go_ret
  exact⟨by rw[HL.out];rfl,Ext.refl _⟩
 ·go_enter func234,ntmps234
  have hb:((lx.length:Int) != (ly.length:Int))=false:=by simp[h]
  have HLL:=Lib.hid h;clear h;go_wp2
  go_loopw [5] (λi wr=>∃k:Nat,k<=lx.length/\i = .int .i64 ((k:Int)-1)/\lx.drop k=ly.drop k/\Ext w wr) λi _=>(intOf i+1).toNat
  case atStart=>exact⟨lx.length,Nat.le_refl _,rfl,by rw[List.drop_eq_nil_of_le (Nat.le_refl _),List.drop_eq_nil_of_le (by rw[HLL.out];exact Nat.le_refl _)],Ext.refl _⟩
  case round =>
   obtain⟨k,hk,rfl,hd,hE⟩:=hrel;have HD:=Lib.hid hd;clear hd;cases k with
   |zero =>
    have HF:Hid (Za (dv W lx) (dv W ly)=0):=by
     have:=HD.out;rw[List.drop_zero,List.drop_zero]at this;rw[this];exact M6 _
    go_wp2
    go_ret
    exact⟨by rw[HF.out];rfl,hE⟩
   |succ k =>
    have e1:((k+1:Nat):Int)-1=(k:Int):=O;rw[e1];have hk2:k<ly.length:=wk HLL.out;obtain⟨b,off,rfl,hb1,hc⟩:=HX.out k O;obtain⟨b2,off2,rfl,hb2,hc2⟩:=HY.out k hk2;rw[Pb O]at hc hc2;have hc:=hE.cell hc;have hc2:=hE.cell hc2;simp only[Je]at hc hc2;have HLT:=Lib.hid (Tr Jm hx hy HLL.out k O HD.out);have HGT:=Lib.hid (Tr Jm hy hx HLL.out.symm k hk2 HD.out.symm);have HEQ:Hid (lx[k]=ly[k]->lx.drop k=ly.drop k):=by
     intro e;rw[List.drop_eq_getElem_cons O,List.drop_eq_getElem_cons hk2,e,HD.out]
    generalize lx[k]=x at *
    generalize ly[k]=y at *
    clear e1;rcases Int.lt_trichotomy x y with g | g | g
    ·have hne:(x != y)=true:=w6;have HL:=Lib.hid (WS (HLT.out g));go_wp2
     go_quiet (fail)
     go_wp2
     go_quiet (fail)
     go_wp2
     go_ret
     exact⟨by rw[HL.out];rfl,(hE.drewN _).drewN _⟩
    ·have hne:(x != y)=false:=w6;go_wp2
     go_quiet (fail)
     go_wp2
     go_roundw
     case rel=>exact⟨k,O,by go_num,HEQ.out g,hE.drewN _⟩
     case measure=>simp[intOf]
    have hne:(x != y)=true:=w6;have HL:=Lib.hid (Hq (HGT.out g));go_wp2
    go_quiet (fail)
    go_wp2
    go_quiet (fail)
    go_wp2
    go_ret
    exact⟨by rw[HL.out];rfl,(hE.drewN _).drewN _⟩
 have HL:=Lib.hid (Hq (Xi Mj hy hx nx h));go_enter func234,ntmps234
 go_wp2
 go_ret
 exact⟨by rw[HL.out];rfl,Ext.refl _⟩
end Go.Proofs.YtpmehagnedbkhaaGreatDoor
namespace Go.Proofs
open Go.Shelf
def E5:Go.Shelf.Ren:=⟨λ| 169=>305 | n=>n,λ| 70=>342 | 9=>9 | 0=>0 | 72=>345 | 37=>343 | 127=>370 | 3=>3 | 5=>5 | n=>n,λ| n=>n⟩
theorem kO:Go.Proofs.Lays.n169 prog E5:={
 mixed:=wm
 f169:=func305.trans tH
 t0:=underlying0
 a0:=isAgg0
 z0:=sizeOf0
 v0:=zeroValue0
 t3:=underlying3
 a3:=isAgg3
 z3:=sizeOf3
 v3:=zeroValue3
 t9:=underlying9
 a9:=isAgg9
 z9:=sizeOf9
 v9:=zeroValue9
 t37:=underlying343
 a37:=isAgg343
 z37:=sizeOf343
 v37:=zeroValue343
 t70:=underlying342
 a70:=isAgg342
 z70:=sizeOf342
 v70:=zeroValue342
 t72:=underlying345
 a72:=isAgg345
 z72:=sizeOf345
 v72:=zeroValue345
 t127:=underlying370
 a127:=isAgg370
 z127:=sizeOf370
 v127:=zeroValue370 }
theorem D3:Builder.Extra prog E5:={
 sizeBuilder:=wm
 liesBuilder:=wm
 t5:=underlying5
 a5:=isAgg5
 z5:=sizeOf5
 v5:=zeroValue5
 infoByte:=wm
 cellsByte:=wm
 sizeByte:=wm
 neB5:=by decide }
open Go.RowKit in
theorem Builder_String_any(B b:Nat)(l:List UInt8)(w:World)(h:Lib.IsBuilder 345 5 B b (Lib.byteCells l) w)(hBw:B<=w.heap.size):
  Calls prog 305 #[.pointer (some ⟨b,0,none⟩)] w λe w'=>e = .returned (.string ⟨l.toArray⟩)/\Below B w w':=Any.Builder_String_any kO D3 B b l w h hBw
def Ac:Go.Shelf.Ren:=⟨λ| 125=>142 | 128=>249 | 129=>250 | n=>n,λ| 46=>212 | 3=>3 | 51=>301 | 53=>289 | 4=>4 | 5=>5 | 9=>9 | n=>n,λ| n=>n⟩
theorem kS:Go.Proofs.Lays.n125 prog Ac:={
 mixed:=wm
 f125:=func142.trans tH
 f128:=func249.trans tH
 f129:=func250.trans tH
 t3:=underlying3
 a3:=isAgg3
 z3:=sizeOf3
 v3:=zeroValue3
 t4:=underlying4
 a4:=isAgg4
 z4:=sizeOf4
 v4:=zeroValue4
 t5:=underlying5
 a5:=isAgg5
 z5:=sizeOf5
 v5:=zeroValue5
 t9:=underlying9
 a9:=isAgg9
 z9:=sizeOf9
 v9:=zeroValue9
 t46:=underlying212
 a46:=isAgg212
 z46:=sizeOf212
 v46:=zeroValue212
 t51:=underlying301
 a51:=isAgg301
 z51:=sizeOf301
 v51:=zeroValue301
 t53:=underlying289
 a53:=isAgg289
 z53:=sizeOf289
 v53:=zeroValue289 }
theorem bits_Len(x:Int)(w:World)(h0:0<=x)(h1:x<=18446744073709551615):
  Calls prog 142 #[.int .u64 x] w λe w'=>e = .returned (.int .i64 (Lib.bitLen x.toNat))/\w'=w:=Any.bits_Len kS x w h0 h1
def Aa:Go.Shelf.Ren:=⟨λ| 134=>338 | 129=>250 | n=>n,λ| 53=>289 | 3=>3 | 4=>4 | 46=>212 | 5=>5 | 9=>9 | n=>n,λ| n=>n⟩
theorem kQ:Go.Proofs.Lays.n134 prog Aa:={
 mixed:=wm
 f129:=func250.trans tH
 f134:=func338.trans tH
 t3:=underlying3
 a3:=isAgg3
 z3:=sizeOf3
 v3:=zeroValue3
 t4:=underlying4
 a4:=isAgg4
 z4:=sizeOf4
 v4:=zeroValue4
 t5:=underlying5
 a5:=isAgg5
 z5:=sizeOf5
 v5:=zeroValue5
 t9:=underlying9
 a9:=isAgg9
 z9:=sizeOf9
 v9:=zeroValue9
 t46:=underlying212
 a46:=isAgg212
 z46:=sizeOf212
 v46:=zeroValue212
 t53:=underlying289
 a53:=isAgg289
 z53:=sizeOf289
 v53:=zeroValue289 }
theorem bits_LeadingZeros64(x:Int)(w:World)(h0:0<=x)(h1:x<=18446744073709551615):
  Calls prog 338 #[.int .u64 x] w λe w'=>e = .returned (.int .i64 (64-(Lib.bitLen x.toNat:Int)))/\w'=w:=Any.bits_LeadingZeros64 kQ x w h0 h1
def Ae:Go.Shelf.Ren:=⟨λ| 103=>202 | 210=>280 | 206=>325 | n=>n,λ| 9=>9 | 4=>4 | 24=>256 | 3=>3 | n=>n,λ| n=>n⟩
theorem kV:Go.Proofs.Lays.n103 prog Ae:={
 mixed:=wm
 f103:=func202.trans tH
 f206:=func325.trans tH
 f210:=func280.trans tH
 t3:=underlying3
 a3:=isAgg3
 z3:=sizeOf3
 v3:=zeroValue3
 t4:=underlying4
 a4:=isAgg4
 z4:=sizeOf4
 v4:=zeroValue4
 t9:=underlying9
 a9:=isAgg9
 z9:=sizeOf9
 v9:=zeroValue9
 t24:=underlying256
 a24:=isAgg256
 z24:=sizeOf256
 v24:=zeroValue256 }
open Go.RowKit in
theorem strings_CutPrefix(s p:ByteArray)(w:World):
  Calls prog 202 #[.string s,.string p] w λe w'=>e = .returned (.tuple #[.string ⟨(Lib.trimPrefix s.data.toList p.data.toList).toArray⟩,.bool (Lib.hasPrefix s.data.toList p.data.toList)])/\w'=w:=Any.strings_CutPrefix kV s p w
def Ad:Go.Shelf.Ren:=⟨λ| 122=>144 | 215=>251 | n=>n,λ| 3=>3 | 4=>4 | n=>n,λ| n=>n⟩
theorem kT:Go.Proofs.Lays.n122 prog Ad:={
 mixed:=wm
 f122:=func144.trans tH
 f215:=func251.trans tH
 t3:=underlying3
 a3:=isAgg3
 z3:=sizeOf3
 v3:=zeroValue3
 t4:=underlying4
 a4:=isAgg4
 z4:=sizeOf4
 v4:=zeroValue4 }
open Go.RowKit in
theorem cmp_Compare_int(x y:Int)(w:World):
  Calls prog 144 #[.int .i64 x,.int .i64 y] w λe w'=>e = .returned (.int .i64 (Lib.compareInt x y))/\w'=w:=Any.cmp_Compare_int kT x y w
def AY:Go.Shelf.Ren:=⟨λ| 172=>286 | 244=>327 | 245=>328 | 247=>349 | 279=>350 | 280=>351 | 281=>352 | 282=>353 | 287=>372 | 316=>373 | 171=>303 | 205=>374 | 321=>383 | 322=>384 | 243=>335 | 246=>363 | 283=>364 | 284=>365 | 285=>366 | 286=>367 | 129=>250 | 317=>378 | 318=>379 | 319=>380 | 320=>381 | 337=>386 | 338=>387 | n=>n,λ| 9=>9 | 3=>3 | 75=>327 | 76=>328 | 4=>4 | 5=>5 | 167=>381 | 37=>343 | 0=>0 | 85=>382 | 2=>2 | 168=>384 | 53=>289 | 175=>402 | 46=>212 | 210=>406 | 127=>370 | 145=>417 | 143=>415 | 21=>21 | 171=>395 | 173=>397 | 212=>411 | 51=>301 | 20=>20 | 213=>412 | 232=>419 | 233=>420 | 80=>321 | n=>n,λ| 15=>3 | 16=>4 | 17=>5 | 18=>6 | 19=>7 | n=>n⟩
theorem kN:Go.Proofs.Lays.n172 prog AY:={
 mixed:=wm
 f129:=func250.trans tH
 f171:=func303.trans tH
 f172:=func286.trans tH
 f205:=func374.trans tH
 f243:=func335.trans tH
 f244:=func327.trans tH
 f245:=func328.trans tH
 f246:=func363.trans tH
 f247:=func349.trans tH
 f279:=func350.trans tH
 f280:=func351.trans tH
 f281:=func352.trans tH
 f282:=func353.trans tH
 f283:=func364.trans tH
 f284:=func365.trans tH
 f285:=func366.trans tH
 f286:=func367.trans tH
 f287:=func372.trans tH
 f316:=func373.trans tH
 f317:=func378.trans tH
 f318:=func379.trans tH
 f319:=func380.trans tH
 f320:=func381.trans tH
 f321:=func383.trans tH
 f322:=func384.trans tH
 f337:=func386.trans tH
 f338:=func387.trans tH
 t0:=underlying0
 a0:=isAgg0
 z0:=sizeOf0
 v0:=zeroValue0
 t2:=underlying2
 a2:=isAgg2
 z2:=sizeOf2
 v2:=zeroValue2
 t3:=underlying3
 a3:=isAgg3
 z3:=sizeOf3
 v3:=zeroValue3
 t4:=underlying4
 a4:=isAgg4
 z4:=sizeOf4
 v4:=zeroValue4
 t5:=underlying5
 a5:=isAgg5
 z5:=sizeOf5
 v5:=zeroValue5
 t9:=underlying9
 a9:=isAgg9
 z9:=sizeOf9
 v9:=zeroValue9
 t20:=underlying20
 a20:=isAgg20
 z20:=sizeOf20
 v20:=zeroValue20
 t21:=underlying21
 a21:=isAgg21
 z21:=sizeOf21
 v21:=zeroValue21
 t37:=underlying343
 a37:=isAgg343
 z37:=sizeOf343
 v37:=zeroValue343
 t46:=underlying212
 a46:=isAgg212
 z46:=sizeOf212
 v46:=zeroValue212
 t51:=underlying301
 a51:=isAgg301
 z51:=sizeOf301
 v51:=zeroValue301
 t53:=underlying289
 a53:=isAgg289
 z53:=sizeOf289
 v53:=zeroValue289
 t75:=underlying327
 a75:=isAgg327
 z75:=sizeOf327
 v75:=zeroValue327
 t76:=underlying328
 a76:=isAgg328
 z76:=sizeOf328
 v76:=zeroValue328
 t85:=underlying382
 a85:=isAgg382
 z85:=sizeOf382
 v85:=zeroValue382
 t127:=underlying370
 a127:=isAgg370
 z127:=sizeOf370
 v127:=zeroValue370
 t143:=underlying415
 a143:=isAgg415
 z143:=sizeOf415
 v143:=zeroValue415
 t145:=underlying417
 a145:=isAgg417
 z145:=sizeOf417
 v145:=zeroValue417
 t167:=underlying381
 a167:=isAgg381
 z167:=sizeOf381
 v167:=zeroValue381
 t168:=underlying384
 a168:=isAgg384
 z168:=sizeOf384
 v168:=zeroValue384
 t171:=underlying395
 a171:=isAgg395
 z171:=sizeOf395
 v171:=zeroValue395
 t173:=underlying397
 a173:=isAgg397
 z173:=sizeOf397
 v173:=zeroValue397
 t175:=underlying402
 a175:=isAgg402
 z175:=sizeOf402
 v175:=zeroValue402
 t210:=underlying406
 a210:=isAgg406
 z210:=sizeOf406
 v210:=zeroValue406
 t212:=underlying411
 a212:=isAgg411
 z212:=sizeOf411
 v212:=zeroValue411
 t213:=underlying412
 a213:=isAgg412
 z213:=sizeOf412
 t232:=underlying419
 a232:=isAgg419
 z232:=sizeOf419
 v232:=zeroValue419
 t233:=underlying420
 a233:=isAgg420
 z233:=sizeOf420
 v233:=zeroValue420
 g15:=wm
 g16:=wm
 g17:=wm
 g18:=wm
 g19:=by kernel_rfl }
open Go.RowKit in
theorem strconv_Atoi(s:ByteArray)(n:Int)(hl:s.size<=18)(h:Lib.atoi s.data.toList=some n)(w:World):
  Calls prog 286 #[.string s] w λe w'=>e = .returned (.tuple #[.int .i64 n,.nilIface])/\∃t,w'=Lib.bytesWorld w 5 t:=Any.strconv_Atoi kN s n hl h w
def Ab:Go.Shelf.Ren:=⟨λ| 129=>250 | n=>n,λ| 53=>289 | 3=>3 | 4=>4 | 46=>212 | 5=>5 | 9=>9 | n=>n,λ| n=>n⟩
theorem kR:Go.Proofs.Lays.n129 prog Ab:={
 mixed:=wm
 f129:=func250.trans tH
 t3:=underlying3
 a3:=isAgg3
 z3:=sizeOf3
 v3:=zeroValue3
 t4:=underlying4
 a4:=isAgg4
 z4:=sizeOf4
 v4:=zeroValue4
 t5:=underlying5
 a5:=isAgg5
 z5:=sizeOf5
 v5:=zeroValue5
 t9:=underlying9
 a9:=isAgg9
 z9:=sizeOf9
 v9:=zeroValue9
 t46:=underlying212
 a46:=isAgg212
 z46:=sizeOf212
 v46:=zeroValue212
 t53:=underlying289
 a53:=isAgg289
 z53:=sizeOf289
 v53:=zeroValue289 }
theorem bits_Len64(x:Int)(w:World)(h0:0<=x)(h1:x<=18446744073709551615):
  Calls prog 250 #[.int .u64 x] w λe w'=>e = .returned (.int .i64 (Lib.bitLen x.toNat))/\w'=w:=Any.bits_Len64 kR x w h0 h1
def AW:Go.Shelf.Ren:=⟨λ| 283=>364 | n=>n,λ| 3=>3 | 9=>9 | 4=>4 | n=>n,λ| n=>n⟩
theorem kL:Go.Proofs.Lays.n283 prog AW:={
 mixed:=wm
 f283:=func364.trans tH
 t3:=underlying3
 a3:=isAgg3
 z3:=sizeOf3
 v3:=zeroValue3
 t4:=underlying4
 a4:=isAgg4
 z4:=sizeOf4
 v4:=zeroValue4
 t9:=underlying9
 a9:=isAgg9
 z9:=sizeOf9
 v9:=zeroValue9 }
open Go.Lib in
theorem internal_strconv_small(i:Nat)(h:i<100)(w:World):
  Calls prog 364 #[.int .i64 i] w λe w'=>e = .returned (.string ⟨(Lib.decDigits i).toArray⟩)/\w'=w:=Any.internal_strconv_small kL i h w
def Ta:Go.Shelf.Ren:=⟨λ| 284=>365 | 129=>250 | 317=>378 | 318=>379 | n=>n,λ| 53=>289 | 3=>3 | 212=>411 | 0=>0 | 4=>4 | 46=>212 | 5=>5 | 9=>9 | n=>n,λ| 17=>5 | n=>n⟩
theorem j6:Go.Proofs.LaysM.n284 prog Ta:={
 mixed:=wm
 f129:=func250.trans tH
 f284:=func365.trans tH
 f317:=func378.trans tH
 f318:=func379.trans tH
 t0:=underlying0
 a0:=isAgg0
 z0:=sizeOf0
 v0:=zeroValue0
 t3:=underlying3
 a3:=isAgg3
 z3:=sizeOf3
 v3:=zeroValue3
 t4:=underlying4
 a4:=isAgg4
 z4:=sizeOf4
 v4:=zeroValue4
 t5:=underlying5
 a5:=isAgg5
 z5:=sizeOf5
 v5:=zeroValue5
 t9:=underlying9
 a9:=isAgg9
 z9:=sizeOf9
 v9:=zeroValue9
 t46:=underlying212
 a46:=isAgg212
 z46:=sizeOf212
 v46:=zeroValue212
 t53:=underlying289
 a53:=isAgg289
 z53:=sizeOf289
 v53:=zeroValue289
 t212:=underlying411
 a212:=isAgg411
 z212:=sizeOf411
 v212:=zeroValue411
 g17:=wm
 i0:=wm
 i3:=wm
 i4:=wm
 i5:=wm
 i9:=wm
 i46:=wm
 i53:=wm
 i212:=wm
 m17:=by kernel_rfl }
open Go.Lib in
theorem internal_strconv_numDigits(u:Nat)(h1:1<=u)(h2:u<18446744073709551616)(w:World)(htab:Lib.TabIs prog w "internal/strconv.uint64pow10" .u64 Lib.pow10Tab):
  Calls prog 365 #[.int .u64 u] w λe w'=>e = .returned (.int .i64 (Lib.nDigits u))/\w'=w:=Any.internal_strconv_numDigits j6 u h1 h2 w htab
def AV:Go.Shelf.Ren:=⟨λ| 285=>366 | n=>n,λ| 37=>343 | 53=>289 | 3=>3 | 4=>4 | 51=>301 | 9=>9 | 5=>5 | 0=>0 | n=>n,λ| n=>n⟩
theorem kK:Go.Proofs.Lays.n285 prog AV:={
 mixed:=wm
 f285:=func366.trans tH
 t0:=underlying0
 a0:=isAgg0
 z0:=sizeOf0
 v0:=zeroValue0
 t3:=underlying3
 a3:=isAgg3
 z3:=sizeOf3
 v3:=zeroValue3
 t4:=underlying4
 a4:=isAgg4
 z4:=sizeOf4
 v4:=zeroValue4
 t5:=underlying5
 a5:=isAgg5
 z5:=sizeOf5
 v5:=zeroValue5
 t9:=underlying9
 a9:=isAgg9
 z9:=sizeOf9
 v9:=zeroValue9
 t37:=underlying343
 a37:=isAgg343
 z37:=sizeOf343
 v37:=zeroValue343
 t51:=underlying301
 a51:=isAgg301
 z51:=sizeOf301
 v51:=zeroValue301
 t53:=underlying289
 a53:=isAgg289
 z53:=sizeOf289
 v53:=zeroValue289 }
open Go.RowKit Go.Sort Go.Lib in
theorem internal_strconv_formatBase10(Du off cap:Nat)(u:Nat)(d:Array UInt8)(w:World)(hH:Holds (λ(b:UInt8)=>Value.int .u8 (b.toNat:Int)) w Du off d)(hu:u<10^d.size)(hu64:u<18446744073709551616)(hsz:d.size<4611686018427387904):
  Calls prog 366 #[.slice (some ⟨Du,off,none⟩) d.size cap,.int .u64 u] w λe w' =>
   e = .returned (.tuple #[])/\∃(n v':Nat) (dk:Array UInt8),w'=(putRow (λ(b:UInt8)=>Value.int .u8 (b.toNat:Int)) w Du off dk).drewN n/\FmtInv d.size u 0 v' dk:=Any.internal_strconv_formatBase10 kK Du off cap u d w hH hu hu64 hsz
def Tb:Go.Shelf.Ren:=⟨λ| 171=>303 | 243=>335 | 246=>363 | 283=>364 | 284=>365 | 285=>366 | 286=>367 | 129=>250 | 317=>378 | 318=>379 | 319=>380 | 320=>381 | 337=>386 | 338=>387 | n=>n,λ| 3=>3 | 9=>9 | 2=>2 | 4=>4 | 171=>395 | 0=>0 | 53=>289 | 37=>343 | 5=>5 | 173=>397 | 212=>411 | 51=>301 | 20=>20 | 213=>412 | 46=>212 | 232=>419 | 233=>420 | n=>n,λ| 17=>5 | 18=>6 | 19=>7 | n=>n⟩
theorem j7:Go.Proofs.LaysM.n171 prog Tb:={
 mixed:=wm
 f129:=func250.trans tH
 f171:=func303.trans tH
 f243:=func335.trans tH
 f246:=func363.trans tH
 f283:=func364.trans tH
 f284:=func365.trans tH
 f285:=func366.trans tH
 f286:=func367.trans tH
 f317:=func378.trans tH
 f318:=func379.trans tH
 f319:=func380.trans tH
 f320:=func381.trans tH
 f337:=func386.trans tH
 f338:=func387.trans tH
 t0:=underlying0
 a0:=isAgg0
 z0:=sizeOf0
 v0:=zeroValue0
 t2:=underlying2
 a2:=isAgg2
 z2:=sizeOf2
 v2:=zeroValue2
 t3:=underlying3
 a3:=isAgg3
 z3:=sizeOf3
 v3:=zeroValue3
 t4:=underlying4
 a4:=isAgg4
 z4:=sizeOf4
 v4:=zeroValue4
 t5:=underlying5
 a5:=isAgg5
 z5:=sizeOf5
 v5:=zeroValue5
 t9:=underlying9
 a9:=isAgg9
 z9:=sizeOf9
 v9:=zeroValue9
 t20:=underlying20
 a20:=isAgg20
 z20:=sizeOf20
 v20:=zeroValue20
 t37:=underlying343
 a37:=isAgg343
 z37:=sizeOf343
 v37:=zeroValue343
 t46:=underlying212
 a46:=isAgg212
 z46:=sizeOf212
 v46:=zeroValue212
 t51:=underlying301
 a51:=isAgg301
 z51:=sizeOf301
 v51:=zeroValue301
 t53:=underlying289
 a53:=isAgg289
 z53:=sizeOf289
 v53:=zeroValue289
 t171:=underlying395
 a171:=isAgg395
 z171:=sizeOf395
 v171:=zeroValue395
 t173:=underlying397
 a173:=isAgg397
 z173:=sizeOf397
 v173:=zeroValue397
 t212:=underlying411
 a212:=isAgg411
 z212:=sizeOf411
 v212:=zeroValue411
 t213:=underlying412
 a213:=isAgg412
 z213:=sizeOf412
 t232:=underlying419
 a232:=isAgg419
 z232:=sizeOf419
 v232:=zeroValue419
 t233:=underlying420
 a233:=isAgg420
 z233:=sizeOf420
 v233:=zeroValue420
 g17:=wm
 g18:=wm
 g19:=wm
 i0:=wm
 i2:=wm
 i3:=wm
 i4:=wm
 i5:=wm
 i9:=wm
 i20:=wm
 i37:=wm
 i46:=wm
 i51:=wm
 i53:=wm
 i171:=wm
 i173:=wm
 i212:=wm
 i232:=wm
 i233:=wm
 m17:=wm
 m18:=wm
 m19:=by kernel_rfl }
open Go.RowKit Go.Sort Go.Lib in
theorem strconv_Itoa(n:Int)(h0 : -9223372036854775808<=n)(h1:n<=9223372036854775807)(w:World)(htab:Lib.TabIs prog w "internal/strconv.uint64pow10" .u64 Lib.pow10Tab):
  Calls prog 303 #[.int .i64 n] w λe w'=>e = .returned (.string ⟨(Lib.itoa n).toArray⟩)/\∃k os,w'=grow (w.drewN k) os:=Any.strconv_Itoa j7 n h0 h1 w htab
def AZ:Go.Shelf.Ren:=⟨λ| 145=>201 | 220=>279 | 219=>324 | 217=>345 | 225=>346 | 224=>347 | 267=>348 | 266=>370 | 314=>371 | n=>n,λ| 9=>9 | 4=>4 | 59=>254 | 3=>3 | 5=>5 | 46=>212 | 146=>399 | 51=>301 | n=>n,λ| 1=>0 | n=>n⟩
theorem kP:Go.Proofs.Lays.n145 prog AZ:={
 mixed:=wm
 f145:=func201.trans tH
 f217:=func345.trans tH
 f219:=func324.trans tH
 f220:=func279.trans tH
 f224:=func347.trans tH
 f225:=func346.trans tH
 f266:=func370.trans tH
 f267:=func348.trans tH
 f314:=func371.trans tH
 t3:=underlying3
 a3:=isAgg3
 z3:=sizeOf3
 v3:=zeroValue3
 t4:=underlying4
 a4:=isAgg4
 z4:=sizeOf4
 v4:=zeroValue4
 t5:=underlying5
 a5:=isAgg5
 z5:=sizeOf5
 v5:=zeroValue5
 t9:=underlying9
 a9:=isAgg9
 z9:=sizeOf9
 v9:=zeroValue9
 t46:=underlying212
 a46:=isAgg212
 z46:=sizeOf212
 v46:=zeroValue212
 t51:=underlying301
 a51:=isAgg301
 z51:=sizeOf301
 v51:=zeroValue301
 t59:=underlying254
 a59:=isAgg254
 z59:=sizeOf254
 v59:=zeroValue254
 t146:=underlying399
 a146:=isAgg399
 z146:=sizeOf399
 v146:=zeroValue399
 g1:=by kernel_rfl }
open Go.RowKit Go.Lib in
theorem strings_Cut(s sep:ByteArray)(m:Int)(w:World)(hs:s.size<4294967281)(hm:w.cell? ⟨0,0,none⟩=some (.int .i64 m)):
  Calls prog 201 #[.string s,.string sep] w λe w'=>e = .returned (.tuple #[.string ⟨(Lib.cut s.data.toList sep.data.toList).1.toArray⟩,.string ⟨(Lib.cut s.data.toList sep.data.toList).2.1.toArray⟩,.bool (Lib.cut s.data.toList sep.data.toList).2.2])/\∃n,w'=w.drewN n:=Any.strings_Cut kP s sep m w hs hm
def IV:Go.Shelf.Ren:=⟨λ| 99=>284 | 206=>325 | n=>n,λ| 9=>9 | 4=>4 | 3=>3 | n=>n,λ| n=>n⟩
theorem uL:Go.Proofs.Lays.n99 prog IV:={
 mixed:=wm
 f99:=func284.trans tH
 f206:=func325.trans tH
 t3:=underlying3
 a3:=isAgg3
 z3:=sizeOf3
 v3:=zeroValue3
 t4:=underlying4
 a4:=isAgg4
 z4:=sizeOf4
 v4:=zeroValue4
 t9:=underlying9
 a9:=isAgg9
 z9:=sizeOf9
 v9:=zeroValue9 }
open Go.RowKit Go.Lib in
theorem strings_HasPrefix(s p:ByteArray)(w:World):
  Calls prog 284 #[.string s,.string p] w λe w'=>e = .returned (.bool (Lib.hasPrefix s.data.toList p.data.toList))/\w'=w:=Any.strings_HasPrefix uL s p w
def Af:Go.Shelf.Ren:=⟨λ| 101=>285 | 208=>326 | 206=>325 | n=>n,λ| 9=>9 | 4=>4 | 3=>3 | n=>n,λ| n=>n⟩
theorem kW:Go.Proofs.Lays.n101 prog Af:={
 mixed:=wm
 f101:=func285.trans tH
 f206:=func325.trans tH
 f208:=func326.trans tH
 t3:=underlying3
 a3:=isAgg3
 z3:=sizeOf3
 v3:=zeroValue3
 t4:=underlying4
 a4:=isAgg4
 z4:=sizeOf4
 v4:=zeroValue4
 t9:=underlying9
 a9:=isAgg9
 z9:=sizeOf9
 v9:=zeroValue9 }
open Go.RowKit Go.Lib in
theorem strings_TrimPrefix(s p:ByteArray)(w:World):
  Calls prog 285 #[.string s,.string p] w λe w'=>e = .returned (.string ⟨(Lib.trimPrefix s.data.toList p.data.toList).toArray⟩)/\w'=w:=Any.strings_TrimPrefix kW s p w
def AX:Go.Shelf.Ren:=⟨λ| 264=>238 | n=>n,λ| 53=>289 | 46=>212 | n=>n,λ| n=>n⟩
theorem kM:Go.Proofs.Lays.n264 prog AX:={
 mixed:=wm
 f264:=func238.trans tH
 t46:=underlying212
 a46:=isAgg212
 z46:=sizeOf212
 v46:=zeroValue212
 t53:=underlying289
 a53:=isAgg289
 z53:=sizeOf289
 v53:=zeroValue289 }
open Go.RowKit Go.Lib in
theorem bits_Mul64(x y:Nat)(hx:x<18446744073709551616)(hy:y<18446744073709551616)(w:World):
  Calls prog 238 #[.int .u64 x,.int .u64 y] w λe w'=>e = .returned (.tuple #[.int .u64 ((x*y/18446744073709551616:Nat):Int),.int .u64 ((x*y%18446744073709551616:Nat):Int)])/\w'=w:=Any.bits_Mul64 kM x y hx hy w
def E6:Go.Shelf.Ren:=⟨λ| 105=>323 | 212=>342 | 99=>284 | 165=>343 | 166=>302 | 170=>344 | 169=>305 | 263=>368 | 264=>238 | 206=>325 | 240=>334 | 241=>369 | 276=>362 | 277=>382 | n=>n,λ| 9=>9 | 3=>3 | 4=>4 | 20=>20 | 0=>0 | 46=>212 | 109=>376 | 5=>5 | 72=>345 | 76=>328 | 51=>301 | 146=>399 | 53=>289 | 148=>290 | 70=>342 | 37=>343 | 75=>327 | 127=>370 | 164=>392 | 80=>321 | n=>n,λ| n=>n⟩
theorem kU:Go.Proofs.Lays.n105 prog E6:={
 mixed:=wm
 f99:=func284.trans tH
 f105:=func323.trans tH
 f165:=func343.trans tH
 f166:=func302.trans tH
 f169:=func305.trans tH
 f170:=func344.trans tH
 f206:=func325.trans tH
 f212:=func342.trans tH
 f240:=func334.trans tH
 f241:=func369.trans tH
 f263:=func368.trans tH
 f264:=func238.trans tH
 f276:=func362.trans tH
 f277:=func382.trans tH
 t0:=underlying0
 a0:=isAgg0
 z0:=sizeOf0
 v0:=zeroValue0
 t3:=underlying3
 a3:=isAgg3
 z3:=sizeOf3
 v3:=zeroValue3
 t4:=underlying4
 a4:=isAgg4
 z4:=sizeOf4
 v4:=zeroValue4
 t5:=underlying5
 a5:=isAgg5
 z5:=sizeOf5
 v5:=zeroValue5
 t9:=underlying9
 a9:=isAgg9
 z9:=sizeOf9
 v9:=zeroValue9
 t20:=underlying20
 a20:=isAgg20
 z20:=sizeOf20
 v20:=zeroValue20
 t37:=underlying343
 a37:=isAgg343
 z37:=sizeOf343
 v37:=zeroValue343
 t46:=underlying212
 a46:=isAgg212
 z46:=sizeOf212
 v46:=zeroValue212
 t51:=underlying301
 a51:=isAgg301
 z51:=sizeOf301
 v51:=zeroValue301
 t53:=underlying289
 a53:=isAgg289
 z53:=sizeOf289
 v53:=zeroValue289
 t70:=underlying342
 a70:=isAgg342
 z70:=sizeOf342
 v70:=zeroValue342
 t72:=underlying345
 a72:=isAgg345
 z72:=sizeOf345
 v72:=zeroValue345
 t75:=underlying327
 a75:=isAgg327
 z75:=sizeOf327
 v75:=zeroValue327
 t76:=underlying328
 a76:=isAgg328
 z76:=sizeOf328
 v76:=zeroValue328
 t109:=underlying376
 a109:=isAgg376
 z109:=sizeOf376
 v109:=zeroValue376
 t127:=underlying370
 a127:=isAgg370
 z127:=sizeOf370
 v127:=zeroValue370
 t146:=underlying399
 a146:=isAgg399
 z146:=sizeOf399
 v146:=zeroValue399
 t148:=underlying290
 a148:=isAgg290
 z148:=sizeOf290
 v148:=zeroValue290
 t164:=underlying392
 a164:=isAgg392
 z164:=sizeOf392
 v164:=zeroValue392 }
theorem D4:Builder.Extra prog E6:={
 sizeBuilder:=wm
 liesBuilder:=wm
 t5:=underlying5
 a5:=isAgg5
 z5:=sizeOf5
 v5:=zeroValue5
 infoByte:=wm
 cellsByte:=wm
 sizeByte:=wm
 neB5:=by decide }
open Go.RowKit Go.Lib in
theorem strings_Repeat(s:ByteArray)(c:Nat)(w:World)(hc:c<=9223372036854775807)(hlen:s.size*c<=140737488355328):
  Calls prog 323 #[.string s,.int .i64 c] w λe w'=>e = .returned (.string ⟨(Lib.repeatL s.data.toList c).toArray⟩)/\Below w.heap.size w w':=Any.strings_Repeat kU D4 s c w hc hlen
end Go.Proofs
namespace Go.Proofs.YtpmehagnedbkhaaGreatDoor
variable{w w' w0:World}{E N b bytes i k n off:Nat}{a:Act}{c cs l l' news z:List Value}{o:Obj}{u v1 v3 v4 v5 x2 x3 x4 x5 x6 x7 x8:Value}{A0 A1 A2 A3 A4 A5 A6 A7 A8 A9 α γ ι:Type}{ops:Array Oper}{Q Q':Exit->Act->World->Prop}{K:Act->World->Prop}{g:Bool}{x y:Operand}{bs bs' bs0 ob:List (Nat×Obj)}{fr:Nat×Nat}{P:Program}{f:Obj->List (Nat×Obj)}{T' ty yT:TypeId}{fn:Func}{aft:Array Edge}{gd:Option (Nat×Bool)}{x1:Nat×Obj}{ps:List (Nat×Value)}{k':IntKind}{s:ByteArray}{q:Option Addr}{F F0:Gs}{G:Gs->Prop}{m:Sl}
open Go.RowKit
section
variable{P:Program}{N:Nat}{m:Sl}{S:World->Prop}{ty:TypeId}{T yT:TypeId}{x y:Operand}{a b:Nat}{k:IntKind}
def UQ(n:Int):IntKind.u64.wrap n=n%18446744073709551616:=IntKind.wrap_u64 n
theorem ID(hx:ev m x=some (.int .u64 (a:Int)))(hy:ev m y=some (.int k (b:Int)))(z:Nat)(h:b<=64/\a*2^b%18446744073709551616=z):Qt P N m S (.binOp .shl T x y yT) ty (.int .u64 (z:Int)):=λs w _ _ _ _ ha _=>by
 have h1:min b 64=b:=O;have h2:¬((b:Int)<0):=O;have h3:IntKind.u64.wrap ((a:Int)*2^b)=(z:Int):=by
  rw[UQ,<-h.2,Int.natCast_emod,Int.natCast_mul,Int.natCast_pow];rfl
 simp[execOp,ha.ev hx,ha.ev hy,eqGuard,binOp,Op.shift,IntKind.bits,h1,h2,h3]
theorem TK(hx:ev m x=some (.int .u64 (a:Int)))(hy:ev m y=some (.int k (b:Int)))(z:Nat)(h:b<=64/\a/2^b=z):Qt P N m S (.binOp .shr T x y yT) ty (.int .u64 (z:Int)):=λs w _ _ _ _ ha _=>by
 have h1:min b 64=b:=O;have h2:¬((b:Int)<0):=O;have h3:(a:Int)/2^b=(z:Int):=by
  rw[<-h.2,Int.natCast_ediv,Int.natCast_pow];rfl
 simp[execOp,ha.ev hx,ha.ev hy,eqGuard,binOp,Op.shift,IntKind.bits,h1,h2];exact h3
def WL(n:Nat)(h:n<18446744073709551616):(BitVec.ofInt 64 (n:Int)).toNat=n:=by
 rw[BitVec.toNat_ofInt];have h3:(((2^64:Nat):Int))=18446744073709551616:=wu;rw[h3];omega
theorem jP(hx:ev m x=some (.int .u64 (a:Int)))(hy:ev m y=some (.int .u64 ((4294967295:Nat):Int)))(z:Nat)(h:a<18446744073709551616/\a%4294967296=z):Qt P N m S (.binOp .and T x y yT) ty (.int .u64 (z:Int)):=λs w _ _ _ _ ha _=>by
 have e:IntKind.u64.wrap (((BitVec.ofInt 64 (a:Int) &&& BitVec.ofInt 64 ((4294967295:Nat):Int)).toNat:Nat):Int)=(z:Int):=by
  rw[BitVec.toNat_and,WL a h.1,WL _ wu,show(4294967295:Nat)=2^32-1 by decide,Nat.and_two_pow_sub_one_eq_mod,UQ];have:=h.2;omega
 have e2:(do eqGuard .and T x y (.int .u64 (a:Int)) (.int .u64 ((4294967295:Nat):Int));binOp .and T (.int .u64 (a:Int)) (.int .u64 ((4294967295:Nat):Int)):Sem Value).run P w = .ok (.int .u64 (z:Int)) w:=by
  simp only[eqGuard,binOp,Op.intBits,Sem.run_bind,Sem.run_pure,Result.andThen_ok];rw[<-e];rfl
 simp only[execOp,ha.ev hx,ha.ev hy];simp only[Sem.run_bind]at e2 ⊢;rw[e2];rfl
theorem QBF(hx:ev m x=some (.int .u64 (a:Int)))(hy:ev m y=some (.int .u64 (b:Int)))(z:Nat)(h:a<18446744073709551616/\(∃c k,a=c*2^k/\b<2^k)/\b<18446744073709551616/\a+b=z):Qt P N m S (.binOp .or T x y yT) ty (.int .u64 (z:Int)):=λs w _ _ _ _ ha _=>by
 obtain⟨h1,⟨c,k,h2,h3⟩,h4,h5⟩:=h;have e:IntKind.u64.wrap (((BitVec.ofInt 64 (a:Int) ||| BitVec.ofInt 64 (b:Int)).toNat:Nat):Int)=(z:Int):=by
  have h7:a ||| b=a+b:=by rw[h2,Nat.mul_comm,Nat.two_pow_add_eq_or_of_lt h3]
  have h8:a ||| b<2^64:=Nat.or_lt_two_pow h1 h4
  rw[BitVec.toNat_or,WL a h1,WL b h4,UQ];omega
 have e2:(do eqGuard .or T x y (.int .u64 (a:Int)) (.int .u64 (b:Int));binOp .or T (.int .u64 (a:Int)) (.int .u64 (b:Int)):Sem Value).run P w = .ok (.int .u64 (z:Int)) w:=by
  simp only[eqGuard,binOp,Op.intBits,Sem.run_bind,Sem.run_pure,Result.andThen_ok];rw[<-e];rfl
 simp only[execOp,ha.ev hx,ha.ev hy];simp only[Sem.run_bind]at e2 ⊢;rw[e2];rfl
def GD(hx:ev m x=some (.int .u64 (a:Int)))(hy:ev m y=some (.int .u64 (b:Int)))(z:Nat)(h:(a+b)%18446744073709551616=z):Qt P N m S (.binOp .add T x y yT) ty (.int .u64 (z:Int)) :=
 QN hx hy (by show some (Value.int .u64 (IntKind.u64.wrap ((a:Int)+b)))=_;rw[UQ];congr 2;omega)
def Vl(hx:ev m x=some (.int .u64 (a:Int)))(hy:ev m y=some (.int .u64 (b:Int)))(z:Nat)(h:a*b%18446744073709551616=z):Qt P N m S (.binOp .mul T x y yT) ty (.int .u64 (z:Int)) :=
 QN hx hy (by show some (Value.int .u64 (IntKind.u64.wrap ((a:Int)*b)))=_;rw[UQ,<-Int.natCast_mul];congr 2;omega)
def GC(hx:ev m x=some (.int .u64 (a:Int)))(hy:ev m y=some (.int .u64 (b:Int)))(z:Nat)(h:b<18446744073709551616/\(a+18446744073709551616-b)%18446744073709551616=z):Qt P N m S (.binOp .sub T x y yT) ty (.int .u64 (z:Int)) :=
 QN hx hy (by show some (Value.int .u64 (IntKind.u64.wrap ((a:Int)-b)))=_;rw[UQ];congr 2;omega)
def IE(hx:ev m x=some (.int .u64 (a:Int)))(hy:ev m y=some (.int .u64 (b:Int)))(z:Nat)(h:0<b/\a<18446744073709551616/\a/b=z):Qt P N m S (.binOp .quo T x y yT) ty (.int .u64 (z:Int)):=by
 have:=LS (P:=P) (N:=N) (m:=m) (S:=S) (ty:=ty) (T:=T) (yT:=yT) hx hy O;have e:IntKind.u64.wrap ((a:Int).tdiv b)=(z:Int):=by
  have h1:a/b<=a:=Nat.div_le_self a b;rw[Int.tdiv_eq_ediv_of_nonneg O,<-Int.natCast_ediv,UQ,h.2.2];omega
 rw[e]at this;exact this
def pX(hx:ev m x=some (.int .u64 (a:Int)))(hy:ev m y=some (.int .u64 (b:Int)))(z:Nat)(h:0<b/\a%b=z):Qt P N m S (.binOp .rem T x y yT) ty (.int .u64 (z:Int)):=by
 have:=KW (P:=P) (N:=N) (m:=m) (S:=S) (ty:=ty) (T:=T) (yT:=yT) hx hy O O;rw[<-Int.natCast_emod,h.2]at this;exact this
end
section
variable{D yn1 yn0 u un q r:Nat}
def xE(hD:D=4294967296)(h:q*yn1+r=u)(hc:q*yn0<=D*r+un):q*(yn1*D+yn0)<=u*D+un:=by
 subst hD;rw[Nat.mul_add,<-Nat.mul_assoc,<-h];generalize q*yn1=A at *
 generalize q*yn0=B at *
 omega
def ke(hy:0<yn1*D+yn0)(hq:(u*D+un)/(yn1*D+yn0)<=q)(h:q*(yn1*D+yn0)<=u*D+un):q=(u*D+un)/(yn1*D+yn0) :=
 Nat.le_antisymm ((Nat.le_div_iff_mul_le hy).2 h) hq
def ER(hD:D=4294967296)(hy:0<yn1*D+yn0)(h:q*yn1+r=u)(hq:(u*D+un)/(yn1*D+yn0)<=q)(hc:q*yn0<=D*r+un):q=(u*D+un)/(yn1*D+yn0):=ke hy hq (xE hD h hc)
def Dg(hD:D=4294967296)(hy:0<yn1*D+yn0)(h0:yn0<D)(h:q*yn1+r=u)(hq:(u*D+un)/(yn1*D+yn0)<=q)(hqD:q<=D)(hr:D<=r):q=(u*D+un)/(yn1*D+yn0):=by
 refine ER hD hy h hq ?_;have h1:q*yn0<=D*D:=Nat.mul_le_mul hqD O;have h2:D*D<=D*r:=Nat.mul_le_mul_left D hr;omega
def Yv(hD:D=4294967296)(hy:0<yn1*D+yn0)(hu:u<yn1*D+yn0)(hun:un<D)(h:q*yn1+r=u)(hc:D<=q\/D*r+un<q*yn0):(u*D+un)/(yn1*D+yn0)<q:=by
 rw[Nat.div_lt_iff_lt_mul hy];rcases hc with hc | hc
 ·have h1:D*(yn1*D+yn0)<=q*(yn1*D+yn0):=Nat.mul_le_mul_right _ hc;have h2:(u+1)*D<=(yn1*D+yn0)*D:=Nat.mul_le_mul_right _ hu;rw[Nat.add_mul]at h2;rw[Nat.mul_comm D]at h1;omega
 subst hD;rw[Nat.mul_add,<-Nat.mul_assoc,<-h];generalize q*yn1=A at *
 generalize q*yn0=B at *
 omega
def Pa(hD:D=4294967296)(h1:2147483648<=yn1)(hun:un<D):(u*D+un)/(yn1*D+yn0)<=u/yn1:=by
 have h2:0<yn1*D:=by subst hD;omega
 refine Nat.le_trans (Nat.div_le_div_left (Nat.le_add_right _ yn0) h2) ?_;rw[Nat.mul_comm yn1,<-Nat.div_div_eq_div_mul];have:(u*D+un)/D=u:=by subst hD;omega
 rw[this];exact Nat.le_refl _
def E9(hD:D=4294967296)(h1:2147483648<=yn1)(h0:yn0<D)(hu:u<yn1*D+yn0):u/yn1<=D+1:=by
 have:u/yn1<D+2:=by
  rw[Nat.div_lt_iff_lt_mul O];subst hD;omega
 omega
end
structure S1(yn1 yn0 u un:Nat) where
 q:Nat
 r:Nat
 h:q*yn1+r=u
 le:(u*4294967296+un)/(yn1*4294967296+yn0)<=q
 up:q<=4294967297
 lo:r<4294967296
theorem Yu{q yn1 r u:Nat}(h:q*yn1+r=u)(hq:1<=q):(q-1)*yn1+(r+yn1)=u:=by
 obtain⟨k,rfl⟩:∃k,q=k+1:=⟨q-1,O⟩;rw[Nat.add_mul]at h;rw[Nat.add_sub_cancel];omega
def Lr{q a:Nat}(hq:q<4294967296)(ha:a<4294967296):q*a<18446744073709551616:=by
 have:q*a<=4294967295*4294967295:=Nat.mul_le_mul O O;omega
def LW{S:World->Prop}{src dst:TypeId}{n:Nat}(hx:ev m x=some (.int k' (n:Int)))(hs:(P.underlying src).isSome=true)(hk:SY P dst=some .u64)(h:n<18446744073709551616):Qt P N m S (.convert src dst x) ty (.int .u64 (n:Int)):=by
 have:=SC (P:=P) (N:=N) (m:=m) (S:=S) (ty:=ty) hx hs hk;rw[UQ,Int.emod_eq_of_lt O O]at this;exact this
def QU.same[Dr]{P:Program}{f:FuncId}{args:List Value}{w:World}{F:Gs}{v:Value}(he:Enters P f)(hF:Fits F w)(h:Calls P f args.toArray w λe w'=>e = .returned v/\w'=w):QU P f args w F (λ(_:Unit)=>v) (λ_ _=>True) :=
 ⟨he,h.mono λe w' ⟨h1,h2⟩=>⟨(),F,h1,by rw[h2];exact Rn.refl _,Gs.le_refl F,λ_ _=>rfl,by rw[h2];exact hF,λ_ _=>trivial⟩⟩
theorem Lh{y:Nat}(h0:0<y)(h1:y<18446744073709551616):∃s:Nat,(64-(Lib.bitLen y:Int))=s/\s<64/\y*2^s<18446744073709551616/\9223372036854775808<=y*2^s:=by
 obtain⟨g1,g2,g3⟩:=Lib.bitLenAux_bounds 64 y h1 O;have g4:Lib.bitLen y<=64:=Lib.bitLen_le y 64 O h1;change 1<=Lib.bitLen y at g1;change 2^(Lib.bitLen y-1)<=y at g2;change y<2^Lib.bitLen y at g3;generalize Lib.bitLen y=n at *
 refine⟨64-n,O,O,?_,?_⟩
 ·have e:2^n*2^(64-n)=18446744073709551616:=by rw[<-Nat.pow_add,show n+(64-n)=64 by omega]
  rw[<-e];exact Nat.mul_lt_mul_of_pos_right g3 (Nat.two_pow_pos _)
 have e:2^(n-1)*2^(64-n)=9223372036854775808:=by rw[<-Nat.pow_add,show n-1+(64-n)=63 by omega]
 rw[<-e];exact Nat.mul_le_mul_right _ g2
theorem uI{y s:Nat}(hF:Fits F w)(h1:y<18446744073709551616)(hs:(64-(Lib.bitLen y:Int))=s):QU prog 338 [.int .u64 (y:Int)] w F (λ(_:Unit)=>.int .i64 (s:Int)) (λ_ _=>True) :=
 QU.same (enters_of func338 wy rfl) hF ((bits_LeadingZeros64 (y:Int) w O O).mono λe w' ⟨h2,h3⟩=>⟨by rw[h2,Int.toNat_natCast,hs],h3⟩)
def O3{A B R1 R0 u v v1 v0:Nat}(h1:A+R1=u*4294967296+v1)(h2:B+R0=R1*4294967296+v0)(h3:v=v1*4294967296+v0):A*4294967296+B+R0=u*18446744073709551616+v:=by
 subst h3;omega
def Am{q a r:Nat}(h:((q*a:Nat):Int)>(r:Int)):1<=q:=by
 rcases Nat.eq_zero_or_pos q with h0 | h0
 ·subst h0;simp at h;omega
 exact h0
def uR{q:Nat}(h:q<4294967296):q*4294967296%18446744073709551616=q*4294967296:=O
def uS{q p:Nat}(h:q<4294967296)(k:p<4294967296):(q*4294967296+p)%18446744073709551616=q*4294967296+p:=O
theorem k7{h l y:Nat}(hF:Fits F w)(hh:h<y)(hl:l<18446744073709551616)(hy:y<18446744073709551616):
  QU prog 337 [.int .u64 (h:Int),.int .u64 (l:Int),.int .u64 (y:Int)] w F (λ(_:Unit)=>.tuple #[.int .u64 (((h*18446744073709551616+l)/y:Nat):Int),.int .u64 (((h*18446744073709551616+l)%y:Nat):Int)]) (λ_ _=>True):=by
 obtain⟨s,hs,hs64,hY1,hY2⟩:=Lh O hy;obtain⟨Y,hYe⟩:∃Y,Y=y*2^s:=⟨_,rfl⟩;obtain⟨a1,ha1⟩:∃a1,a1=Y/4294967296:=⟨_,rfl⟩;obtain⟨a0,ha0⟩:∃a0,a0=Y%4294967296:=⟨_,rfl⟩;obtain⟨u,hu⟩:∃u,u=h*2^s+l/2^(64-s):=⟨_,rfl⟩;obtain⟨v,hv⟩:∃v,v=l*2^s%18446744073709551616:=⟨_,rfl⟩;obtain⟨v1,hv1⟩:∃v1,v1=v/4294967296:=⟨_,rfl⟩;obtain⟨v0,hv0⟩:∃v0,v0=v%4294967296:=⟨_,rfl⟩;rw[<-hYe]at hY1 hY2;have hA1:2147483648<=a1:=O;have ha0l:a0<4294967296:=O;have hv1l:v1<4294967296:=O;have hv0l:v0<4294967296:=O;have hYa:a1*4294967296+a0=Y:=O;have e64:2^(64-s)*2^s=18446744073709551616:=by rw[<-Nat.pow_add,show 64-s+s=64 by omega]
 have hp:=Nat.two_pow_pos s;have hlow:l/2^(64-s)<2^s:=by rw[Nat.div_lt_iff_lt_mul (Nat.two_pow_pos _),Nat.mul_comm,e64];exact hl
 have hhs:h*2^s+2^s<=Y:=by have:=Nat.mul_le_mul_right (2^s) hh;rw[Nat.succ_mul]at this;omega
 have huY:u<Y:=O;have hNv:u*18446744073709551616+v=(h*18446744073709551616+l)*2^s:=by
  have h1:l*2^s/18446744073709551616=l/2^(64-s):=by rw[<-e64,Nat.mul_div_mul_right _ _ hp]
  have h2:=Nat.div_add_mod (l*2^s) 18446744073709551616;rw[h1,<-hv]at h2;rw[hu,Nat.add_mul,Nat.add_mul,Nat.mul_right_comm];omega
 obtain⟨Q1,hQ1⟩:∃Q1,Q1=(u*4294967296+v1)/(a1*4294967296+a0):=⟨_,rfl⟩;obtain⟨R1,hR1⟩:∃R1,R1=(u*4294967296+v1)%(a1*4294967296+a0):=⟨_,rfl⟩;have hY0:0<a1*4294967296+a0:=O;have hR1l:R1<Y:=by rw[hR1,<-hYa];exact Nat.mod_lt _ hY0
 have hD1:Q1*Y+R1=u*4294967296+v1:=by rw[hQ1,hR1,<-hYa,Nat.mul_comm];exact Nat.div_add_mod _ _
 have hQ1l:Q1<4294967296:=by rw[hQ1,Nat.div_lt_iff_lt_mul hY0,hYa];omega
 obtain⟨Q0,hQ0⟩:∃Q0,Q0=(R1*4294967296+v0)/(a1*4294967296+a0):=⟨_,rfl⟩;obtain⟨R0,hR0⟩:∃R0,R0=(R1*4294967296+v0)%(a1*4294967296+a0):=⟨_,rfl⟩;have hR0l:R0<Y:=by rw[hR0,<-hYa];exact Nat.mod_lt _ hY0
 have hD0:Q0*Y+R0=R1*4294967296+v0:=by rw[hQ0,hR0,<-hYa,Nat.mul_comm];exact Nat.div_add_mod _ _
 have hQ0l:Q0<4294967296:=by rw[hQ0,Nat.div_lt_iff_lt_mul hY0,hYa];omega
 have hall:(Q1*4294967296+Q0)*Y+R0=(h*18446744073709551616+l)*2^s:=by
  rw[<-hNv,Nat.add_mul,Nat.mul_right_comm];exact O3 hD1 hD0 O
 have hq:(h*18446744073709551616+l)/y=Q1*4294967296+Q0:=by
  have:=Nat.mul_div_mul_right (h*18446744073709551616+l) y hp;rw[<-this,<-hall,<-hYe,Nat.mul_comm _ Y,Nat.mul_add_div O,Nat.div_eq_of_lt hR0l,Nat.add_zero]
 have hr:(h*18446744073709551616+l)%y=R0/2^s:=by
  have:=Nat.mul_mod_mul_right (2^s) (h*18446744073709551616+l) y;rw[<-hall,<-hYe,Nat.mul_comm _ Y,Nat.mul_add_mod,Nat.mod_eq_of_lt hR0l]at this;rw[this,Nat.mul_div_cancel _ hp]
 refine QU.intro (G:=λ_=>True) func337 rfl wy rfl rfl hF w8<|QGi<|QF6 rfl<|wQ rfl<|QG<|wR rfl<|QA (QN rfl rfl rfl)<|QE<|QD ?_
 refine QP I (λhc=>?_) λhc=>?_
 ·exact absurd hc (by simp at hc;omega)
 refine QHC 10 I ?_;refine QP I (λhc=>?_) λhc=>?_
 ·exact absurd hc (by simp at hc;omega)
 refine QHC 9 I ?_;refine QP I (λhc=>?_) λhc=>?_
 ·refine QG<|JL QGJ mixed wm<|QL (QC I)<|QL (QC I)<|QL (IE I I (l/y) (⟨O,O,rfl⟩))<|QL (QC I)<|QL (QC I)<|QL (pX I I (l%y) (⟨O,rfl⟩))<|QL (QF I)<|QL (QF I)<|Q3<|QD<|QT ?_
  exact J9 () I (wO I I) (by have h0:h=0:=(by simp at hc;omega);subst h0;simp) w8
 refine QHC 5 I<|QJ I (λ_ _ f k=>uI (s:=s) f O hs) λc35=>QA (LW I QAo dC O)<|QHB 7 I<|QA (ID I I (Y) (⟨O,by rw[<-hYe];omega⟩))<|QHB 6 I<|QA (TK (b:=32) rfl rfl (a1) (⟨wu,ha1.symm⟩))<|QHB 3 I ?_
 refine wR I<|QA (jP I I (a0) (⟨O,ha0.symm⟩))<|QHB 7 I<|QA (ID I I (h*2^s) (⟨O,Nat.mod_eq_of_lt O⟩))<|wB 2 I<|QA (GC (a:=64) rfl rfl (64-s) (⟨O,O⟩))<|QA (TK I I (l/2^(64-s)) (⟨O,rfl⟩))<|QA (QBF I I (u) (⟨O,⟨h,s,rfl,hlow⟩,O,hu.symm⟩))<|QHB 7 I<|QA (ID I I (v) (⟨O,hv.symm⟩)) ?_
 refine QHB 6 I<|QA (TK (b:=32) rfl rfl (v1) (⟨wu,hv1.symm⟩))<|QHB 6 I<|QA (jP I I (v0) (⟨O,hv0.symm⟩))<|QHB 7 I<|QA (IE I I (u/a1) (⟨O,O,rfl⟩))<|QHB 3 I ?_
 refine wA 5 I<|QA (Vl I I (u/a1*a1) (wk<|Nat.div_mul_le_self u a1))<|QA (GC I I (u%a1) (by have:=Nat.div_add_mod u a1;rw[Nat.mul_comm]at this;have:=Nat.div_mul_le_self u a1;omega))<|QHB 3 I ?_
 refine GO (ι:=Unit) (λ_=>[(2,.int .u64 ((Y:Nat):Int)),(8,.int .u64 ((s:Nat):Int)),(9,.int .u64 ((a1:Nat):Int)),(10,.int .u64 ((a0:Nat):Int)),(11,.int .u64 ((u:Nat):Int)),(13,.int .u64 ((v1:Nat):Int)),(14,.int .u64 ((v0:Nat):Int)),(15,.int .u64 ((Q1:Nat):Int))]) (λ_=>[]) (λ_ _=>True) ?_ ?_
 ·refine QS<|Xf (ι:=S1 a1 a0 u v1) (λi=>[(2,.int .u64 ((Y:Nat):Int)),(8,.int .u64 ((s:Nat):Int)),(9,.int .u64 ((a1:Nat):Int)),(10,.int .u64 ((a0:Nat):Int)),(11,.int .u64 ((u:Nat):Int)),(13,.int .u64 ((v1:Nat):Int)),(14,.int .u64 ((v0:Nat):Int)),(15,.int .u64 ((i.q:Nat):Int)),(16,.int .u64 ((i.r:Nat):Int))]) (λ_=>[]) (λ_ _=>True) (λi=>i.q) ⟨u/a1,u%a1,by rw[Nat.mul_comm];exact Nat.div_add_mod u a1,Pa I hA1 hv1l,E9 I hA1 ha0l O,by have:=Nat.mod_lt u (show a1>0 by omega);omega⟩ we QGJ w8 λi=>wA 6 I ?_
  refine Qe (t:=69) rfl (λhb69=>?_) λhb69=>?_
  ·refine QHB 11 I ?_;refine QP I (λhc=>?_) λhc=>?_
   ·refine QHC 6 I<|QA (GC (b:=1) rfl rfl (i.q-1) (⟨wu,by have:=i.up;have:=QGx hb69;omega⟩))<|QHB 7 I<|QA (GD I I (i.r+a1) (wk i.lo))<|QHB 9 I ?_
    refine QP I (λhc=>?_) λhc=>?_
    ·refine Qv ?_
     repeat first|refine QV ?_|refine QQ wy ?_
     refine QW ?_;simp only[decide_eq_true_eq]at *;have more:=Yv (un:=v1) (D:=4294967296) rfl O O O i.h (.inl O);exact Xj () ⟨rfl,rfl,rfl,rfl,rfl,rfl,rfl,congrArg (λn:Nat=>some (Value.int .u64 (n:Int))) ((Dg I O ha0l (Yu i.h O) (by rw[<-hQ1];rw[<-hQ1]at more;omega) (wk i.up) O).trans hQ1.symm),trivial⟩ QGJ w8
    refine QM<|Qi ?_
    simp only[decide_eq_true_eq,decide_eq_false_iff_not]at *;have more:=Yv (un:=v1) (D:=4294967296) rfl O O O i.h (.inl O);exact Qj (⟨i.q-1,i.r+a1,Yu i.h O,O,wk i.up,O⟩:S1 a1 a0 u v1) (by show i.q-1<i.q;omega) we QGJ w8
   refine Qv ?_
   repeat first|refine QV ?_|refine QQ wy ?_
   refine QW ?_;cases hc
  refine wB 5 I<|QA (Vl I I (i.q*a0) (Nat.mod_eq_of_lt (Lr (wk<|QGy hb69) ha0l)))<|wB 3 I<|QA (Vl (a:=4294967296) rfl rfl (4294967296*i.r) (wk i.lo))<|wB 3 I<|QA (GD I I (4294967296*i.r+v1) (wk i.lo))<|QHB 5 I ?_
  refine QP I (λhc=>?_) λhc=>?_
  ·refine QHC 6 I<|QA (GC (b:=1) rfl rfl (i.q-1) (⟨wu,by have:=i.up;have:=Am (QGx hc);omega⟩))<|QHB 7 I<|QA (GD I I (i.r+a1) (wk i.lo))<|QHB 9 I ?_
   refine QP I (λhc=>?_) λhc=>?_
   ·refine Qv ?_
    repeat first|refine QV ?_|refine QQ wy ?_
    refine QW ?_;simp only[decide_eq_true_eq]at *;have more:=Yv (un:=v1) (D:=4294967296) rfl O O O i.h (.inr O);exact Xj () ⟨rfl,rfl,rfl,rfl,rfl,rfl,rfl,congrArg (λn:Nat=>some (Value.int .u64 (n:Int))) ((Dg I O ha0l (Yu i.h O) (by rw[<-hQ1];rw[<-hQ1]at more;omega) (wk i.up) O).trans hQ1.symm),trivial⟩ QGJ w8
   refine QM<|Qi ?_
   simp only[decide_eq_true_eq,decide_eq_false_iff_not]at *;have more:=Yv (un:=v1) (D:=4294967296) rfl O O O i.h (.inr O);exact Qj (⟨i.q-1,i.r+a1,Yu i.h O,O,wk i.up,O⟩:S1 a1 a0 u v1) (by show i.q-1<i.q;omega) we QGJ w8
  refine Qv ?_
  repeat first|refine QV ?_|refine QQ wy ?_
  refine QW ?_;simp only[decide_eq_false_iff_not]at *;exact Xj () ⟨rfl,rfl,rfl,rfl,rfl,rfl,rfl,congrArg (λn:Nat=>some (Value.int .u64 (n:Int))) ((ER I O i.h i.le O).trans hQ1.symm),trivial⟩ QGJ w8
 intro i;refine wR I<|QA (Vl (b:=4294967296) rfl rfl (u*4294967296%18446744073709551616) (rfl))<|QF5 I<|QA (GD I I ((u*4294967296+v1)%18446744073709551616) O)<|wB 2 I<|QA (Vl I I (Q1*Y%18446744073709551616) (rfl))<|QA (GC I I (R1) (⟨O,by generalize Q1*Y=B at *;omega⟩))<|QHB 7 I<|QA (IE I I (R1/a1) (⟨O,O,rfl⟩))<|QHB 7 I ?_
 refine QF5 I<|QA (Vl I I (R1/a1*a1) (wk<|Nat.div_mul_le_self R1 a1))<|QA (GC I I (R1%a1) (by have:=Nat.div_add_mod R1 a1;rw[Nat.mul_comm]at this;have:=Nat.div_mul_le_self R1 a1;omega))<|QHB 3 I ?_
 refine GO (ι:=Unit) (λ_=>[(2,.int .u64 ((Y:Nat):Int)),(8,.int .u64 ((s:Nat):Int)),(14,.int .u64 ((v0:Nat):Int)),(15,.int .u64 ((Q1:Nat):Int)),(17,.int .u64 ((R1:Nat):Int)),(18,.int .u64 ((Q0:Nat):Int))]) (λ_=>[]) (λ_ _=>True) ?_ ?_
 ·refine QS<|Xf (ι:=S1 a1 a0 R1 v0) (λi=>[(2,.int .u64 ((Y:Nat):Int)),(8,.int .u64 ((s:Nat):Int)),(9,.int .u64 ((a1:Nat):Int)),(10,.int .u64 ((a0:Nat):Int)),(14,.int .u64 ((v0:Nat):Int)),(15,.int .u64 ((Q1:Nat):Int)),(17,.int .u64 ((R1:Nat):Int)),(18,.int .u64 ((i.q:Nat):Int)),(16,.int .u64 ((i.r:Nat):Int))]) (λ_=>[]) (λ_ _=>True) (λi=>i.q) ⟨R1/a1,R1%a1,by rw[Nat.mul_comm];exact Nat.div_add_mod R1 a1,Pa I hA1 hv0l,E9 I hA1 ha0l O,by have:=Nat.mod_lt R1 (show a1>0 by omega);omega⟩ we QGJ w8 λi=>wA 6 I ?_
  refine Qe (t:=104) rfl (λhb104=>?_) λhb104=>?_
  ·refine QHB 11 I ?_;refine QP I (λhc=>?_) λhc=>?_
   ·refine QHC 6 I<|QA (GC (b:=1) rfl rfl (i.q-1) (⟨wu,by have:=i.up;have:=QGx hb104;omega⟩))<|QHB 7 I<|QA (GD I I (i.r+a1) (wk i.lo))<|QHB 9 I ?_
    refine QP I (λhc=>?_) λhc=>?_
    ·refine Qv ?_
     repeat first|refine QV ?_|refine QQ wy ?_
     refine QW ?_;simp only[decide_eq_true_eq]at *;have more:=Yv (un:=v0) (D:=4294967296) rfl O O O i.h (.inl O);exact Xj () ⟨rfl,rfl,rfl,rfl,rfl,congrArg (λn:Nat=>some (Value.int .u64 (n:Int))) ((Dg I O ha0l (Yu i.h O) (by rw[<-hQ0];rw[<-hQ0]at more;omega) (wk i.up) O).trans hQ0.symm),trivial⟩ QGJ w8
    refine QM<|Qi ?_
    simp only[decide_eq_true_eq,decide_eq_false_iff_not]at *;have more:=Yv (un:=v0) (D:=4294967296) rfl O O O i.h (.inl O);exact Qj (⟨i.q-1,i.r+a1,Yu i.h O,O,wk i.up,O⟩:S1 a1 a0 R1 v0) (by show i.q-1<i.q;omega) we QGJ w8
   refine Qv ?_
   repeat first|refine QV ?_|refine QQ wy ?_
   refine QW ?_;cases hc
  refine wB 5 I<|QA (Vl I I (i.q*a0) (Nat.mod_eq_of_lt (Lr (wk<|QGy hb104) ha0l)))<|wB 3 I<|QA (Vl (a:=4294967296) rfl rfl (4294967296*i.r) (wk i.lo))<|wB 3 I<|QA (GD I I (4294967296*i.r+v0) (wk i.lo))<|QHB 5 I ?_
  refine QP I (λhc=>?_) λhc=>?_
  ·refine QHC 6 I<|QA (GC (b:=1) rfl rfl (i.q-1) (⟨wu,by have:=i.up;have:=Am (QGx hc);omega⟩))<|QHB 7 I<|QA (GD I I (i.r+a1) (wk i.lo))<|QHB 9 I ?_
   refine QP I (λhc=>?_) λhc=>?_
   ·refine Qv ?_
    repeat first|refine QV ?_|refine QQ wy ?_
    refine QW ?_;simp only[decide_eq_true_eq]at *;have more:=Yv (un:=v0) (D:=4294967296) rfl O O O i.h (.inr O);exact Xj () ⟨rfl,rfl,rfl,rfl,rfl,congrArg (λn:Nat=>some (Value.int .u64 (n:Int))) ((Dg I O ha0l (Yu i.h O) (by rw[<-hQ0];rw[<-hQ0]at more;omega) (wk i.up) O).trans hQ0.symm),trivial⟩ QGJ w8
   refine QM<|Qi ?_
   simp only[decide_eq_true_eq,decide_eq_false_iff_not]at *;have more:=Yv (un:=v0) (D:=4294967296) rfl O O O i.h (.inr O);exact Qj (⟨i.q-1,i.r+a1,Yu i.h O,O,wk i.up,O⟩:S1 a1 a0 R1 v0) (by show i.q-1<i.q;omega) we QGJ w8
  refine Qv ?_
  repeat first|refine QV ?_|refine QQ wy ?_
  refine QW ?_;simp only[decide_eq_false_iff_not]at *;exact Xj () ⟨rfl,rfl,rfl,rfl,rfl,congrArg (λn:Nat=>some (Value.int .u64 (n:Int))) ((ER I O i.h i.le O).trans hQ0.symm),trivial⟩ QGJ w8
 intro i;refine wR I<|QA (Vl (b:=4294967296) rfl rfl (Q1*4294967296) (uR hQ1l))<|QF5 I<|QA (GD I I (Q1*4294967296+Q0) (uS hQ1l hQ0l))<|QF5 I<|QA (Vl (b:=4294967296) rfl rfl (R1*4294967296%18446744073709551616) (rfl))<|QF5 I<|QA (GD I I ((R1*4294967296+v0)%18446744073709551616) O)<|wB 2 I<|QA (Vl I I (Q0*Y%18446744073709551616) (rfl))<|QA (GC I I (R0) (⟨O,by generalize Q0*Y=B at *;omega⟩))<|QF5 I<|QA (TK I I (R0/2^s) (⟨O,rfl⟩))<|QHB 5 I ?_
 exact J9 () I (wO I I) (by rw[hq,hr]) w8
open Go.RowKit Ig
def Xv(x y:Int):Int:=x*y/W
def J3(x y:Int):Int:=x*y%W
theorem Yt(x y:Int)(w:World)(hx:0<=x/\x<W)(hy:0<=y/\y<W):
  Calls prog 238 #[.int .u64 x,.int .u64 y] w λe w'=>e = .returned (.tuple #[.int .u64 (Xv x y),.int .u64 (J3 x y)])/\w=w':=by
 obtain⟨a,rfl⟩:=Int.eq_ofNat_of_zero_le hx.1;obtain⟨b,rfl⟩:=Int.eq_ofNat_of_zero_le hy.1;have hW:W=18446744073709551616:=rfl;refine(bits_Mul64 a b O O w).mono ?_;rintro e w' ⟨rfl,rfl⟩;refine⟨?_,rfl⟩;unfold Xv J3;rw[hW];simp only[Int.natCast_ediv,Int.natCast_emod,Int.natCast_mul];rfl
def Iq(h l y:Int):Int:=(h*W+l)/y
def CE(h l y:Int):Int:=(h*W+l)%y
def F5(w:World):Gs:=λb=>match w.heap[b]? with | some (.cells c T _)=>some (c,T) | _=>none
theorem Um(w:World):Fits (F5 w) w:=by
 refine⟨λb c T h=>?_,λb c fr h=>?_⟩
 ·unfold F5 at h;split at h
  ·rename_i c' T' fr e;cases h;exact⟨fr,e⟩
  cases h
 unfold F5;rw[h]
theorem Sg(h l y:Int)(w:World)(hh:0<=h/\h<y)(hl:0<=l/\l<W)(hy:y<W):
  Calls prog 337 #[.int .u64 h,.int .u64 l,.int .u64 y] w λe w'=>e = .returned (.tuple #[.int .u64 (Iq h l y),.int .u64 (CE h l y)])/\Ext w w':=by
 obtain⟨a,rfl⟩:=Int.eq_ofNat_of_zero_le hh.1;obtain⟨b,rfl⟩:=Int.eq_ofNat_of_zero_le hl.1;obtain⟨c,rfl⟩:=Int.eq_ofNat_of_zero_le (show 0<=y by omega);have hW:W=18446744073709551616:=rfl;refine(k7 (Um w) (h:=a) (l:=b) (y:=c) O O O).2.mono ?_;rintro e w' ⟨_,F',rfl,hx,_⟩;refine⟨?_,hx.toBelow⟩;unfold Iq CE;rw[hW];simp only[Int.natCast_ediv,Int.natCast_emod,Int.natCast_mul,Int.natCast_add];rfl
theorem j0(x:Int)(w:World)(hx:0<x/\x<W):
  Calls prog 338 #[.int .u64 x] w λe w'=>(∃s:Nat,e = .returned (.int .i64 s)/\s<64/\x*2^s<W/\9223372036854775808<=x*2^s)/\w=w':=by
 obtain⟨a,rfl⟩:=Int.eq_ofNat_of_zero_le (show 0<=x by omega);have hW:W=18446744073709551616:=rfl;obtain⟨s,h1,h2,h3,h4⟩:=Lh (y:=a) O O;refine(bits_LeadingZeros64 (a:Int) w O O).mono ?_;rintro e w' ⟨rfl,rfl⟩;refine⟨⟨s,?_,h2,?_,?_⟩,rfl⟩
 ·rw[Int.toNat_natCast,h1]
 ·rw[hW];have:((a*2^s:Nat):Int)<18446744073709551616:=O;simpa[Int.natCast_mul,Int.natCast_pow]using this
 have:(9223372036854775808:Int)<=((a*2^s:Nat):Int):=O;simpa[Int.natCast_mul,Int.natCast_pow]using this
theorem Mv{x y o c:Int}(hx:0<=x/\x<W)(hy:0<=y/\y<W)(ho:0<=o/\o<W)(hc:0<=c/\c<W):
  (0<=Xv x y/\Xv x y<W)/\(0<=J3 x y/\J3 x y<W) /\
  (0<=XI (J3 x y) o 0/\XI (J3 x y) o 0<W) /\
  (0<=Xv x y+Xl (J3 x y) o 0/\Xv x y+Xl (J3 x y) o 0<W) /\
  (0<=XI (XI (J3 x y) o 0) c 0/\XI (XI (J3 x y) o 0) c 0<W) /\
  (0<=Xv x y+Xl (J3 x y) o 0+Xl (XI (J3 x y) o 0) c 0/\Xv x y+Xl (J3 x y) o 0+Xl (XI (J3 x y) o 0) c 0<W) /\
  XI (XI (J3 x y) o 0) c 0+W*(Xv x y+Xl (J3 x y) o 0+Xl (XI (J3 x y) o 0) c 0)=x*y+o+c:=by
 have hm0:0<=x*y:=Int.mul_nonneg hx.1 hy.1;have hm1:x*y<=(W-1)*(W-1):=Int.mul_le_mul O O hy.1 (by simp only[GN];omega);have e1:J3 x y+W*Xv x y=x*y:=by unfold J3 Xv;rw[Int.add_comm];exact Int.mul_ediv_add_emod _ _
 have l0:0<=J3 x y:=Int.emod_nonneg _ wu;have l1:J3 x y<W:=Int.emod_lt_of_pos _ Jm;have h0:0<=Xv x y:=Int.ediv_nonneg hm0 wu;generalize x*y=m at *
 generalize J3 x y=lo at *
 generalize Xv x y=hi at *
 have a:=GM (x:=lo) (y:=o) (c:=0) ⟨l0,l1⟩ ho wu;generalize XI lo o 0=lo1 at *
 generalize Xl lo o 0=c1 at *
 have a':=GM (x:=lo1) (y:=c) (c:=0) a.2.1 hc wu;generalize XI lo1 c 0=lo2 at *
 generalize Xl lo1 c 0=c2 at *
 simp only[GN]at *
 omega
def KF(la lb:List Int)(i j:Nat)(x:Int)(o:List Int)(c:Int):Prop :=
 o.length=la.length+lb.length/\DG W o/\(∀p,i+lb.length<=p->Qd o p=0)/\(0<=c/\c<W) /\
  dv W o+W^(i+j)*c=dv W (la.take i)*dv W lb+W^i*(x*dv W (lb.take j))
theorem KF.step{la lb o:List Int}{j:Nat}{x c:Int}(h:KF la lb i j x o c)(hx:0<=x/\x<W)(hb:DG W lb)(hj:j<lb.length)(hi:i<la.length):
  KF la lb i (j+1) x (o.set (i+j) (XI (XI (J3 x (Qd lb j)) (Qd o (i+j)) 0) c 0))
   (Xv x (Qd lb j)+Xl (J3 x (Qd lb j)) (Qd o (i+j)) 0+Xl (XI (J3 x (Qd lb j)) (Qd o (i+j)) 0) c 0):=by
 obtain⟨h1,h2,h3,h4,h5⟩:=h;obtain⟨_,_,_,_,m1,m2,m3⟩:=Mv hx (Jb hb j) (Jb h2 (i+j)) h4;refine⟨by simpa using h1,h2.set _ m1.1 m1.2,?_,m2,?_⟩
 ·intro p hp;rw[K4 O,if_neg O];exact h3 p hp
 rw[G6 W O,XD,<-Nat.add_assoc,Int.pow_succ];generalize XI (XI (J3 x (Qd lb j)) (Qd o (i+j)) 0) c 0=lo at *
 generalize Xv x (Qd lb j)+Xl (J3 x (Qd lb j)) (Qd o (i+j)) 0+Xl (XI (J3 x (Qd lb j)) (Qd o (i+j)) 0) c 0=hi at *
 have e:W^(i+j)*(lo+W*hi)=W^(i+j)*(x*Qd lb j+Qd o (i+j)+c):=by rw[m3]
 rw[Int.pow_add]at *
 grind
theorem KF.row{la lb o:List Int}{x c:Int}(h:KF la lb i lb.length x o c)(hi:i<la.length)(hx:x=Qd la i):
  KF la lb (i+1) 0 0 (o.set (i+lb.length) c) 0:=by
 obtain⟨h1,h2,h3,h4,h5⟩:=h;refine⟨by simpa using h1,h2.set _ h4.1 h4.2,?_,⟨Int.le_refl _,Jm⟩,?_⟩
 ·intro p hp;rw[K4 O,if_neg O];exact h3 p O
 rw[G6 W O,h3 _ (Nat.le_refl _),XD,<-hx];rw[List.take_length]at h5;simp only[Int.mul_zero,Int.add_zero,Int.zero_mul,Int.sub_zero];rw[h5];grind
def KF.start(la lb:List Int):KF la lb 0 0 0 (List.replicate (la.length+lb.length) 0) 0:=by
 refine⟨wz,DG.replicate Jm _,?_,⟨Int.le_refl _,Jm⟩,by rw[Pp];simp⟩;intro p _;unfold Qd;split<;>simp
def KF.next{la lb o:List Int}{c y:Int}(h:KF la lb i 0 0 o c)(x:Int)(hc:c=0)(hy:y=0):KF la lb i 0 x o y:=by
 obtain⟨h1,h2,h3,h4,h5⟩:=h;subst hc hy;exact⟨h1,h2,h3,h4,by simpa using h5⟩
theorem DX(v v':Value)(la lb:List Int)(w:World)(ha:DG W la)(hb:DG W lb)(hs:SL w v Je la)(hs':SL w v' Je lb)(h1:la.length<=100000000000)(h2:lb.length<=100000000000):
  Calls prog 240 #[v,v'] w λe w'=>ZN w (λv w'=>∃l,SL w' v Je l/\DG W l/\NZ l/\dv W l=dv W la*dv W lb) e w':=by
 obtain⟨q,cap,rfl,hcap,hmax,hca⟩:=hs;obtain⟨q',cap',rfl,hcap',hmax',hcb⟩:=hs';have HA:=Lib.hid hca;clear hca;have HB:=Lib.hid hcb;clear hcb;have hmk:=λw=>YE (la.length+lb.length) O w;have ec:((la.length+lb.length:Nat):Int)=(la.length:Int)+lb.length:=O;simp only[ec]at hmk;clear ec;go_enter func240,ntmps240
 go_wp2
 go_loopw [22] (λi wr=>∃(k:Nat) (o:List Int),k<=la.length/\i = .int .i64 k/\KF la lb k 0 0 o 0/\Yd wr w.heap.size 289 Je o/\Ext w wr)
  (λi _=>la.length-(intOf i).toNat)
 case atStart=>exact⟨0,_,Nat.zero_le _,rfl,KF.start la lb,Yd.made w _ Je 0 _ _ rfl,(Ext.refl _).alloc _⟩
 case round =>
  obtain⟨k,o,hk,rfl,hI,hBl,hE⟩:=hrel;rename_i wr _;obtain⟨wo,rfl⟩:∃wo:World,wo=wr:=⟨_,rfl⟩;clear hmk;by_cases hlt:k<la.length
  ·obtain⟨b,off,rfl,hbl,hc⟩:=HA.out k hlt;rw[Zo hlt]at hc;have hc:=hE.cell hc;simp only[Je]at hc;have hx:=Jb ha k;have HI:=Lib.hid hI;clear hI;have HBl:=Lib.hid hBl;clear hBl;go_wp2
   go_loopw [29,8] (λj c wr=>∃(m:Nat) (o:List Int) (cc:Int),m<=lb.length/\j = .int .i64 m/\c = .int .u64 cc/\KF la lb k m (Qd la k) o cc/\Yd wr w.heap.size 289 Je o/\Ext w wr)
    (λj _ _=>lb.length-(intOf j).toNat)
   case atStart=>exact⟨0,o,0,Nat.zero_le _,rfl,rfl,HI.out.next _ rfl rfl,HBl.out,hE⟩
   case round =>
    clear HI HBl hE hc;obtain⟨m,o,cc,hm,rfl,rfl,hI,hBl,hE⟩:=hrel;by_cases hlt2:m<lb.length
    ·obtain⟨b2,off2,rfl,hb2,hc2⟩:=HB.out m hlt2;rw[Zo hlt2]at hc2;have hc2:=hE.cell hc2;simp only[Je]at hc2;have hst:=hI.step hx hb hlt2 hlt;obtain⟨hd1,hd2,hd3,hd4,hd5⟩:=hI;clear hd3 hd5;have hd1':=Lib.hid hd1;have hol:k+m<o.length:=O;clear hd1;have hy:=Jb hb m;have ho:=Jb hd2 (k+m);have hcell:=hBl.cell (i:=k+m) hol;rw[Zo hol]at hcell;simp only[Je]at hcell;have hfr:=hBl.frozen (k+m);have HBs:=Lib.hid (hBl.set (k+m) (XI (XI (J3 (Qd la k) (Qd lb m)) (Qd o (k+m)) 0) cc 0));have HS:=Lib.hid hst;clear hst hBl;obtain⟨g1,g2,g3,g4,g5,g6,_⟩:=Mv hx hy ho hd4;generalize hmy:Xv (Qd la k) (Qd lb m)=mh at *
     generalize hml:J3 (Qd la k) (Qd lb m)=ml at *
     have HMH:=Lib.hid hmy;have HML:=Lib.hid hml;clear hmy hml;have ha1:=λw=>Yr ml (Qd o (k+m)) 0 g2.1 ho.1 wu wu w;have ha2:=λw=>Yr (XI ml (Qd o (k+m)) 0) cc 0 g3.1 hd4.1 wu wu w;have b1:0<=mh+Xl ml (Qd o (k+m)) 0:=g4.1;have b2:mh+Xl ml (Qd o (k+m)) 0<=18446744073709551615:=by have:=g4.2;simp only[GN]at this;omega
     have b3:0<=mh+Xl ml (Qd o (k+m)) 0+Xl (XI ml (Qd o (k+m)) 0) cc 0:=g6.1;have b4:mh+Xl ml (Qd o (k+m)) 0+Xl (XI ml (Qd o (k+m)) 0) cc 0<=18446744073709551615:=by have:=g6.2;simp only[GN]at this;omega
     go_wp2_with (go_at_call 238;refine(Yt _ _ _ hx hy).mono ?_;rw[HMH.out,HML.out];rintro e w' ⟨rfl,rfl⟩)
     go_roundw
     case rel=>exact⟨m+1,_,_,O,by go_num,rfl,HS.out,HBs.out,Below.setCell hE wz _⟩
     case measure=>simp[intOf];omega
    have hk':m=lb.length:=O;subst hk';have hst:=hI.row hlt rfl;obtain⟨hd1,hd2,hd3,hd4,hd5⟩:=hI;clear hd3 hd5;have hol:k+lb.length<o.length:=O;clear hd1;have hcell:=hBl.cell (i:=k+lb.length) hol;rw[Zo hol]at hcell;simp only[Je]at hcell;have hfr:=hBl.frozen (k+lb.length);have HBs:=Lib.hid (hBl.set (k+lb.length) cc);have HS:=Lib.hid hst;clear hst hBl;go_wp2
    go_roundw
    case rel=>exact⟨k+1,_,O,by go_num,HS.out,HBs.out,Below.setCell hE wz _⟩
    case measure=>simp[intOf];omega
  have hk':k=la.length:=O;subst hk';obtain⟨hd1,hd2,hd3,hd4,hd5⟩:=hI;have hSL:=SL.G3 hBl (la.length+lb.length) O O;rw[List.take_of_length_le O,hd1]at hSL;have HSL:=Lib.hid hSL;rw[List.take_length]at hd5;have HF:=Lib.hid hd5;clear hd5 hSL hd1 hBl;go_wp2_with (go_at_call 307;refine(Kj _ _ _ HSL.out).mono ?_;rintro e w' ⟨⟨v',rfl,hv⟩,rfl⟩)
  go_ret
  exact⟨_,rfl,⟨_,hv,hd2.JA,Xm _,by rw[XG];have:=HF.out;simpa using this⟩,hE⟩
end Go.Proofs.YtpmehagnedbkhaaGreatDoor
