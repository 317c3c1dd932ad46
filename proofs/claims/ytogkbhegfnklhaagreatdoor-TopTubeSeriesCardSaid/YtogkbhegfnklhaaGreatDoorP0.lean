/- Steps of the proof of the theorem in the last file. -/
import Derived.Test.YtogkbhegfnklhaaGreatDoorV2
import Derived.WalkKit
import Derived.WalkSpells
import Derived.WalkLawsBesides
import Derived.Lib.Hide
import Derived.Deep.RegionHeld3
import Derived.StillTail
import Derived.Deep.LoopGhost
import Derived.IntWalk
import Derived.Test.YtogkbhegfnklhaaGreatDoorProg
import Derived.KernelRfl
import Derived.Deep.QuietTactic
import Derived.BigQuiet
import Derived.Laws.Externs
import Derived.Shelf.Strings.Builder1
import Derived.Shelf.Strings.Builder2
import Derived.Shelf.Small.Bits
import Derived.Shelf.Small.Wraps
import Derived.Shelf.Strconv.Atoi
import Derived.Shelf.Strconv.Itoa0
import Derived.Shelf.Strconv.Itoa1
import Derived.Shelf.LaysM
import Derived.Shelf.Strconv.Itoa2
import Derived.Shelf.Strconv.Itoa3
import Derived.Shelf.Strings.Search1
import Derived.Shelf.Strings.Search2
import Derived.Shelf.Strings.Cut
import Derived.Shelf.Strings.Prefix
import Derived.Shelf.Bits.Mul64
import Derived.Shelf.Strings.Repeat
import Derived.Ground.Names2Prog
import Derived.Shelf.Slices.Clone
import Derived.Shelf.Slices.SearchI
import Derived.Ground.SlgnProg
import Derived.Shelf.SlicesE.Clone
import Derived.Laws.BitsAllLaws
import Derived.StillTailTactics
import Derived.BigRegion
set_option linter.all false
set_option maxHeartbeats 4000000
open Go.Proofs.Tryz
open Int renaming mul_le_mul_of_nonneg_left -> aa,mul_le_mul_of_nonneg_right -> af,eq_ofNat_of_zero_le -> aj,mul_nonneg -> ak,le_of_lt -> aw,pow_succ -> aA,mul_ediv_add_emod -> aC,mul_comm -> aV,ediv_nonneg -> bh,natCast_pow -> bI,natCast_mul -> bJ,emod_nonneg -> bK,emod_lt_of_pos -> bL,emod_eq_of_lt -> bO,ediv_lt_of_lt_mul -> bP,le_refl -> bV,add_zero -> eu,mul_zero -> eL,toNat_natCast -> eY,lt_trichotomy -> eZ,natCast_emod -> e9,natCast_ediv -> fa,pow_add -> fg,mul_add -> fh,le_antisymm -> fk,tdiv_eq_ediv_of_nonneg -> fB,mul_le_mul -> fC,add_mul_emod_self_left -> fD,eq_of_mul_eq_mul_left -> fF,ediv_eq_zero_of_lt -> fM,emod_one -> jd,add_comm -> je,pow_pos -> jW,one_mul -> jX,mul_one -> jY,add_mul -> jZ
open Go.Lib renaming hid -> ae,bitLen -> bB,run_eql_slice_nil -> eP,trimPrefix -> iJ,hasPrefix -> ja,pow10Tab -> jS,cut -> jT
open List renaming take_of_length_le -> ah,replicate -> ai,length_take -> ao,length_append -> aH,nil_sublist -> aR,length_cons -> bD,append_assoc -> bN,replicate_zero -> bY,Sublist -> ep,drop_eq_getElem_cons -> ey,take_length -> eD,getD -> eE,nil_append -> eK,take_append_drop -> eM,replicate_succ -> eQ,dropLast_concat_getLast -> fe,append_nil -> ff,range -> fy,mapM_cons -> fz,sublist_cons_self -> fH,drop_eq_nil_of_le -> fI,set_append_right -> fL,replicate_succ' -> fS,erase_cons_head -> fT,zipIdx_cons -> im,length_drop -> iq,getElem_mem -> ir,length_nil -> ix,foldl_cons -> iy,drop_zero -> iD,map_cons -> iF
open Go.Sem renaming run_bind -> aq,run_pure -> aW
open Go.Shelf renaming Ren -> ar
open Go.Region renaming wanted -> au,ready -> az,binds -> aE,Mode -> bw,waitsFor -> bH,chainB -> fA,sinkB -> fG,waitsFor_spec -> fJ,seqB -> iG
open Go.Result renaming andThen_ok -> ax,ok -> jA
open Nat renaming le_refl -> ay,mul_comm -> aF,lt_or_ge -> aK,add_mul -> aM,lt_of_lt_of_le -> aT,min_eq_left -> aY,div_add_mod -> aZ,div_lt_iff_lt_mul -> bj,beq -> bm,mod_eq_of_lt -> bT,mul_le_mul_right -> bU,div_mul_le_self -> ek,le_trans -> er,zero_le -> eC,zero_add -> eI,mod_lt -> eV,sub_self -> eW,lt_trichotomy -> eX,pow_add -> fc,two_pow_pos -> fj,two_pow_add_eq_or_of_lt -> fq,mul_lt_mul_of_pos_right -> fu,add_zero -> fK,mul_div_mul_right -> fQ,le_of_ble_eq_true -> fR,mul_right_comm -> hJ,eq_zero_or_pos -> ia,add_right_comm -> ib,ble -> il,strongRecOn -> iC,mul_le_mul -> iE,sub_zero -> jc
open List.Sublist renaming refl -> aB,cons_cons -> ew,cons -> eN
open Go.Builtin renaming zeroCells -> aD,append_ -> eF,lenOf -> fp,firstCells -> fN,len_ -> iA
open Option.some renaming injEq -> aG,inj -> bz
open Go.Instr renaming sureAddr -> aQ,loadAt -> ee,fill -> eH,buildSlice -> ig,makeSlice -> iv,slice -> jb
open BitVec renaming ofInt -> aS,toNat_and -> fZ
open Go.RowKit.Below renaming setCell -> aX,heap_setCell -> eT,heap_alloc -> e8
open Go.Value renaming int -> bA
open Go.Exit renaming inBlock -> bF
open Go.Oper renaming upon -> bQ,wp -> eB,apart_spec -> fi
open Bool renaming and_eq_true -> bS,false_or -> iK
open Go.IntKind renaming bits -> bW,signed -> ic,wrap -> iz
open Go.IntWalk renaming i64_in -> bZ
open Option renaming map_some -> eG
open Go.Extern.MathBitsCarry renaming m64 -> eO,three -> fX,pair -> fY
open Go.World renaming setCell -> eR
open Array renaming foldl_toList -> eU,replicate -> fb,range -> fP,ext' -> jU,ext -> lk
open Go.Calls renaming mono -> fm
open Go.Act renaming put_comm -> fO,eval -> fW,put -> iw
open Go.Code renaming region -> fU
open Go.Addr renaming add -> fV
open Go.Ending renaming returned -> ij
open Go.Proofs.Builder renaming Extra -> iu
open And renaming intro -> iB
open Go.Proofs.LaysM renaming n284 -> iH,n171 -> iI
open Go.Proofs.Lays renaming n99 -> iL,n285 -> iM,n283 -> iN,n264 -> iO,n172 -> iP,n169 -> iQ,n145 -> iR,n134 -> iS,n129 -> iT,n125 -> iU,n122 -> iV,n105 -> iW,n103 -> iX,n101 -> iY
open Go.Op renaming shift -> iZ
open Ne renaming symm -> jV
def I{α:Sort _}{a:α}:a=a:=.refl a
def O{p:Prop}(h:p:=by omega):p:=h
def wi{p:Prop}(h:p:=by kernel_rfl):p:=h
def wg{p q:Prop}(h:p)(k:p->q:=by intro;omega):q:=k h
def wj{p:Prop}(h:p:=by decide):p:=h
def wk{p:Prop}(h:p:=by decide +kernel):p:=h
def wm{p:Prop}(h:p:=by rfl):p:=h
def wu{p:Prop}(h:p:=by simp):p:=h
def wv{p:Prop}(h:p:=by simp;omega):p:=h
def wy{α:Sort _}{G:α->Prop}(a:α)(_:G a):True:=trivial
def w6{α:Sort _}{G:α->Prop}(a:α)(h:G a):G a:=h
def w7{α:Sort _}{G H:α->Prop}(a:α)(h:G a/\H a):G a:=h.1
def w8{α:Sort _}{G H:α->Prop}(a:α)(h:G a/\H a):H a:=h.2
def w9{α:Type _}{l:List α}:ep l l:=.refl l
def tA{α:Type _}{l:List α}:ep [] l:=aR l
def tB{α:Type _}{a:α}{l:List α}:ep [a] (a::l):=.cons_cons _ (aR _)
def tC{α:Type _}{a b:α}{l:List α}:ep [a,b] (a::b::l):=.cons_cons _ (.cons_cons _ (aR _))
def tD{α:Type _}{a b c:α}{l:List α}:ep [a,b,c] (a::b::c::l):=.cons_cons _ (.cons_cons _ (.cons_cons _ (aR _)))
def tE{α:Type _}{a b:α}(h:a=b:=by kernel_rfl):some a=some b:=congrArg some h
namespace Go.Proofs.YtogkbhegfnklhaaGreatDoor
variable{w w' w0:World}{B E N b bytes i j k n off s:Nat}{a:Act}{args c cs l l' news z:List Value}{o:Obj}{ds la u:List Int}{A0 A1 A2 A3 A4 A5 A6 A7 A8 A9 α γ ι:Type}{ops:Array Oper}{Q Q':Exit->Act->World->Prop}{g:Bool}{K:Act->World->Prop}{x y:Operand}{bs bs' bs0:List (Nat×Obj)}{fr:Nat×Nat}{P:Program}{f:Obj->List (Nat×Obj)}{T' ty yT:TypeId}{fn:Func}{pos:String}{aft:Array Edge}{x1:Nat×Obj}{v1 v3 v4 v5 x2 x3 x4 x5 x6 x7 x8:Value}{ps:List (Nat×Value)}{k':IntKind}{ob:List _}{pl:List (Nat×Nat)}{h:Int}
open Go.RowKit
structure D1(α:Type) where
 val:α->Value
 ty:TypeId
instance{α:Type}:CoeFun (D1 α) (λ_=>α->Value):=⟨D1.val⟩
def JR:D1 Int:=⟨λx=>.int .u64 x,264⟩
def Kd(w:World)(b:Nat)(E:TypeId):Prop:=∃c fr,w.heap[b]?=some (.cells c E fr)
theorem Kd.lt(h:Kd w b E):b<w.heap.size:=by
 obtain⟨c,fr,h⟩:=h;rcases aK b w.heap.size with g | g
 ·exact g
 rw[Array.getElem?_eq_none g]at h;cases h
theorem Kd.uniq{E':Nat}(h:Kd w b E)(a:Kd w b E'):E=E':=by
 obtain⟨c,fr,h⟩:=h;obtain⟨f,d,a⟩:=a;rw[h]at a;cases a;rfl
def Row{α:Type}[Inhabited α](w:World)(b off:Nat)(enc:D1 α)(l:List α):Prop:=∀i,i<l.length->w.cell? ⟨b,off+i,none⟩=some (enc (l.getD i default))
abbrev Ext(w w':World):Prop:=Below w.heap.size w w'
theorem Ext.refl(w:World):Ext w w:=Below.refl _ _
def Ext.trans{a b c:World}(h:Ext a b)(k:Ext b c):Ext a c:=Below.trans h (Below.mono k h.size)
def Ext.QAr{a:World}(h:Ext a w)(h1:w'.os=w.os)(h2:w'.tape=w.tape)(h3:w'.output=w.output)(h4:w.heap.size<=w'.heap.size)(h5:∀i,i<a.heap.size->w'.heap[i]?=w.heap[i]?):Ext a w' :=
 ⟨h1.trans h.os,h2.trans h.tape,h3.trans h.output,er h.size h4,λi hi=>(h5 i hi).trans (h.block i hi)⟩
def Ext.alloc{a:World}(h:Ext a w)(o:Obj):Ext a (w.alloc o):=Below.alloc h h.size o
def Ext.drew{a:World}(h:Ext a w):Ext a w.drew:=Below.drew h
def Ext.drewN{a:World}(h:Ext a w)(n:Nat):Ext a (w.drewN n):=⟨h.os,h.tape,h.output,h.size,h.block⟩
def Ext.cell(h:Ext w w'){p:Addr}{v:Value}(hv:w.cell? p=some v):w'.cell? p=some v:=by
 rw[Below.cell h (World.block_lt_of_cell? w p hv)];exact hv
def Ext.Xh{a:World}(h:Ext a w){p:Addr}(hp:a.heap.size<=p.block)(u:Value):Ext a (w.setCell p u):=aX h hp u
theorem Kd.ext(h:Kd w b E)(k:Below w.heap.size w w'):Kd w' b E:=by
 obtain⟨c,fr,e⟩:=id h;exact⟨c,fr,by rw[k.block b h.lt];exact e⟩
def Cells{α:Type}[Inhabited α](w:World)(q:Option Addr)(enc:D1 α)(l:List α):Prop :=
 ∀i,i<l.length->∃b off,q=some ⟨b,off,none⟩/\Kd w b enc.ty/\w.cell? ⟨b,off+i,none⟩=some (enc (l.getD i default))
def XZ{o b' a:Nat}{v u:Value}(h:b≠b')(hc:w.cell? ⟨b,o,none⟩=some u):(w.setCell ⟨b',a,none⟩ v).cell? ⟨b,o,none⟩=some u:=by
 rw[World.cell?_setCell_other _ _ _ _ (λe=>h (congrArg Addr.block e).symm)];exact hc
def SL{α:Type}[Inhabited α](w:World)(v:Value)(enc:D1 α)(l:List α):Prop :=
 ∃q cap,v = .slice q l.length cap/\l.length<=cap/\(cap:Int)<=9223372036854775807/\Cells w q enc l
theorem Cells.ext[Inhabited α]{w w':World}(h:Ext w w'){q:Option Addr}{enc:D1 α}{l:List α}(hr:Cells w q enc l):Cells w' q enc l:=by
 intro i hi;obtain⟨b,off,h1,h2,h3⟩:=hr i hi;exact⟨b,off,h1,h2.ext h,h.cell h3⟩
def SL.ext[Inhabited α]{w w':World}(h:Ext w w'){v:Value}{enc:D1 α}{l:List α}(a:SL w v enc l):SL w' v enc l:=by
 obtain⟨q,cap,h1,h2,h3,h4⟩:=a;exact⟨q,cap,h1,h2,h3,h4.ext h⟩
def SL.nil[Inhabited α](w:World)(enc:D1 α):SL w (.slice none 0 0) enc ([]:List α) :=
 ⟨none,0,rfl,ay _,wj,λi hi=>by cases hi⟩
theorem Cells.take[Inhabited α]{w:World}{q:Option Addr}{enc:D1 α}{l:List α}(hr:Cells w q enc l)(n:Nat):Cells w q enc (l.take n):=by
 intro i hi;have h1:i<l.length:=by rw[ao]at hi;omega
 have h2:i<n:=by rw[ao]at hi;omega
 have e:(l.take n).getD i default=l.getD i default:=by simp[eE,h2]
 rw[e];exact hr i h1
theorem Row.cells[Inhabited α]{w:World}{b off:Nat}{enc:D1 α}{l:List α}(hr:Row w b off enc l)(hb:Kd w b enc.ty):Cells w (some ⟨b,off,none⟩) enc l :=
 λi hi=>⟨b,off,rfl,hb,hr i hi⟩
def YL{α:Type}(w:World)(b:Nat)(E:TypeId)(enc:D1 α)(l:List α):Prop:=w.heap[b]?=some (.cells (l.map enc.val).toArray E (0,0))
def YL.cell[Inhabited α]{w:World}{b E:Nat}{enc:D1 α}{l:List α}(h:YL w b E enc l){i:Nat}(hi:i<l.length):w.cell? ⟨b,i,none⟩=some (enc (l.getD i default)):=by
 have a:w.heap[b]?=some (.cells (l.map enc.val).toArray E (0,0)):=h;simp[World.cell?,a,hi,eE]
def YL.frozen{enc:D1 α}{l:List α}(h:YL w b E enc l)(i:Nat):w.frozen? ⟨b,i,none⟩=false:=by
 have a:w.heap[b]?=some (.cells (l.map enc.val).toArray E (0,0)):=h;simp[World.frozen?,a]
theorem YL.lt{enc:D1 α}{l:List α}(h:YL w b E enc l):b<w.heap.size:=by
 have a:w.heap[b]?=some (.cells (l.map enc.val).toArray E (0,0)):=h;rcases aK b w.heap.size with g | g
 ·exact g
 rw[Array.getElem?_eq_none g]at a;cases a
def YL.set{enc:D1 α}{l:List α}(h:YL w b E enc l)(i:Nat)(x:α):YL (w.setCell ⟨b,i,none⟩ (enc x)) b E enc (l.set i x):=by
 have c:w.heap[b]?=some (.cells (l.map enc.val).toArray E (0,0)):=h;have a:(l.set i x).map enc.val=(l.map enc.val).set i (enc x):=List.map_set;unfold YL eR;simp[Array.getElem?_modify,c,a]
def YL.ext{enc:D1 α}{l:List α}(h:YL w b E enc l)(k:Ext w w'):YL w' b E enc l:=by
 have:=k.block b h.lt;unfold YL;rw[this];exact h
theorem YL.row[Inhabited α]{w:World}{b E:Nat}{enc:D1 α}{l:List α}(h:YL w b E enc l):Row w b 0 enc l:=by
 intro i hi;rw[eI];exact h.cell hi
def YL.new(w:World)(E:Nat)(enc:D1 α)(l:List α)(c:Array Value)(hc:c=(l.map enc.val).toArray):YL (w.alloc (.cells c E)) w.heap.size E enc l:=by
 subst hc;show(w.heap.push _)[w.heap.size]?=_;simp
def YL.QKF(w:World)(b E:Nat)(enc:D1 α)(l:List α)(c:Array Value)(hc:c=(l.map enc.val).toArray)(hb:b=w.heap.size):YL (w.alloc (.cells c E)) b E enc l:=by
 subst hb;exact YL.new w E enc l c hc
def YL.drew{enc:D1 α}{l:List α}(h:YL w b E enc l):YL w.drew b E enc l:=h
theorem YL.made(w:World)(E:Nat)(enc:D1 α)(x:α)(n:Nat)(z:Value)(hz:z=enc x):YL (w.alloc (.cells (madeCells #[z] n) E)) w.heap.size E enc (ai n x):=by
 refine YL.new w E enc _ _ ?_;subst hz;apply lk
 ·simp[madeCells]
 intro i h1 h2;simp[madeCells,Nat.mod_one]
def YL.PM{enc:D1 α}{l:List α}(h:YL w b E enc l):Kd w b E:=⟨_,_,h⟩
def SL.Gx[Inhabited α]{w:World}{b:Nat}{enc:D1 α}{l:List α}(h:YL w b enc.ty enc l)(n:Nat)(a:n<=l.length)(hm:(l.length:Int)<=9223372036854775807):
  SL w (.slice (some ⟨b,0,none⟩) n l.length) enc (l.take n) :=
 ⟨_,l.length,by rw[ao,aY a],by rw[ao];omega,hm,(h.row.cells h.PM).take n⟩
def Bx(w:World)(b:Nat)(T:TypeId)(cs:List Value):Prop:=w.heap[b]?=some (.cells cs.toArray T (0,0))
def Bx.new(w:World)(T:TypeId)(c:Array Value):Bx (w.alloc (.cells c T)) w.heap.size T c.toList:=by
 show(w.heap.push _)[w.heap.size]?=_;simp
theorem Bx.lt{T:Nat}(h:Bx w b T cs):b<w.heap.size:=by
 have a:w.heap[b]?=some (.cells cs.toArray T (0,0)):=h;rcases aK b w.heap.size with g | g
 ·exact g
 rw[Array.getElem?_eq_none g]at a;cases a
def Bx.ext{T:Nat}(h:Bx w b T cs)(k:Ext w w'):Bx w' b T cs:=by
 unfold Bx;rw[k.block b h.lt];exact h
def Bx.alloc{T:Nat}(h:Bx w b T cs)(o:Obj):Bx (w.alloc o) b T cs:=h.ext ((Ext.refl w).alloc o)
def Bx.drew{T:Nat}(h:Bx w b T cs):Bx w.drew b T cs:=h
def Bx.at{T:Nat}(h:Bx w b T cs)(i:Nat)(c:Value)(hi:cs[i]?=some c):w.cell? ⟨b,i,none⟩=some c:=by
 have a:w.heap[b]?=some (.cells cs.toArray T (0,0)):=h;simp[World.cell?,a,hi]
def Bx.free{T:Nat}(h:Bx w b T cs)(i:Nat):w.frozen? ⟨b,i,none⟩=false:=by
 have a:w.heap[b]?=some (.cells cs.toArray T (0,0)):=h;simp[World.frozen?,a]
def Bx.two{T:Nat}{a c1:Value}(h:Bx w b T [a,c1]):w.cell? ⟨b,0,none⟩=some a/\w.cell? ⟨b,1,none⟩=some c1/\w.frozen? ⟨b,0,none⟩=false/\w.frozen? ⟨b,1,none⟩=false :=
 ⟨h.at 0 a rfl,h.at 1 c1 rfl,h.free 0,h.free 1⟩
def Bx.PM{T:Nat}(h:Bx w b T cs):Kd w b T:=⟨_,_,h⟩
def DT(E:TypeId):Prop:=E=264\/E=3
instance(E:TypeId):Decidable (DT E):=by unfold DT;infer_instance
structure Kp(w w':World):Prop where
 size:w.heap.size<=w'.heap.size
 block:∀b E,Kd w b E->DT E->w'.heap[b]?=w.heap[b]?
def Kp.refl(w:World):Kp w w:=⟨ay _,λ_ _ _ _=>rfl⟩
theorem Kp.trans{a b c:World}(h:Kp a b)(k:Kp b c):Kp a c :=
 ⟨er h.size k.size,λi E hi f=>by
  have e:=h.block i E hi f;have d:Kd b i E:=by obtain⟨x,fr,hx⟩:=hi;exact⟨x,fr,by rw[e];exact hx⟩
  exact(k.block i E d f).trans e⟩
theorem Kp.set{a:World}(h:Kp a w){R T:Nat}(c:Kd w R T)(f:¬DT T)(i:Nat)(v:Value):Kp a (w.setCell ⟨R,i,none⟩ v) :=
 h.trans ⟨by simp[eR],λb E hb d=>eT _ _ _ _ (by rintro rfl;exact f ((hb.uniq c) ▸ d))⟩
theorem Kd.set{T:Nat}(h:Kd w b T)(R i:Nat)(v:Value):Kd (w.setCell ⟨R,i,none⟩ v) b T:=by
 obtain⟨c,fr,h⟩:=h;by_cases e:b=R
 ·subst e;exact⟨_,_,by unfold eR;simp[Array.getElem?_modify,h];exact⟨rfl,rfl⟩⟩
 exact⟨c,fr,by rw[eT _ _ _ _ e];exact h⟩
theorem Kd.kp(h:Kd w b E)(k:Kp w w')(a:DT E):Kd w' b E:=by
 obtain⟨c,fr,e⟩:=id h;exact⟨c,fr,by rw[k.block b E h a];exact e⟩
theorem Cells.kp[Inhabited α]{w w':World}(k:Kp w w'){q:Option Addr}{enc:D1 α}(a:DT enc.ty){l:List α}(hr:Cells w q enc l):Cells w' q enc l:=by
 intro i hi;obtain⟨b,off,h1,h2,h3⟩:=hr i hi;exact⟨b,off,h1,h2.kp k a,by rw[World.cell?_of_block (w:=w) (k.block b _ h2 a)];exact h3⟩
open Go
section
variable{P:Program}{md:bw}
def Va(b:bw)(a:Array Oper)(n:Nat):Bool :=
 (fy n).all λi=>match a[i]? with
  |some o=>o.after.all λe=>!Region.binds b e||decide (e.on<i)
  |none=>false
theorem Xo(h:Va md ops n=true){i:Nat}(hi:i<n):∃o,ops[i]?=some o/\∀e∈o.after,aE md e=true->e.on<i:=by
 have h1:=List.all_eq_true.1 h i (List.mem_range.2 hi);cases a:ops[i]? with
 |none=>simp_all
 |some o =>
  rw[a]at h1;refine⟨o,rfl,λe he hb=>?_⟩;have h2:=Array.all_eq_true_iff_forall_mem.1 h1 e he;simp_all
def Vd(n m:Nat):Array Bool:=(fP m).map λi=>decide (i<n)
theorem AY{m:Nat}{a:Array Bool}(c:a.size=m)(h1:∀i,i<n->i<m->a.getD i false=true)(h2:∀i,n<=i->i<m->a.getD i false=false):a=Vd n m:=by
 apply lk
 ·grind[Vd]
 intro i hi d;have b:i<m:=O;by_cases h:i<n
 all_goals simp_all[Vd]
def jv(P:Program)(b:Array Oper)(Q:Exit->Act->World->Prop)(tl:List Oper):Exit->Act->World->Prop
 |.normal,a,w=>wpList P b Q tl a w
 |e,a,w=>Q e a w
theorem Db{l:List Oper}(hi:i<n):(l.take n).toArray[i]?=l.toArray[i]?:=by
 grind
theorem N3{l:List Oper}{b la:Array Bool}(H:n<l.length)(x:fG md l.toArray n=true)(hc:fA md l.toArray n=true)(z:Va md l.toArray n=true)
  (inv:HeadInv md l.toArray n la) (w:b.size=n) (a:∀i,i<n->la.getD i true=b.getD i true) {k:Nat} (hk:k<n) (m:b.getD k true=false) :
  (∀i,i∈az md l.toArray la↔i∈az md (l.take n).toArray b)/\az md (l.take n).toArray b≠[]:=by
 have c:∀i,i<n->la.getD i false=b.getD i false:=by
  intro i hi;have h:=a i hi;have h1:i<la.size:=by rw[inv.size];grind
  simp_all
 have d:∀i,i<n->(i∈az md l.toArray la↔i∈az md (l.take n).toArray b):=by
  intro i hi;rw[mem_ready,mem_ready,a i hi,Db hi];refine and_congr_right λ_=>exists_congr λo=>and_congr_right λy=>?_;obtain⟨F,f,E⟩:=Xo z hi
  grind
 have g:∃i,i<n/\b.getD i true=false/\∀j,j<i->b.getD j true=true:=by
  clear d a c
  induction k using iC<;>grind
 refine⟨λi=>?_,?_⟩
 ·by_cases hi:i<n
  ·simp_all
  constructor
  ·intro h;exact absurd h (tail_waits x hc O inv _ k rfl hk (by simp_all) i O)
  intro h;obtain⟨_,o,f,_⟩:=mem_ready.1 h;simp_all
 obtain⟨i,hi,h1,h2⟩:=g
 grind[az,mem_ready,Xo,Db]
theorem Nl:∀(f:Nat) (listed:Array Bool) (a:Act) (w:World),wpAny P md ops Q f listed a w->wpAny P md ops Q (f+1) listed a w
 |0,listed,a,w,h=>⟨λ_=>h.2,λi hi=>(by rw[h.1]at hi;cases hi)⟩
 |f+1,listed,a,w,h=>⟨h.1,λi hi=>wpOp_mono (λc w' b=>Nl f _ c w' b) (h.2 i hi)⟩
theorem UQ(f:Nat)(b:Array Bool)(a:Act)(w:World)(g:Nat)(h:wpAny P md ops Q g b a w):wpAny P md ops Q (f+g) b a w:=by
 induction f with
 |zero=>simp_all
 |succ f ih=>grind[Nl]
def TT(a:Array Oper)(n:Nat):Bool :=
 (fy n).all λi=>match a[i]? with
  |some o=>(match o.guard with | none=>true | some (g,_)=>decide (g<n))
  |none=>false
theorem Sh{l:List Oper}{g:Nat}(hg:g<n)(t:Array Value):yielded (l.take n).toArray t g=yielded l.toArray t g:=by
 grind[yielded,Db]
theorem Ow{l:List Oper}{tl:List Oper}(hi:i<n)(b:TT l.toArray n=true)
  (h:wpOp P (l.take n).toArray (jv P l.toArray Q tl) i K a w):wpOp P l.toArray Q i K a w:=by
 unfold wpOp at *
 rw[Db hi]at h;cases d:l.toArray[i]? with
 |none=>simp_all
 |some o =>
  simp_all;have c:au o (yielded (l.take n).toArray a.tmps)=au o (yielded l.toArray a.tmps):=by
   have h1:=List.all_eq_true.1 b i (List.mem_range.2 hi);unfold au;cases hg:o.guard with
   |none=>rfl
   |some f =>
    grind[Sh]
  rw[c]at h;trivial
theorem UP{l:List Oper}(Y:n<l.length)(L:fG md l.toArray n=true)(hc:fA md l.toArray n=true)(X:Va md l.toArray n=true)
  (K:TT l.toArray n=true) (g:iG md l.toArray (l.length-n) n (Vd n l.length)=true) :
  ∀(f:Nat) (lh la:Array Bool) (a:Act) (w:World),HeadInv md l.toArray n la->lh.size=n->(∀i,i<n->la.getD i true=lh.getD i true) ->
   wpAny P md (l.take n).toArray (jv P l.toArray Q (l.drop n)) f lh a w->wpAny P md l.toArray Q (f+(l.length-n)) la a w:=by
 have fin:∀(f:Nat) (lh la:Array Bool) (a:Act) (w:World),HeadInv md l.toArray n la->lh.size=n->(∀i,i<n->la.getD i true=lh.getD i true) ->
   az md (l.take n).toArray lh=[]->wpList P l.toArray Q (l.drop n) a w->wpAny P md l.toArray Q (f+(l.length-n)) la a w:=by
  intro f lh la a w inv c b hr h;have y:∀i,i<n->lh.getD i true=true:=by
   intro i hi;cases hv:lh.getD i true with
   |true=>rfl
   |false=>grind[absurd,N3]
  have z:la=Vd n l.length:=by
   refine AY (by simpa using inv.size) (λi hi H=>?_) λi hi H=>?_
   ·have h1:=(b i hi).trans (y i hi);have h2:i<la.size:=by rw[inv.size];omega
    simp_all
   exact getD_both (inv.tail i hi O)
  subst z;refine UQ f _ _ _ _ ?_;have:=wpAny_of_seq (l.drop n) n (Vd n l.length) a w (λj=>wu) (by simpa using g) h;simp_all
 intro f
 induction f with
 |zero=>intro lh la a w inv c b h;exact fin 0 lh la a w inv c b h.1 h.2
 |succ f ih =>
  intro lh la a w inv c b h;by_cases hr:az md (l.take n).toArray lh=[]
  ·exact fin (f+1) lh la a w inv c b hr (h.1 hr)
  obtain⟨k,hk⟩:=List.exists_mem_of_ne_nil _ hr;have F:=(mem_ready.1 hk);have E:k<n:=by
   grind
  have d:=(N3 Y L hc X inv c b E F.1).1;rw[show f+1+(l.length-n)=(f+(l.length-n))+1 by omega];refine⟨λh0=>absurd ((d k).2 hk) (by simp_all),λi hi=>?_⟩;have x:=(d i).1 hi;have m:i<n:=by
   obtain⟨_,o,U,_⟩:=mem_ready.1 x
   grind
  have h2:=Ow m K (h.2 i x);refine wpOp_mono (λa' w' h3=>ih _ _ a' w' (inv.set hi m) (by simp_all) (λj hj=>?_) h3) h2;by_cases hij:i=j
  ·simp_all
  simp_all
def Nv(l:List Oper)(n:Nat):Bool :=
 decide (n<l.length)&&fG .any l.toArray n&&fA .any l.toArray n&&Va .any l.toArray n&&TT l.toArray n&&iG .any l.toArray (l.length-n) n (Vd n l.length)
theorem ML{d:Nat}{l:List Oper}(n:Nat)(hm:P.follows .mixedOrders=true)(c:Nv l n=true)
  (h:wpAny P .any (l.take n).toArray (jv P l.toArray Q (l.drop n)) n (fb n false) a { w with drawn:=w.drawn+1 }):(fU d l.toArray true).wp P Q a w:=by
 simp[Nv,bS,decide_eq_true_eq]at c;obtain⟨⟨⟨⟨⟨k,f⟩,hc⟩,g⟩,hg⟩,b⟩:=c;refine wp_region_any hm ?_;have QGI:HeadInv .any l.toArray n (fb l.toArray.size false) :=
  ⟨wu,λj m _ o=>(by grind[getD_replicate_false]),λt _ ht=>getD_in (by simp_all) (getD_replicate_false _ _)⟩
 have:=UP k f hc g hg b n _ _ a { w with drawn:=w.drawn+1 } QGI wu
  (λi hi=>by
   have h1:i<l.length:=O;simp_all) h
 grind
def Jn:Op->Bool
 |.move _ | .assign _ | .pick .. | .nilCheck _ | .binOp .. | .unOp .. | .convert .. | .fieldAddr .. | .field .. | .indexAddr .. | .index .. | .extract .. | .slice .. | .build .. | .load .. | .makeFunc .. | .lookup ..=>true
 |.call { callee:=.builtin b,.. }=>match b with | .len | .cap | .min | .max=>true | _=>false
 |_=>false
section
variable{ops:Array Oper}{Q:Exit->Act->World->Prop}{S:World->Prop}
def RH(P:Program)(b:Array Oper)(Q:Exit->Act->World->Prop)(S:World->Prop):List Nat->Act->World->Prop
  | [],a,w=>Q .normal a w
  | i::r,a,w=>∃o,b[i]?=some o /\
      ((Jn o.op=true/\∃v,YieldsIf P b S o v a/\RH P b Q S r (a.put o.dst v) w) \/
       (Jn o.op=false/\wpOp P b (λ_ _ _=>False) i (λa' w'=>S w'/\RH P b Q S r a' w') a w))
theorem vc{o:Oper}(hi:ops[i]?=some o)(h:wpOp P ops (λ_ _ _=>False) i K a w):
  ∃u w' d,K ({ a with defers:=d }.put o.dst u) w':=by
 unfold wpOp at h;simp_all;split at h
 ·rcases h with h | ⟨_,_,_,h⟩
  ·unfold eB at h;generalize (execOp _ o).run P w=r at *
   cases r with
   |ok n w' =>
    cases n<;>simp[bQ]at h
    case value u=>exact⟨u,w',a.defers,h⟩
    case skip=>exact⟨undef,w',a.defers,h⟩
    case defer d=>grind
    case enter f args =>
     obtain⟨e,b,fr,g,_⟩:=h [];cases e with
     |returned u=>exact⟨u,b,a.defers,g⟩
     |panicked c=>trivial
     |outgrown=>obtain⟨_,_,h⟩:=g;trivial
    case row row args =>
     obtain⟨u,b,g,_⟩:=h default [];exact⟨u,b,a.defers,g⟩
   |halt x w'=>cases x<;>simp[bQ]at h<;>exact h.elim
  trivial
 exact⟨undef,w,a.defers,h⟩
theorem UO{oi oj:Oper}{v:Value}(hj:ops[j]?=some oj)(hap:oi.apart ops oj=true)(hsj:∀cs b,oj.op≠.select cs b)
  {K:Act->World->Prop} {a:Act} {w:World} (h:wpOp P ops (λ_ _ _=>False) j (λa' w'=>K (a'.put oi.dst v) w') a w) :
  wpOp P ops (λ_ _ _=>False) j K (a.put oi.dst v) w:=by
 obtain⟨h1,h2,h3⟩:=fi hap;unfold wpOp at *
 simp only[hj]at *
 rw[wanted_put oj a _ v h1];split
 ·rename_i hw;simp[hw,if_true]at h;rcases h with h | ⟨hasks,hlets⟩
  case inr=>exact .inr ⟨by unfold Oper.asks at *;rw[execOp_put oj hsj a _ v h1];omega,hlets⟩
  refine .inl ?_;unfold eB at *
  rw[execOp_put oj hsj a _ v h1];generalize (execOp _ oj).run P w=r at *
  cases r with
  |ok n w' =>
   cases n<;>simp[bQ]at h ⊢
   all_goals grind[fO,undef,Act.put_defers,fm,Rows.mono]
  |halt x w'=>cases x<;>simp[bQ]at h ⊢
 grind[fO,undef]
theorem YieldsIf.uniq{o:Oper}{v b:Value}(f:S w)(h:YieldsIf P ops S o v a)(c:YieldsIf P ops S o b a):v=b:=by
 rcases h with ⟨h1,h2⟩ | ⟨h1,h2⟩<;>rcases c with ⟨g1,d⟩ | ⟨g1,d⟩
 all_goals grind
theorem EY{x y:Oper}(h:x.apart ops y=true):y.apart ops x=true:=by
 obtain⟨h1,h2,h3⟩:=fi h;unfold Oper.apart
 grind
theorem Bj{j:Nat}{oj:Oper}{post:List Nat}(hoj:ops[j]?=some oj)(hq:Jn oj.op=true)(hsel:∀(j:Nat) (o:Oper) cs b,ops[j]?=some o->o.op≠.select cs b):
  ∀(pre:List Nat) (a:Act) (w:World),(∀k∈pre,∀ok,ops[k]?=some ok->oj.apart ops ok=true)->RH P ops Q S (pre++j::post) a w ->
   ∃v,YieldsIf P ops S oj v a/\RH P ops Q S (pre++post) (a.put oj.dst v) w
 |[],a,w,_,h=>by
  obtain⟨o,ho,h⟩:=h;simp_all
 |k::pre,a,w,hap,h=>by
  obtain⟨ok,hok,h⟩:=h;have hk:=hap k wu ok hok;obtain⟨p1,p2,p3⟩:=fi hk;rcases h with ⟨hqk,vk,hyk,h⟩ | ⟨hqk,h⟩
  ·obtain⟨v,hy,h⟩:=Bj hoj hq hsel pre _ w (λi hi=>hap i (by grind)) h;have hy':YieldsIf P ops S oj v a:=by
    refine hy.of_same ?_ ?_
    ·exact(execOp_put oj (λcs b=>hsel j oj cs b hoj) a _ vk p3).symm
    grind[wanted_put]
   refine⟨v,hy',ok,hok,.inl ⟨hqk,vk,?_,?_⟩⟩
   ·refine hyk.of_same ?_ ?_
    ·exact execOp_put ok (λcs b=>hsel k ok cs b hok) a _ v p1
    grind[wanted_put]
   rw[fO a v vk p2];exact h
  have h2:=wpOp_mono (λa' w' (h:S w'/\RH P ops Q S _ a' w')=>(⟨h.1,Bj hoj hq hsel pre a' w' (λi hi=>hap i (by grind)) h.2⟩ :
   S w'/\∃v,YieldsIf P ops S oj v a'/\RH P ops Q S _ _ w')) h
  obtain⟨u,w1,d,hS1,v0,hy0,_⟩:=vc hok h2;have back:∀(d:List _) (u v:Value),YieldsIf P ops S oj v ({ a with defers:=d }.put ok.dst u)->YieldsIf P ops S oj v a:=λd u v hy=>by
   refine hy.of_same ?_ ?_
   ·rw[execOp_put oj (λcs b=>hsel j oj cs b hoj) _ _ u p3];rfl
   grind[wanted_put]
  have hya:=back d u v0 hy0;refine⟨v0,hya,ok,hok,.inr ⟨hqk,?_⟩⟩;refine UO hok hk (λcs b=>hsel k ok cs b hok) ?_;have h3:wpOp P ops (λ_ _ _=>False) k (λa' w'=>(YieldsIf P ops S oj v0 a')/\(S w'/\∃v,YieldsIf P ops S oj v a'/\RH P ops Q S (pre++post) (a'.put oj.dst v) w')) a w:=by
   have PL:∀(u:Value),YieldsIf P ops S oj v0 _:=λu=>by
    refine hya.of_same ?_ ?_
    ·exact execOp_put oj (λcs b=>hsel j oj cs b hoj) a ok.dst u p3
    grind[wanted_put]
   have keepd:∀(d:Deferred) (u:Value),YieldsIf P ops S oj v0 ({ a with defers:=d::a.defers }.put ok.dst u):=λd u=>by
    refine hya.of_same ?_ ?_
    ·rw[execOp_put oj (λcs b=>hsel j oj cs b hoj) _ ok.dst u p3];rfl
    grind[wanted_put]
   clear h;unfold wpOp at h2 ⊢;simp only[hok]at h2 ⊢;split
   ·rename_i hw;simp only[hw,if_true]at h2;rcases h2 with h2 | h2
    case inr=>simp_all
    refine .inl ?_;unfold eB at *
    generalize (execOp a.eval ok).run P w=r at *
    simp_all[bQ,fm,Rows.mono]
   simp_all
  refine wpOp_mono (λa' w' h=>?_) h3;obtain⟨hy,hS,v,hy2,hl⟩:=h;have:v=v0:=YieldsIf.uniq hS hy2 hy;simp_all
end
section
variable{ops:Array Oper}{Q:Exit->Act->World->Prop}{S:World->Prop}
theorem RW(h:wpOp P ops (λ_ _ _=>False) i K a w):wpOp P ops Q i K a w:=by
 unfold wpOp at *
 cases ho:ops[i]? with
 |none=>simp_all
 |some o =>
  simp_all;split
  ·rename_i hw;rw[if_pos hw]at h;rcases h with h | ⟨_,_,_,h⟩
   ·refine .inl ?_;unfold eB at *
    generalize (execOp _ o).run P w=r at *
    cases r with
    |ok n w' =>
     cases n<;>simp[bQ]at h ⊢
     all_goals first
      |exact h
      |exact fm h λe w'' he=>by
        cases e with
        |returned u=>exact he
        |panicked c=>trivial
        |outgrown=>obtain⟨_,_,h⟩:=he;trivial
    |halt x w'=>cases x<;>simp[bQ]at h ⊢
   trivial
  simp_all
def Bh(a:bw)(acc:List Nat)(o:Oper):Nat:=o.after.foldl (λs e=>if aE a e then s ||| 2^e.on ||| acc.getD e.on 0 else s) 0
def R9(b:bw)(a:List Oper):List Nat:=a.foldl (λacc o=>acc++[Bh b acc o]) []
theorem PR{a:bw}{acc:List Nat}:∀(l:List Edge) (s:Nat),(l.foldl (λs e=>if aE a e then s ||| 2^e.on ||| acc.getD e.on 0 else s) s).testBit i=true ->
  s.testBit i=true\/∃e∈l,aE a e=true/\(i=e.on\/(acc.getD e.on 0).testBit i=true)
 |[],s,h=>.inl h
 |e::l,s,h=>by
  rcases PR l _ h with h | ⟨c,b,h⟩
  all_goals grind
theorem AH{a:bw}{acc:List Nat}{o:Oper}(h:(Bh a acc o).testBit i=true):∃e∈o.after,aE a e=true/\(i=e.on\/(acc.getD e.on 0).testBit i=true):=by
 unfold Bh at h;rw[<-eU]at h;rcases PR _ _ h with h | ⟨e,he,h⟩
 all_goals grind
theorem R8(a:bw):∀(l:List Oper) (acc:List Nat),∃r,l.foldl (λacc o=>acc++[Bh a acc o]) acc=acc++r/\r.length=l.length /\
  ∀k o,l[k]?=some o->r[k]?=some (Bh a (acc++r.take k) o)
 |[],acc=>⟨[],wu,rfl,λk o h=>by grind⟩
 |o::l,acc=>by
  obtain⟨r,h1,h2,h3⟩:=R8 a l (acc++[Bh a acc o]);refine⟨Bh a acc o::r,by grind,by grind,λk b h=>?_⟩;cases k<;>simp_all
theorem Il{a:bw}{l:List Oper}{o:Oper}(c:l[k]?=some o)(b:∀e∈o.after,aE a e=true->e.on<k)(h:((R9 a l).getD k 0).testBit i=true):
  ∃e∈o.after,aE a e=true/\(i=e.on\/((R9 a l).getD e.on 0).testBit i=true):=by
 obtain⟨r,h1,h2,h3⟩:=R8 a l []
 grind[R9,eE,AH,id,aK]
def lexB(a:bw)(l:List Oper):Bool :=
 let ms:=R9 a l
 Region.noSelect l.toArray&&Va a l.toArray l.length&&(fy l.length).all λj=>match l[j]? with
  |none=>false
  |some b=>(fy j).all λi=>match l[i]? with
   |none=>false
   |some oi=>if Jn oi.op||Jn b.op then(bH a l.toArray j i||oi.apart l.toArray b)else(ms.getD j 0).testBit i
theorem EI{l:List Oper}(h:lexB md l=true){i j:Nat}(b:i<j){oi a:Oper}(hi:l[i]?=some oi)(c:l[j]?=some a):
  if Jn oi.op||Jn a.op then(bH md l.toArray j i||oi.apart l.toArray a)=true else((R9 md l).getD j 0).testBit i=true:=by
 simp[lexB,bS]at h
 grind
theorem AF{l:List Oper}{a:Array Bool}(b:Va md l.toArray l.length=true)(m:∀j oj,l.toArray[j]?=some oj->a.getD j false=true->∀e∈oj.after,aE md e=true->a.getD e.on false=true):
  ∀(k:Nat) (o:Oper),l[k]?=some o->(∀e∈o.after,aE md e=true->a.getD e.on false=true)->∀i,((R9 md l).getD k 0).testBit i=true->a.getD i false=true:=by
 intro k
 induction k using iC with
 |_ k ih =>
  intro o g hd i hi;have hk:k<l.length:=by grind
  obtain⟨f,c,d⟩:=Xo b hk;have:f=o:=bz (c.symm.trans (by simp_all));subst this;obtain⟨e,he,hb,h⟩:=Il g d hi
  grind
theorem dG{l:List Oper}(hB:lexB md l=true)(hQ:∀c a d v w,Q (.panic c) (iw a d v) w->Q (.panic c) a w):
  ∀(m:Nat) (r:List Nat) (listed:Array Bool) (a:Act) (w:World),r.length=m->r.Pairwise (·<·)->(∀i,i∈r↔i<l.length/\listed.getD i true=false)->listed.size=l.length ->
   (∀j oj,l.toArray[j]?=some oj->listed.getD j false=true->∀e∈oj.after,aE md e=true->listed.getD e.on false=true)->S w->RH P l.toArray Q S r a w->wpAnyH P md l.toArray Q S m listed a w:=by
 have hB':=hB;simp only[lexB,bS]at hB';obtain⟨⟨hns,F⟩,_⟩:=hB';have hsel:=Region.noSelect_spec hns;intro m
 induction m with
 |zero =>
  intro r listed a w hm y hr hsz hcl hS h;have:r=[]:=List.length_eq_zero_iff.1 hm;subst this;refine⟨?_,h⟩;rw[List.eq_nil_iff_forall_not_mem];intro i hi;obtain⟨h1,o,ho,_⟩:=mem_ready.1 hi
  grind
 |succ m ih =>
  intro r listed a w hm y hr hsz hcl hS h
  match r,hm,y,hr,h with
  |i::r,hm,y,hr,h =>
  have hil:=(hr i).1 wu;have hmin:∀j,j<i->listed.getD j false=true:=by
   intro j f;cases hv:listed.getD j false with
   |true=>rfl
   |false =>
    have L:j<l.length:=O;have:=(hr j).2 ⟨L,getD_in O hv⟩;rcases List.mem_cons.1 this with e | e
    ·omega
    have:=(List.pairwise_cons.1 y).1 j e;omega
  obtain⟨oi,X,hed⟩:=Xo F hil.1;have z:i∈az md l.toArray listed:=mem_ready.2 ⟨hil.2,oi,X,λe he hb=>hmin _ (hed e he hb)⟩;have next:∀j,j∈az md l.toArray listed->j∈(i::r)->∀a' w',S w'->RH P l.toArray Q S ((i::r).erase j) a' w'->wpAnyH P md l.toArray Q S m (listed.setIfInBounds j true) a' w':=by
   intro j f K a' w' hS' h';have hjsz:j<listed.size:=by grind
   refine ih ((i::r).erase j) _ a' w' (by grind) (y.sublist List.erase_sublist) (λk=>?_) (by grind) (λk ok hk hl e he hb=>?_) hS' h'
   ·rw[List.Nodup.mem_erase_iff (y.imp λh=>Nat.ne_of_lt h),hr k];by_cases U:j=k
    ·subst U;simp
    rw[getD_set_ne true U];grind
   by_cases U:j=k
   ·subst U;obtain⟨_,oj,b,g⟩:=mem_ready.1 f
    grind[bz,getD_set_true]
   rw[getD_set_ne false U]at hl;exact getD_set_true (hcl k ok hk hl e he hb)
  have take:∀j oj,j∈az md l.toArray listed->l.toArray[j]?=some oj->Jn oj.op=true->j∈(i::r)->wpAnyH P md l.toArray Q S (m+1) listed a w:=by
   intro j oj f b hq K;obtain⟨pre,post,E⟩:=List.append_of_mem K;have hjs:=mem_ready.1 f;have happ:∀k ok,l.toArray[k]?=some ok->k≠j->listed.getD k true=false->(∀e∈ok.after,aE md e=true->e.on≠j)->oj.apart l.toArray ok=true:=by
    intro k ok x hkj hun hno;have hnw:bH md l.toArray k j=false:=by
     cases hv:bH md l.toArray k j with
     |false=>rfl
     |true =>
      obtain⟨o',H,e,he,hb,hon⟩:=fJ hv;have:o'=ok:=bz (H.symm.trans x);subst this;exact absurd hon (hno e he hb)
    have hnw2:bH md l.toArray j k=false:=by
     cases hv:bH md l.toArray j k with
     |false=>rfl
     |true =>
      obtain⟨o',H,e,he,hb,hon⟩:=fJ hv;obtain⟨_,o2,ho2,g⟩:=hjs;have:o'=o2:=bz (H.symm.trans ho2);subst this;have:=g e he hb;rw[hon,getD_both hun]at this;cases this
    rcases Nat.lt_or_gt_of_ne hkj with hlt | hgt
    ·have:=EI hB hlt (by simpa using x) (by simpa using b);rw[if_pos (by simp[hq]),hnw2]at this;exact EY (by simpa using this)
    have:=EI hB hgt (by simpa using b) (by simpa using x);rw[if_pos (by simp[hq]),hnw]at this;simpa using this
   have Y:=Bj (P:=P) (Q:=Q) (S:=S) b hq hsel pre a w (post:=post) (λk hk ok x=>by
    have hkr:k∈(i::r):=by rw[E];simp[hk]
    have hkj:k<j:=by
     rw[E]at y;exact(List.pairwise_append.1 y).2.2 k hk j wu
    refine happ k ok x O ((hr k).1 hkr).2 (λe he hb heq=>?_);obtain⟨o',H,hed'⟩:=Xo F ((hr k).1 hkr).1;have:o'=ok:=bz (H.symm.trans x);subst this;have:=hed' e he hb;omega) (by rw[<-E];exact h)
   obtain⟨v,hy,h'⟩:=Y;have herase:(i::r).erase j=pre++post:=by
    rw[E,List.erase_append_right,fT];intro hmem;rw[E]at y;have:=(List.pairwise_append.1 y).2.2 j hmem j wu;omega
   exact wpAnyH_first b hsel (λc a w h=>hQ c a _ v w h) m listed a w happ f hy hS (next j f K _ w hS (by rw[herase];exact h'))
  by_cases hex:∃j oj,j∈az md l.toArray listed/\l.toArray[j]?=some oj/\Jn oj.op=true
  ·obtain⟨j,oj,f,b,hq⟩:=hex;have L:j<l.length:=by have:=(Array.getElem?_eq_some_iff.1 b).1;simpa using this
   exact take j oj f b hq ((hr j).2 ⟨L,(mem_ready.1 f).1⟩)
  have hone:∀j∈az md l.toArray listed,j=i:=by
   intro j f;obtain⟨hjun,oj,b,g⟩:=mem_ready.1 f;have L:j<l.length:=by have:=(Array.getElem?_eq_some_iff.1 b).1;simpa using this
   have K:=(hr j).2 ⟨L,hjun⟩;rcases List.mem_cons.1 K with e | e
   ·exact e
   have hlt:=(List.pairwise_cons.1 y).1 j e;have hqj:Jn oj.op=false:=by
    cases hv:Jn oj.op with
    |false=>rfl
    |true=>exact absurd ⟨j,oj,f,b,hv⟩ hex
   have hqi:Jn oi.op=false:=by
    cases hv:Jn oi.op with
    |false=>rfl
    |true=>exact absurd ⟨i,oi,z,X,hv⟩ hex
   have:=EI hB hlt (by simpa using X) (by simpa using b);rw[if_neg (by simp[hqi,hqj])]at this;have:=AF F hcl j oj (by simpa using b) g i this;rw[getD_both hil.2]at this;cases this
  refine⟨λh0=>(by rw[h0]at z;cases z),λj f=>?_⟩;have:=hone j f;subst this;obtain⟨o,ho,h⟩:=h;have:o=oi:=bz (ho.symm.trans X);subst this;rcases h with ⟨hq,_⟩ | ⟨_,h⟩
  ·exact absurd ⟨j,o,z,ho,hq⟩ hex
  refine RW (wpOp_mono (λa' w' h=>⟨h.1,?_⟩) h);exact next j z wu a' w' h.1 (by rw[fT];exact h.2)
end
section
variable{Q:Exit->Act->World->Prop}{S:World->Prop}
def AI(P:Program)(b:Array Oper)(Q:Exit->Act->World->Prop)(S:World->Prop):List Oper->Act->World->Prop
  | [],a,w=>Q .normal a w
  | o::r,a,w =>
      (Jn o.op=true/\∃v,YieldsIf P b S o v a/\AI P b Q S r (a.put o.dst v) w) \/
       (Jn o.op=false/\if au o (yielded b a.tmps)then o.wp P a w (λa' w'=>S w'/\AI P b Q S r a' w') (λ_ _ _=>False)else S w/\AI P b Q S r (a.put o.dst undef) w)
theorem K2:∀(l:List Oper) (k:Nat) (a:Act) (w:World),(∀j,j<l.length->l[j]?=ops[k+j]?)->AI P ops Q S l a w->RH P ops Q S (List.range' k l.length) a w
 |[],k,a,w,_,h=>h
 |o::l,k,a,w,hl,h=>by
  have h0:ops[k]?=some o:=by simpa using(hl 0 wu).symm
  have hl':∀j,j<l.length->l[j]?=ops[k+1+j]?:=λj hj=>by
   have:=hl (j+1) (by grind)
   grind
  refine⟨o,h0,?_⟩;rcases h with ⟨h1,v,h2,h3⟩ | ⟨h1,h2⟩
  ·exact .inl ⟨h1,v,h2,K2 l _ _ w hl' h3⟩
  refine .inr ⟨h1,?_⟩;unfold wpOp;simp[h0];split
  ·rename_i hw;rw[if_pos hw]at h2;exact .inl (Oper.wp_mono (λa' w' h=>⟨h.1,K2 l _ a' w' hl' h.2⟩) h2)
  simp_all[if_neg,K2]
theorem H4{l:List Oper}(g:lexB .any l=true)(f:∀c a w,¬Q' (.panic c) a w){a:Act}{w:World}(b:S w)(h:AI P l.toArray Q' S l a w):
  wpAny P .any l.toArray Q' l.length (fb l.length false) a w:=by
 refine wpAny_of_held _ _ _ _ (dG g (λc a d v w h=>absurd h (f c _ w)) _ _ _ a w wu List.pairwise_lt_range' (λi=>?_) wu (λj k _ m=>(by grind[getD_replicate_false])) b (K2 l 0 a w (λj _=>wu) h));simp_all
def Xp(K:Act->World->Prop):Exit->Act->World->Prop
 |.normal,a,w=>K a w
 |_,_,_=>False
theorem Oper.jh{o:Oper}{Q:Exit->Act->World->Prop}(d:∀e a w,Q e a w->Q' e a w)(h:o.wp P a w K Q):o.wp P a w K Q':=by
 unfold eB at *
 generalize (execOp _ o).run P w=r at *
 cases r with
 |ok n w' =>
  cases n<;>simp[bQ]at h ⊢
  all_goals first
   |exact h
   |exact fm h λe b he=>by
     cases e with
     |returned u=>exact he
     |panicked c=>simp_all
     |outgrown=>obtain⟨a,w,h⟩:=he;exact⟨a,w,d _ _ _ h⟩
 |halt x w'=>cases x<;>simp[bQ]at h ⊢;simp_all
theorem Fy{Q:Exit->Act->World->Prop}(hq:∀e a w,Q e a w->Q' e a w)(h:wpOp P ops Q i K a w):wpOp P ops Q' i K a w:=by
 unfold wpOp at *
 cases ho:ops[i]? with
 |none=>simp_all
 |some o =>
  simp_all;split
  ·rename_i hw;rw[if_pos hw]at h;exact h.imp (Oper.jh hq) λ⟨h1,a,w,h2⟩=>⟨h1,a,w,hq _ _ _ h2⟩
  simp_all
theorem VH{Q:Exit->Act->World->Prop}(b:∀e a w,Q e a w->Q' e a w):∀(f:Nat) (listed:Array Bool) (a:Act) (w:World),wpAny P md ops Q f listed a w->wpAny P md ops Q' f listed a w
 |0,_,_,_,h=>⟨h.1,b _ _ _ h.2⟩
 |f+1,_,_,_,h=>⟨λh0=>b _ _ _ (h.1 h0),λi hi=>Fy b (wpOp_mono (λd w' c=>VH b f _ d w' c) (h.2 i hi))⟩
def P7{b:Nat}{l:List Oper}(hm:P.follows .mixedOrders=true)(f:lexB .any l=true)(d:S { w with drawn:=w.drawn+1 })
  (h:AI P l.toArray (Xp (Q .normal)) S l a { w with drawn:=w.drawn+1 }):(fU b l.toArray true).wp P Q a w:=by
 refine wp_region_any hm ?_;have:=H4 f (λc a w h=>h) d h;simpa using VH (λe a w h=>by cases e<;>first | exact h | trivial) _ _ _ _ this
theorem Hq{b:Nat}{l:List Oper}(n:Nat)(hm:P.follows .mixedOrders=true)(f:Nv l n=true)(uQ:lexB .any (l.take n)=true)(d:S { w with drawn:=w.drawn+1 })
  (h:AI P (l.take n).toArray (Xp λa w=>wpList P l.toArray Q (l.drop n) a w) S (l.take n) a { w with drawn:=w.drawn+1 }):(fU b l.toArray true).wp P Q a w:=by
 refine ML n hm f ?_;have g:n<l.length:=by simp_all[Nv,bS,decide_eq_true_eq]
 have:=H4 uQ (λc a w h=>h) d h;have e:(l.take n).length=n:=by grind
 rw[e]at this;exact VH (λe a w h=>by cases e<;>first | exact h | trivial) _ _ _ _ this
end
end
abbrev Gs:=Nat->Option (Array Value×TypeId)
variable{F F0:Gs}{G:Gs->Prop}
def Gs.le(F a:Gs):Prop:=∀b x,F b=some x->a b=some x
theorem Gs.le_refl(F:Gs):Gs.le F F:=λ_ _ h=>h
theorem Gs.le_trans{c a:Gs}(h:Gs.le F c)(k:Gs.le c a):Gs.le F a:=λb x hx=>k b x (h b x hx)
class Up(A:Gs->Prop):Prop where
 up:∀ {F F':Gs},Gs.le F F'->A F->A F'
instance :Up (λ_=>True):=⟨λ_ _=>trivial⟩
instance{A B:Gs->Prop}[a:Up A][b:Up B]:Up (λF=>A F/\B F):=⟨λk h=>⟨a.up k h.1,b.up k h.2⟩⟩
class Dr where
 on:Prop
instance(priority:=10) QNR:Dr:=⟨False⟩
class Df where
 ds:List Deferred
instance(priority:=10) Hi:Df:=⟨[]⟩
structure RU[Dr](w w':World):Prop extends Below w.heap.size w w' where
 dr:Dr.on->w.drawn<=w'.drawn
section
variable[Dr]
theorem RU.refl(w:World):RU w w:=⟨Ext.refl w,λ_=>ay _⟩
theorem RU.trans{a b c:World}(h:RU a b)(k:RU b c):RU a c:=⟨Ext.trans h.toBelow k.toBelow,λd=>er (h.dr d) (k.dr d)⟩
theorem RU.alloc{a:World}(h:RU a w)(o:Obj):RU a (w.alloc o):=⟨Ext.alloc h.toBelow o,h.dr⟩
theorem RU.drew{a:World}(h:RU a w):RU a w.drew:=⟨Ext.drew h.toBelow,λd=>Nat.le_succ_of_le (h.dr d)⟩
end
def RU.of(h:Ext w w'):RU w w':=⟨h,λd=>d.elim⟩
section
variable[Dr][df:Df]
structure Fits(F:Gs)(w:World):Prop where
 row:∀b c T,F b=some (c,T)->∃fr,w.heap[b]?=some (.cells c T fr)
 all:∀b c fr,w.heap[b]?=some (.cells c 264 fr)->F b=some (c,264)
theorem Fits.drew(h:Fits F w):Fits F w.drew:=⟨h.row,h.all⟩
theorem Fits.lt(h:Fits F w){b:Nat}{x:Array Value×TypeId}(hb:F b=some x):b<w.heap.size:=by
 obtain⟨fr,h⟩:=h.row b x.1 x.2 hb
 grind
theorem Fits.none(h:Fits F w){b:Nat}(hb:w.heap.size<=b):F b=none:=by
 cases hv:F b with
 |none=>rfl
 |some x=>have:=h.lt hv;omega
abbrev Sl:=List (Nat×Value)
def look:Sl->Nat->Option Value
 |[],_=>none
 |(k,v)::r,t=>bif bm k t then some v else look r t
def upd(m:Sl):Option Tmp->Value->Sl
 |some d,v=>(d,v)::m
 |none,_=>m
def ev(m:Sl):Operand->Option Value
 |.tmp t=>look m t
 |.const v=>some v
 |.global g=>some (.pointer (some ⟨g,0,none⟩))
 |.func f=>some (.func (.func f) #[] #[])
def Hk(m:Sl):List Operand->Option (List Value)
 |[]=>some []
 |x::r=>match ev m x,Hk m r with
  |some v,some l=>some (v::l)
  |_,_=>none
def Jx(N:Nat)(d:Option Tmp):Bool:=match d with | some d=>Nat.blt d N | none=>true
structure JH(N:Nat)(m:Sl)(a:Act):Prop where
 size:a.tmps.size=N
 df:a.defers=Df.ds
 get:∀t v,look m t=some v->a.tmps[t]?=some v
theorem JH.ev{m:Sl}(h:JH N m a){x:Operand}{v:Value}(hx:ev m x=some v):a.eval x=v:=by
 cases x with
 |tmp t=>have:=h.get t v hx;simp[fW,this]
 |const b=>grind[YtogkbhegfnklhaaGreatDoor.ev,fW]
 |global g=>grind[YtogkbhegfnklhaaGreatDoor.ev,fW]
 |func f=>grind[YtogkbhegfnklhaaGreatDoor.ev,fW]
theorem JH.Hk{m:Sl}(h:JH N m a):∀ {l:List _} {vs:List Value},Hk m l=some vs->l.map a.eval=vs
 |[],vs,e=>by grind[YtogkbhegfnklhaaGreatDoor.Hk]
 |x::l,vs,e=>by
  unfold YtogkbhegfnklhaaGreatDoor.Hk at e;cases hx:YtogkbhegfnklhaaGreatDoor.ev m x with
  |none=>simp_all
  |some v =>
   cases b:YtogkbhegfnklhaaGreatDoor.Hk m l with
   |none=>simp_all
   |some r =>
    rw[hx,b]at e;simp at e;subst e;rw[iF,h.ev hx,h.Hk b]
theorem JH.put{m:Sl}(h:JH N m a){d:Option Tmp}(hd:Jx N d=true)(v:Value):JH N (upd m d v) (a.put d v):=by
 cases d with
 |none=>exact h
 |some d =>
  have b:d<N:=by simp_all[Jx]
  refine⟨by simp[iw,h.size],h.df,λt u ht=>?_⟩;simp[upd,look]at ht;cases hb:bm d t with
  |true =>
   have:d=t:=by simp_all
   subst this;have:v=u:=by simp_all
   subst this;simp[iw,h.size,b]
  |false =>
   rw[hb]at ht;have c:d≠t:=by intro e;simp_all
   have:=h.get t u (by trivial)
   grind[iw]
def Yb(m:Sl):Sl->Prop
 |[]=>True
 |(t,v)::r=>look m t=some v/\Yb m r
theorem JH.sub{m:Sl}(h:JH N m a):∀ {m':Sl},Yb m m'->JH N m' a
 |[],_=>⟨h.size,h.df,λt v e=>by trivial⟩
 |(k,u)::r,⟨h1,h2⟩=>by
  refine⟨h.size,h.df,λt v e=>?_⟩;simp[look]at e;cases hb:bm k t with
  |true =>
   have:k=t:=by simp_all
   subst this;have:u=v:=by simp_all
   subst this;exact h.get _ _ h1
  |false=>rw[hb]at e;exact(h.sub h2).get t v (by trivial)
structure Env where
 w0:World
 F0:Gs
 bs:List (Nat×Obj)
 G:Gs->Prop
structure jB(E:Env)(w:World)(F:Gs):Prop where
 le:Gs.le E.F0 F
 old:∀b,b<E.w0.heap.size->F b=E.F0 b
 fits:Fits F w
 ext:RU E.w0 w
 bx:∀k∈E.bs,w.heap[k.1]?=some k.2/\E.w0.heap.size<=k.1/\F k.1=none
 nd:(E.bs.map (·.1)).Nodup
 g:∀F',Gs.le F F'->E.G F'
def St(E:Env)(w:World):Prop:=∃F,jB E w F
theorem jB.drew{E:Env}(h:jB E w F):jB E w.drew F:=⟨h.le,h.old,h.fits.drew,h.ext.drew,h.bx,h.nd,h.g⟩
theorem St.drew{E:Env}(h:St E w):St E w.drew:=h.imp λ_ h=>h.drew
theorem jB.hG{E:Env}(h:jB E w F):E.G F:=h.g F (Gs.le_refl F)
theorem St.start(a:Fits F w){G:Gs->Prop}(hg:∀F',Gs.le F F'->G F'):St ⟨w,F,[],G⟩ w :=
 ⟨F,Gs.le_refl F,λ_ _=>rfl,a,RU.refl w,λ_ h=>(by cases h),List.nodup_nil,hg⟩
theorem St.imp{bs bs':List _}{G':Gs->Prop}(h:St ⟨w0,F0,bs,G⟩ w)(hb:bs'.Sublist bs)(hg:∀F,G F->G' F):St ⟨w0,F0,bs',G'⟩ w:=by
 obtain⟨F,h⟩:=h;exact⟨F,h.le,h.old,h.fits,h.ext,λk hk=>h.bx k (hb.subset hk),(hb.map _).nodup h.nd,λF' a=>hg F' (h.g F' a)⟩
theorem St.GW{bs:List _}{G':Gs->Prop}(h:St ⟨w0,F0,bs,G⟩ w)(hg:∀F,G F->G' F):St ⟨w0,F0,bs,G'⟩ w:=h.imp (aB _) hg
theorem CQ{x:α}{l r:List α}(h:(l++x::r).Nodup):x∉l++r/\(l++r).Nodup:=by
 grind
theorem St.alloc{bs:List _}(h:St ⟨w0,F0,bs,G⟩ w)(o:Obj)(f:∀c fr,o≠.cells c 264 fr):St ⟨w0,F0,(w.heap.size,o)::bs,G⟩ (w.alloc o):=by
 obtain⟨F,h⟩:=h;have a:∀k∈bs,k.1≠w.heap.size:=λk hk e=>by
  have:=(h.bx k hk).1;simp_all
 refine⟨F,⟨h.le,h.old,⟨λb c T hb=>?_,λb c fr hb=>?_⟩,h.ext.alloc o,λk hk=>?_,?_,h.g⟩⟩
 ·obtain⟨fr,e⟩:=h.fits.row b c T hb
  grind[e8]
 ·rcases aK b _ with g | g
  ·rw[e8 _ _ _ g]at hb;exact h.fits.all b c fr hb
  have d:(w.heap.push o)[b]?=some _:=hb
  grind
 ·rcases List.mem_cons.1 hk with rfl | hk
  ·exact⟨by show(w.heap.push o)[w.heap.size]?=_;simp,h.ext.size,h.fits.none (ay _)⟩
  obtain⟨h1,h2,h3⟩:=h.bx k hk
  grind[aK,e8]
 refine List.nodup_cons.2 ⟨λhm=>?_,h.nd⟩
 grind
theorem jB.freeze{pre post:List _}{c:Array Value}{T:TypeId}(h:jB ⟨w0,F0,pre++(b,.cells c T fr)::post,G⟩ w F):
  jB ⟨w0,F0,pre++post,G⟩ w (λi=>if i=b then some (c,T)else F i)/\Gs.le F (λi=>if i=b then some (c,T)else F i):=by
 obtain⟨h1,h2,h3⟩:=h.bx (b,.cells c T fr) wu;have a:Gs.le F (λi=>if i=b then some (c,T)else F i):=λi x hx=>by
  grind
 have d:=h.nd;simp at d;have o:=(CQ d);refine⟨⟨Gs.le_trans h.le a,λi hi=>?_,⟨λi m T' hi=>?_,λi m j hi=>?_⟩,h.ext,λk hk=>?_,?_,λF' f=>h.g F' (Gs.le_trans a f)⟩,a⟩
 ·have:i≠b:=by grind
  rw[if_neg this];exact h.old i hi
 ·by_cases e:i=b
  ·simp_all
  rw[if_neg e]at hi;exact h.fits.row i m T' hi
 ·by_cases e:i=b
  ·simp_all
  rw[if_neg e];exact h.fits.all i m j hi
 ·obtain⟨g1,z,y⟩:=h.bx k (by
   grind)
  grind
 simp_all
theorem St.freeze(pre:List _){post:List _}{b:Nat}{c:Array Value}{T:TypeId}{fr:Nat×Nat}{G:Gs->Prop}{w:World}(h:St ⟨w0,F0,pre++(b,.cells c T fr)::post,G⟩ w):
  St ⟨w0,F0,pre++post,λF=>G F/\F b=some (c,T)⟩ w:=by
 obtain⟨F,h⟩:=h;obtain⟨h1,d⟩:=h.freeze;exact⟨_,h1.le,h1.old,h1.fits,h1.ext,h1.bx,h1.nd,λF' a=>⟨h1.g F' a,a b _ wu⟩⟩
theorem St.write(pre:List _){post:List _}{b:Nat}{o a:Obj}{G:Gs->Prop}{w w':World}(h:St ⟨w0,F0,pre++(b,o)::post,G⟩ w)
  (j:w'.heap=w.heap.setIfInBounds b a/\w'.os=w.os/\w'.tape=w.tape/\w'.output=w.output/\w'.drawn=w.drawn) (H:∀c fr,a≠.cells c 264 fr):St ⟨w0,F0,pre++(b,a)::post,G⟩ w':=by
 obtain⟨F,h⟩:=h;obtain⟨h1,h2,h3⟩:=h.bx (b,o) wu;have y:b<w.heap.size:=by
  grind
 have f:∀i,i≠b->w'.heap[i]?=w.heap[i]?:=λi hi=>by grind
 have E:w'.heap[b]?=some a:=by simp_all
 have m:w'.heap.size=w.heap.size:=by simp_all
 have x:=h.nd;refine⟨F,⟨h.le,h.old,⟨λi c T hi=>?_,λi c fr hi=>?_⟩,⟨Ext.QAr h.ext.toBelow ?_ ?_ ?_ ?_ ?_,λd=>by rw[j.2.2.2.2];exact h.ext.dr d⟩,λk hk=>?_,?_,h.g⟩⟩
 ·have:i≠b:=by grind
  rw[f i this];exact h.fits.row i c T hi
 ·by_cases e:i=b
  ·simp_all
  rw[f i e]at hi;exact h.fits.all i c fr hi
 ·simp_all
 ·simp_all
 ·simp_all
 ·omega
 ·grind
 ·have key:k=(b,a)\/k∈pre++post:=by
   grind
  rcases key with rfl | z
  ·trivial
  obtain⟨g1,L,K⟩:=h.bx k (by
   grind)
  grind
 simp_all
end
variable{m:Sl}
section
variable[Dr][df:Df]
section
variable{P:Program}{Q:Exit->Act->World->Prop}{N:Nat}{m:Sl}{E:Env}
def Fin(Q:Exit->Act->World->Prop)(e:Exit)(N:Nat)(m:Sl)(E:Env):Prop:=∀a w,JH N m a->St E w->Q e a w
def J(P:Program)(c:Code)(Q:Exit->Act->World->Prop)(N:Nat)(m:Sl)(E:Env):Prop:=∀a w,JH N m a->St E w->c.wp P Q a w
def JS(P:Program)(b:Array Oper)(Q:Exit->Act->World->Prop)(l:List Oper)(N:Nat)(m:Sl)(E:Env):Prop:=∀a w,JH N m a->St E w->wpList P b Q l a w
def JD(P:Program)(b:Array Oper)(Q:Exit->Act->World->Prop)(E0:Env)(l:List Oper)(N:Nat)(m:Sl)(E:Env):Prop:=(∀w,St E w->St E0 w)->∀a w,JH N m a->St E w->AI P b Q (St E0) l a w
theorem QG{x y:Code}(h:J P x (Exit.then (y.wp P Q) Q) N m E):J P (.seq x y) Q N m E:=λa w ha b=>wp_seq (h a w ha b)
theorem QQ{b:Nat}{c:Code}(h:J P c (bF b Q) N m E):J P (.block b c) Q N m E:=λa w ha d=>wp_block (h a w ha d)
theorem QN(h:Fin Q .normal N m E):J P .skip Q N m E:=λa w ha b=>wp_skip (h a w ha b)
theorem Kc{b:Nat}(h:Fin Q (.exit b) N m E):J P (.exit b) Q N m E:=λa w ha c=>wp_exit (h a w ha c)
theorem QW(h:Fin Q .ret N m E):J P .ret Q N m E:=λa w ha b=>wp_ret (h a w ha b)
theorem QP{c:Operand}{x y:Code}{t:Bool}(hc:ev m c=some (.bool t))(ht:t=true->J P x Q N m E)(d:t=false->J P y Q N m E):J P (.cond c x y) Q N m E :=
 λa w ha b=>wp_cond_split (ha.ev hc) (λh=>ht h a w ha b) λh=>d h a w ha b
theorem WV{c:Operand}{x y:Code}(hc:ev m c=some (.bool true))(h:J P x Q N m E):J P (.cond c x y) Q N m E:=QP hc (λ_=>h) λh=>by cases h
theorem Zq{c:Operand}{x y:Code}(hc:ev m c=some (.bool false))(h:J P y Q N m E):J P (.cond c x y) Q N m E:=QP hc (λh=>by cases h) λ_=>h
theorem QD{y:Code}(h:J P y Q N m E):Fin (Exit.then (y.wp P Q) Q) .normal N m E:=h
theorem XI{a:Nat}(h:Fin Q (.exit a) N m E):Fin (Exit.then K Q) (.exit a) N m E:=h
theorem Pv(h:Fin Q .ret N m E):Fin (Exit.then K Q) .ret N m E:=h
theorem Qf{a:Nat}(h:Fin Q .normal N m E):Fin (bF a Q) .normal N m E:=h
theorem MJ{a:Nat}(h:Fin Q .ret N m E):Fin (bF a Q) .ret N m E:=h
theorem XJ{b:Nat}(h:Fin Q .normal N m E):Fin (bF b Q) (.exit b) N m E:=λa w ha c=>by simp only[bF,if_true];exact h a w ha c
theorem XA{c b:Nat}(hid:bm b c=false)(h:Fin Q (.exit b) N m E):Fin (bF c Q) (.exit b) N m E:=λa w ha d=>by
 have:b≠c:=by rintro rfl;simp at hid
 simp only[bF,if_neg this];exact h a w ha d
theorem Q7{a:Nat}{q:Prop}(k:q)(h:q->J P (.exit a) Q N m E:=by intro x;refine Kc ?_;(repeat first|refine XI ?_|refine XA wm ?_);refine XJ ?_;(try refine Qf ?_);refine QD ?_;exact x):J P (.exit a) Q N m E:=h k
theorem X4{q:Prop}(k:q)(h:q->J P .ret Q N m E:=by intro x;refine QW ?_;(repeat first|refine Pv ?_|refine MJ ?_);exact x):J P .ret Q N m E:=h k
def Ou{ι:Type}(N:Nat)(w0:World)(F0:Gs)(M:ι->Sl)(B:ι->List (Nat×Obj))(H:ι->Gs->Prop)(μ:ι->Nat)(i:ι)(a:Act)(w:World):Prop :=
 ∃j,μ j<μ i/\JH N (M j) a/\St ⟨w0,F0,B j,H j⟩ w
theorem Xd{c:Code}(M:ι->Sl)(B:ι->List (Nat×Obj))(H:ι->Gs->Prop)(μ:ι->Nat)(b:ι)
  (hm:Yb m (M b)) (hb:(B b).Sublist bs) (hg:∀F,G F->H b F)
  (round:∀i,J P c (Exit.then (Ou N w0 F0 M B H μ i) Q) N (M i) ⟨w0,F0,B i,H i⟩):J P (.loop c) Q N m ⟨w0,F0,bs,G⟩:=by
 intro a w ha d;refine wp_loop_ghost (λn a w=>∃i,μ i=n/\JH N (M i) a/\St ⟨w0,F0,B i,H i⟩ w) (μ b) ⟨b,rfl,ha.sub hm,d.imp hb hg⟩ ?_;rintro n a w ⟨i,rfl,ha,d⟩;refine wp_mono (round i a w ha d) ?_;intro e f w' h;cases e with
 |normal=>obtain⟨j,h1,h2,h3⟩:=h;exact⟨μ j,h1,j,rfl,h2,h3⟩
 |_=>exact h
theorem Qh{M:ι->Sl}{B:ι->List (Nat×Obj)}{H:ι->Gs->Prop}{μ:ι->Nat}{i:ι}(j:ι)(b:μ j<μ i:=by dsimp only;omega)
  (hm:Yb m (M j):=by repeat' (first | exact trivial | refine⟨rfl,?_⟩)) (hb:(B j).Sublist bs:=by first | exact aB _ | (repeat' (first | exact aB _ | exact aR _ | refine ew _ ?_ | refine eN _ ?_))) (hg:∀F,G F->H j F:=by intro F h;first | exact h | exact⟨h,trivial⟩ | (repeat' (first | exact trivial | exact h.2 | exact h.1.2 | exact h.1.1.2 | exact h.1.1.1.2 | exact h.1.1.1.1.2 | exact h.1.1.1.1.1.2 | exact h.1.1.1.1.1.1.2 | exact h.1.1.1.1.1.1.1.2 | exact h.1.1.1.1.1.1.1.1.2 | exact h.1.1.1.1.1.1.1.1.1.2 | exact h.1 | exact h.1.1 | exact h.1.1.1 | exact h.1.1.1.1 | exact h.1.1.1.1.1 | exact h.1.1.1.1.1.1 | exact h.1.1.1.1.1.1.1 | exact h.1.1.1.1.1.1.1.1 | exact h.1.1.1.1.1.1.1.1.1 | refine iB ?_ ?_))):Fin (Exit.then (Ou N w0 F0 M B H μ i) Q) .normal N m ⟨w0,F0,bs,G⟩ :=
 λa w ha c=>⟨j,b,ha.sub hm,c.imp hb hg⟩
theorem QB{b:Nat}{l:List Oper}(h:JS P l.toArray Q l N m E):J P (.region b l.toArray false) Q N m E:=λa w ha c=>wp_region_lit (h a w ha c)
variable{ops:Array Oper}{l:List Oper}{E0:Env}
theorem QE(h:Fin Q .normal N m E):JS P ops Q [] N m E:=h
theorem kX(h:∀a w,JH N m a->St E w->K a w):JD P ops (Xp K) E0 [] N m E:=λ_=>h
def Qt(P:Program)(N:Nat)(m:Sl)(S:World->Prop)(o:Op)(ty:TypeId)(v:Value):Prop:=∀a w d pos aft g,JH N m a->S w->(execOp a.eval ⟨d,o,ty,pos,aft,g⟩).run P w = .ok (.value v) w
variable{d:Nat}{o:Op}{ty:TypeId}{pos:String}{aft:Array Edge}{v:Value}
theorem QA(h:Qt P N m (St E) o ty v)(k:JS P ops Q l N ((d,v)::m) E)(hd:Jx N (some d)=true:=by rfl):JS P ops Q (⟨some d,o,ty,pos,aft,none⟩::l) N m E:=by
 intro a w ha b;refine wpList_plain rfl λK c=>?_;unfold eB;rw[h a w _ _ _ _ ha b];exact c _ _ (k _ w (ha.put hd v) b)
theorem QK(h:Qt P N m (St E0) o ty v)(k:JD P ops Q E0 l N ((d,v)::m) E)(f:Jn o=true:=by rfl)(hd:Jx N (some d)=true:=by rfl):JD P ops Q E0 (⟨some d,o,ty,pos,aft,none⟩::l) N m E:=by
 intro g a w ha c;exact .inl ⟨f,v,.inl ⟨rfl,λw' b=>h a w' _ _ _ _ ha b⟩,k g _ w (ha.put hd v) c⟩
theorem B5(ha:JH N m a){g t:Nat}{b:Bool}(hg:(ops[g]?).bind (·.dst)=some t)(hb:look m t=some (.bool b)):yielded ops a.tmps g=some b:=by
 unfold yielded;rw[hg];have:=ha.get t _ hb;simp[this]
theorem QCY{d:Option Tmp}{g t:Nat}{b c:Bool}(hg:(ops[g]?).bind (·.dst)=some t)(hb:look m t=some (.bool b))(ht:b=c->JS P ops Q (⟨d,o,ty,pos,aft,none⟩::l) N m E)(h:b=!c->JS P ops Q l N (upd m d undef) E)
  (hd:Jx N d=true:=by rfl):JS P ops Q (⟨d,o,ty,pos,aft,some (g,c)⟩::l) N m E:=by
 intro a w ha f;unfold wpList;have hy:=B5 ha hg hb;by_cases e:b=c
 ·have:=ht e a w ha f;unfold wpList at this;rw[if_pos (by simp[au])]at this;rw[if_pos (by simp[au,hy,e])];exact this
 rw[if_neg (by simp[au,hy,e])];exact h (by cases b<;>cases c<;>simp_all) _ w (ha.put hd undef) f
theorem QHJ{d:Option Tmp}{g t:Nat}{b c:Bool}(hg:(ops[g]?).bind (·.dst)=some t)(hb:look m t=some (.bool b))(ht:b=c->JD P ops Q E0 (⟨d,o,ty,pos,aft,none⟩::l) N m E)(j:b=!c->JD P ops Q E0 l N (upd m d undef) E)
  (hd:Jx N d=true:=by rfl):JD P ops Q E0 (⟨d,o,ty,pos,aft,some (g,c)⟩::l) N m E:=by
 intro h a w ha f;have hy:=B5 ha hg hb;by_cases e:b=c
 ·rcases ht e h a w ha f with ⟨h1,v,h2,h3⟩ | ⟨h1,h2⟩
  ·refine .inl ⟨h1,v,?_,h3⟩;rcases h2 with ⟨_,h2⟩ | ⟨h2,_⟩
   ·exact .inl ⟨by simp[au,hy,e],h2⟩
   simp[au]at h2
  refine .inr ⟨h1,?_⟩;rw[if_pos (by simp[au])]at h2;rw[if_pos (by simp[au,hy,e])];exact h2
 have hr:=j (by cases b<;>cases c<;>simp_all) h _ w (ha.put hd undef) f;cases i:Jn o with
 |true=>exact .inl ⟨i,undef,.inr ⟨by simp[au,hy,e],rfl⟩,hr⟩
 |false =>
  refine .inr ⟨i,?_⟩;rw[if_neg (by simp[au,hy,e])];exact⟨h w f,hr⟩
end
end
section
variable[Dr][df:Df]
def QAS(d:TypeDesc):Bool:=match d with | .struct _ | .array _ _=>true | _=>false
def Zm(P:Program)(T:TypeId):Option (Bool×Nat):=match P.underlying T,P.info? T with
 |some d,some i=>some (QAS d,i.size)
 |_,_=>none
theorem Sj{T:TypeId}(h:Zm P T=some (g,n))(w:World):(isAgg T).run P w = .ok g w:=by
 unfold Zm at h;split at h
 ·rename_i d i hd hi;cases h;unfold isAgg;rw[aq,run_underlying hd w];cases d<;>rfl
 grind
theorem Y0{T:TypeId}(h:Zm P T=some (g,n))(w:World):(sizeOf T).run P w = .ok n w:=by
 unfold Zm at h;split at h
 all_goals simp_all[sizeOf,typeInfo]
def Yt(P:Program)(T:TypeId)(f:Nat):Option (Nat×TypeId):=match P.underlying T with
 |some (.struct fs)=>match fs[f]? with
  |some x=>some (x.offset,x.type)
  |none=>none
 |_=>none
inductive Py:List Value->Nat->List Value->Prop
 |nil {l:List Value}:Py l 0 []
 |here {x:Value} {l vs:List Value}:Py l 0 vs->Py (x::l) 0 (x::vs)
 |skip {x:Value} {l vs:List Value} {n:Nat}:Py l n vs->Py (x::l) (n+1) vs
theorem Py.at{vs:List Value}(h:Py l n vs):∀(j:Nat) (v:Value),vs[j]?=some v->l[n+j]?=some v:=by
 induction h<;>grind
inductive Yz:List Value->Nat->List Value->List Value->Prop
 |nil {l:List Value}:Yz l 0 [] l
 |here {x v:Value} {l vs l':List Value}:Yz l 0 vs l'->Yz (x::l) 0 (v::vs) (v::l')
 |skip {x:Value} {l vs l':List Value} {n:Nat}:Yz l n vs l'->Yz (x::l) (n+1) vs (x::l')
theorem Yz.le{vs:List Value}(h:Yz l n vs l'):n+vs.length<=l.length:=by
 induction h<;>simp_all<;>omega
theorem Yz.eq{vs:List Value}(h:Yz l n vs l'):l'=l.take n++vs++l.drop (n+vs.length):=by
 induction h<;>simp_all[ib]
inductive Own:List (Nat×Obj)->Nat->Obj->(Obj->List (Nat×Obj))->Prop
 |here {b:Nat} {o:Obj} {r:List (Nat×Obj)}:Own ((b,o)::r) b o λo'=>(b,o')::r
 |there {x:Nat×Obj} {l:List (Nat×Obj)} {b:Nat} {o:Obj} {f:Obj->List (Nat×Obj)}:Own l b o f->Own (x::l) b o λo'=>x::f o'
theorem Own.split{l:List _}{f:Obj->List _}(h:Own l b o f):∃pre post,l=pre++(b,o)::post/\∀o',f o'=pre++(b,o')::post:=by
 induction h with
 |here=>exact⟨[],_,rfl,λ_=>rfl⟩
 |there h ih =>
  grind
theorem Own.mem{l:List _}{f:Obj->List _}(h:Own l b o f):(b,o)∈l:=by
 obtain⟨pre,post,h1,_⟩:=h.split;simp_all
inductive qS:List (Nat×Obj)->Nat->Obj->List (Nat×Obj)->Prop
 |here {b:Nat} {o:Obj} {r:List (Nat×Obj)}:qS ((b,o)::r) b o r
 |there {x:Nat×Obj} {l l':List (Nat×Obj)} {b:Nat} {o:Obj}:qS l b o l'->qS (x::l) b o (x::l')
theorem qS.split{l a:List _}(h:qS l b o a):∃pre post,l=pre++(b,o)::post/\a=pre++post:=by
 induction h with
 |here=>exact⟨[],_,rfl,rfl⟩
 |there h ih =>
  grind
section
variable{P:Program}{Q:Exit->Act->World->Prop}{N:Nat}{m:Sl}{E E0:Env}{ops:Array Oper}{l:List Oper}{w0:World}{F0:Gs}{bs:List (Nat×Obj)}{G:Gs->Prop}
theorem St.own(h:St ⟨w0,F0,bs,G⟩ w){b:Nat}{o:Obj}{f:Obj->List _}(a:Own bs b o f):w.heap[b]?=some o:=by
 obtain⟨F,h⟩:=h;exact(h.bx (b,o) a.mem).1
section
variable{ty:TypeId}{v:Value}{S:World->Prop}
theorem QC(h:ev m x=some v):Qt P N m S (.move x) ty v:=λa w _ _ _ _ ha _=>by
 show(jA _ w)=_;rw[ha.ev h]
theorem QF(h:ev m x=some v):Qt P N m S (.assign x) ty v:=λa w _ _ _ _ ha _=>by
 show(jA _ w)=_;rw[ha.ev h]
theorem xe{c:Operand}{b:Bool}{u:Value}(hc:ev m c=some (.bool b))(hx:ev m x=some v)(hy:ev m y=some u):Qt P N m S (.pick c x y) ty (if b then v else u):=λa w _ _ _ _ ha _=>by
 simp[execOp,ha.ev hc,ha.ev hx,ha.ev hy,asBool,pure_bind,aW]
theorem Qi{vs:Array Value}(h:ev m x=some (.tuple vs))(hi:vs[i]?=some v):Qt P N m S (.extract x i) ty v:=λa w _ _ _ _ ha _=>by
 simp[execOp,ha.ev h,Instr.extract,hi]
theorem YC{p:Addr}(h:ev m x=some (.pointer (some p))):Qt P N m S (.nilCheck x) ty (.pointer (some p)):=λa w _ _ _ _ ha _=>by
 simp[execOp,ha.ev h]
theorem QH{T:TypeId}{f:Nat}{fo:Nat}{ft:TypeId}(h:ev m x=some (.pointer (some ⟨b,off,none⟩)))(hf:Yt P T f=some (fo,ft))(hs:Zm P ft=some (g,n+1)):
  Qt P N m S (.fieldAddr T x f) ty (.pointer (some ⟨b,off+fo,none⟩)):=λa w _ _ _ _ ha _=>by
 unfold Yt at hf;split at hf
 ·rename_i fs hu;split at hf
  ·rename_i fx hx;obtain⟨rfl,rfl⟩:=hf;have hadd:(⟨b,off,none⟩:Addr).add fx.offset=⟨b,off+fx.offset,none⟩:=by simp[fV]
   simp[execOp,ha.ev h,Instr.fieldAt,run_underlying hu,hx,aQ,fieldPlace,Y0 hs,hadd]
  trivial
 trivial
theorem Zc{T:TypeId}(ht:Zm P T=some (false,n)){w:World}{a:Addr}{v:Value}(h:w.cell? a=some v):(loadVar T a).run P w = .ok v w:=by
 simp[loadVar,Sj ht,h]
theorem YH{T:TypeId}{vs:List Value}(ht:Zm P T=some (true,n))(a:vs.length=n){w:World}{b off:Nat}(h:∀j v,vs[j]?=some v->w.cell? ⟨b,off+j,none⟩=some v):(loadVar T ⟨b,off,none⟩).run P w = .ok (.agg vs.toArray) w:=by
 have c:=run_loadCells_list (P:=P) w ⟨b,off,none⟩ vs (λj v hv=>by
  grind[fV])
 subst a;simp[loadVar,Sj ht,Y0 ht,c]
theorem Xe{o:Nat}{T:TypeId}(h:w.heap[b]?=some (.cells c.toArray T fr)):w.cell? ⟨b,o,none⟩=c[o]?:=by
 simp[World.cell?,h]
theorem Qa{T:TypeId}{f:Obj->List _}(h:ev m x=some (.pointer (some ⟨b,off,none⟩)))(ht:Zm P T=some (false,n))(g:Own bs b (.cells c.toArray T' fr) f)(hg:Py c off [v]):
  Qt P N m (St ⟨w0,F0,bs,G⟩) (.load T x) ty v:=λa w _ _ _ _ ha d=>by
 have hc:w.cell? ⟨b,off,none⟩=some v:=by rw[Xe (d.own g)];exact hg.at 0 v I
 simp[execOp,ha.ev h,ee,aQ,Zc ht hc]
theorem QR{T:TypeId}{vs:List Value}{f:Obj->List _}(h:ev m x=some (.pointer (some ⟨b,off,none⟩)))(ht:Zm P T=some (true,n))(g:Own bs b (.cells c.toArray T' fr) f)(hg:Py c off vs)(i:vs.length=n):
  Qt P N m (St ⟨w0,F0,bs,G⟩) (.load T x) ty (.agg vs.toArray):=λa w _ _ _ _ ha d=>by
 have:=YH ht i (λj v hv=>by rw[Xe (d.own g)];exact hg.at j v hv);simp[execOp,ha.ev h,ee,aQ,this]
theorem cell_of_row(h:St ⟨w0,F0,bs,G⟩ w){b o:Nat}{c:Array Value}{T:TypeId}{v:Value}(hr:∀F,G F->F b=some (c,T))(hv:c[o]?=some v):w.cell? ⟨b,o,none⟩=some v:=by
 obtain⟨F,h⟩:=h;obtain⟨fr,e⟩:=h.fits.row b c T (hr F h.hG);simp[World.cell?,e,hv]
theorem Gv{T:TypeId}{c:Array Value}(h:ev m x=some (.pointer (some ⟨b,off,none⟩)))(ht:Zm P T=some (false,n))(hr:∀F,G F->F b=some (c,T'))(hv:c[off]?=some v):
  Qt P N m (St ⟨w0,F0,bs,G⟩) (.load T x) ty v:=λa w _ _ _ _ ha d=>by
 simp[execOp,ha.ev h,ee,aQ,Zc ht (cell_of_row d hr hv)]
theorem xk{T:TypeId}{c:Array Value}{vs:List Value}(h:ev m x=some (.pointer (some ⟨b,off,none⟩)))(ht:Zm P T=some (true,n))(hr:∀F,G F->F b=some (c,T'))(f:vs.length=n)(hv:∀j v,vs[j]?=some v->c[off+j]?=some v):
  Qt P N m (St ⟨w0,F0,bs,G⟩) (.load T x) ty (.agg vs.toArray):=λa w _ _ _ _ ha d=>by
 have:=YH ht f (λj v h=>cell_of_row d hr (hv j v h));simp[execOp,ha.ev h,ee,aQ,this]
end
def Enters(P:Program)(f:FuncId):Prop:=∀(args:Array Value) (w:World),(callFunc f args).run P w = .ok (.enter f args) w
theorem enters_of{f:FuncId}(h:P.funcs[f]?=some fn)(b:(fn.name == "runtime.NumGoroutine")=false)(hb:fn.body.isNone=false):Enters P f:=λargs w=>by
 have a:fn.body≠none:=by grind
 simp_all[callFunc]
def Mf(w:World)(F:Gs){γ:Type}(val:γ->Value)(a:γ->Gs->Prop)(e:Ending)(w':World):Prop :=
 ∃c F',e = .returned (val c)/\RU w w'/\Gs.le F F'/\(∀b,b<w.heap.size->F' b=F b)/\Fits F' w'/\∀F'',Gs.le F' F''->a c F''
def QU(P:Program)(f:FuncId)(args:List Value)(w:World)(F:Gs){γ:Type}(val:γ->Value)(a:γ->Gs->Prop):Prop :=
 Enters P f/\Calls P f args.toArray w (Mf w F val a)
theorem QU.imp{f:FuncId}{γ':Type}{val:γ->Value}{d:γ->Gs->Prop}{b:γ'->Value}{a:γ'->Gs->Prop}(h:QU P f args w F val d)
  (k:∀c F',d c F'->∃c',val c=b c'/\∀F'',Gs.le F' F''->a c' F''):QU P f args w F b a:=by
 refine⟨h.1,h.2.mono ?_⟩;rintro e w' ⟨c,F',rfl,h1,h2,h3,h4,h5⟩;obtain⟨c',e,g⟩:=k c F' (h5 F' (Gs.le_refl _));exact⟨c',F',by rw[e],h1,h2,h3,h4,g⟩
theorem jB.call{a:Gs}(h:jB ⟨w0,F0,bs,G⟩ w F){f:Gs->Prop}(h1:RU w w')(h2:Gs.le F a)(h3:∀b,b<w.heap.size->a b=F b)(h4:Fits a w')(h5:∀F'',Gs.le a F''->f F''):jB ⟨w0,F0,bs,λF=>G F/\f F⟩ w' a:=by
 refine⟨Gs.le_trans h.le h2,λb hb=>?_,h4,h.ext.trans h1,λk hk=>?_,h.nd,λF'' d=>⟨h.g F'' (Gs.le_trans h2 d),h5 F'' d⟩⟩
 ·rw[h3 b (aT hb h.ext.size)];exact h.old b hb
 obtain⟨g1,i,j⟩:=h.bx k hk;have c:k.1<w.heap.size:=by
  grind
 exact⟨by rw[h1.block _ c];exact g1,i,by simp_all⟩
theorem Ww{d:Option Tmp}{args:Array _}{b:Array _}{gd:Option _}{f:FuncId}{c1 c2:Array Value}(he:Enters P f)(hx:a.eval x = .func (.func f) c1 c2):
  (execOp a.eval ⟨d,.call ⟨.value x,args,b⟩,ty,pos,aft,gd⟩).run P w = .ok (.enter f (c1++args.map a.eval++c2)) w:=by
 simp[execOp,resolve,hx,Deferred.ofValue,aq,aW,ax,invoke];exact he _ w
section
variable{d:Nat}{ty:TypeId}{pos:String}{aft:Array Edge}{f:FuncId}{args:Array Operand}{tys:Array TypeId}{vs:List Value}{γ:Type}{val:γ->Value}{fact:γ->Gs->Prop}
theorem GQ{c1 c2:List Value}(hx:ev m x=some (.func (.func f) c1.toArray c2.toArray))(hv:Hk m args.toList=some vs)(hc:∀w F,Fits F w->G F->QU P f (c1++vs++c2) w F val fact)
  (k:∀c,JS P ops Q l N ((d,val c)::m) ⟨w0,F0,bs,λF=>G F/\fact c F⟩) (hd:Jx N (some d)=true:=by rfl):JS P ops Q (⟨some d,.call ⟨.value x,args,tys⟩,ty,pos,aft,none⟩::l) N m ⟨w0,F0,bs,G⟩:=by
 intro a w ha h;obtain⟨F,g⟩:=h;have b:=hc w F g.fits g.hG;refine wpList_plain rfl λK i=>?_;unfold eB;rw[Ww b.1 (ha.ev hx)];have e:c1.toArray++args.map a.eval++c2.toArray=(c1++vs++c2).toArray:=by
  have:=ha.Hk hv;simp_all
 rw[e];refine b.2.mono ?_;rintro e w' ⟨c,F',rfl,h1,h2,h3,h4,h5⟩;exact i _ _ (k c _ w' (ha.put hd _) ⟨F',g.call h1 h2 h3 h4 h5⟩)
theorem QL(hv:Hk m args.toList=some vs)(hc:∀w F,Fits F w->G F->QU P f vs w F val fact)
  (k:∀c,JS P ops Q l N ((d,val c)::m) ⟨w0,F0,bs,λF=>G F/\fact c F⟩) (hd:Jx N (some d)=true:=by rfl):JS P ops Q (⟨some d,.call ⟨.value (.func f),args,tys⟩,ty,pos,aft,none⟩::l) N m ⟨w0,F0,bs,G⟩ :=
 GQ I hv (by simpa using hc) k hd
theorem kY{c1 c2:List Value}(hx:ev m x=some (.func (.func f) c1.toArray c2.toArray))(hv:Hk m args.toList=some vs)(hc:∀w F,Fits F w->G F->QU P f (c1++vs++c2) w F val fact)
  (k:∀c,JD P ops Q E0 l N ((d,val c)::m) ⟨w0,F0,bs,λF=>G F/\fact c F⟩) (hd:Jx N (some d)=true:=by rfl):JD P ops Q E0 (⟨some d,.call ⟨.value x,args,tys⟩,ty,pos,aft,none⟩::l) N m ⟨w0,F0,bs,G⟩:=by
 intro j a w ha o;obtain⟨F,g⟩:=o;have b:=hc w F g.fits g.hG;refine .inr ⟨rfl,?_⟩;unfold eB;rw[Ww b.1 (ha.ev hx)];have e:c1.toArray++args.map a.eval++c2.toArray=(c1++vs++c2).toArray:=by
  have:=ha.Hk hv;simp_all
 rw[e];refine b.2.mono ?_;rintro e w' ⟨c,F',rfl,h1,h2,h3,h4,h5⟩;have i:St ⟨w0,F0,bs,λF=>G F/\fact c F⟩ w':=⟨F',g.call h1 h2 h3 h4 h5⟩;exact⟨j w' (i.GW λ_ h=>h.1),k c (λw h=>j w (h.GW λ_ h=>h.1)) _ w' (ha.put hd _) i⟩
theorem QZ(hv:Hk m args.toList=some vs)(hc:∀w F,Fits F w->G F->QU P f vs w F val fact)
  (k:∀c,JD P ops Q E0 l N ((d,val c)::m) ⟨w0,F0,bs,λF=>G F/\fact c F⟩) (hd:Jx N (some d)=true:=by rfl):JD P ops Q E0 (⟨some d,.call ⟨.value (.func f),args,tys⟩,ty,pos,aft,none⟩::l) N m ⟨w0,F0,bs,G⟩ :=
 kY I hv (by simpa using hc) k hd
end
end
end
section
variable[Dr][df:Df]{P:Program}{Q:Exit->Act->World->Prop}{ops:Array Oper}{l:List Oper}{N:Nat}{m:Sl}{E:Env}{d:Nat}{v:Value}{ty:TypeId}{pos:String}{aft:Array Edge}
theorem QMu(h:ev m x=some v)(k:JS P ops Q l N ((d,v)::m) E)(hd:Jx N (some d)=true:=by rfl):JS P ops Q (⟨some d,.move x,ty,pos,aft,none⟩::l) N m E:=QA (QC h) k hd
theorem QMv(h:ev m x=some v)(k:JS P ops Q l N ((d,v)::m) E)(hd:Jx N (some d)=true:=by rfl):JS P ops Q (⟨some d,.assign x,ty,pos,aft,none⟩::l) N m E:=QA (QF h) k hd
theorem QMt{y:Code}(h:J P y Q N m E):JS P ops (Exit.then (y.wp P Q) Q) [] N m E:=QE (QD h)
theorem QNz{y:Code}{a:Nat}(h:JS P l.toArray (Exit.then (y.wp P Q) Q) l N m E):J P (.seq (.region a l.toArray false) y) Q N m E:=QG (QB h)
end
def QNG{l:List α}:ep l l:=aB l
def QOW{p:Prop}[Decidable p](h:decide p=true):p:=of_decide_eq_true h
def QOX{p:Prop}[Decidable p](h:decide p=false):¬p:=of_decide_eq_false h
def wQ[Dr][df:Df]{P:Program}{Q:Exit->Act->World->Prop}{a:Array Oper}{N:Nat}{m:Sl}{E:Env}{d:Nat}{v:Value}{ty:TypeId}{pos:String}{aft:Array Edge}{x:Operand}{y:Code}(h:ev m x=some v)(k:J P y Q N ((d,v)::m) E)(hd:Jx N (some d)=true:=by rfl):JS P a (Exit.then (y.wp P Q) Q) [⟨some d,.assign x,ty,pos,aft,none⟩] N m E:=QMv h (QMt k) hd
def wR[Dr][df:Df]{P:Program}{Q:Exit->Act->World->Prop}{l:List Oper}{N:Nat}{m:Sl}{E:Env}{d:Nat}{v:Value}{ty:TypeId}{pos:String}{aft:Array Edge}{x:Operand}{y:Code}{a:Nat}(h:ev m x=some v)(k:JS P (⟨some d,.move x,ty,pos,aft,none⟩::l).toArray (Exit.then (y.wp P Q) Q) l N ((d,v)::m) E)(hd:Jx N (some d)=true:=by rfl):J P (.seq (.region a (⟨some d,.move x,ty,pos,aft,none⟩::l).toArray false) y) Q N m E:=QNz (QMu h k hd)
def Py.h1{a:Value}:Py (a::l) 0 [a]:=.here (.nil)
def Yz.h1{a v0:Value}:Yz (a::l) 0 [v0] (v0::l):=.here (.nil)
def Py.h2{b a:Value}:Py (b::a::l) 0 [b,a]:=.here (.here (.nil))
def Yz.h2{b a v0:Value}:Yz (b::a::l) 0 [v0,v1] (v0::v1::l):=.here (.here (.nil))
def Py.h3{b a:Value}:Py (b::a::x2::l) 0 [b,a,x2]:=.here (.here (.here (.nil)))
def Yz.h3{b a v0 v2:Value}:Yz (b::a::x2::l) 0 [v0,v1,v2] (v0::v1::v2::l):=.here (.here (.here (.nil)))
def Py.h4{b a:Value}:Py (b::a::x2::x3::l) 0 [b,a,x2,x3]:=.here (.here (.here (.here (.nil))))
def Yz.h4{b a v0 v2:Value}:Yz (b::a::x2::x3::l) 0 [v0,v1,v2,v3] (v0::v1::v2::v3::l):=.here (.here (.here (.here (.nil))))
def Py.h5{b a:Value}:Py (b::a::x2::x3::x4::l) 0 [b,a,x2,x3,x4]:=.here (.here (.here (.here (.here (.nil)))))
def Yz.h5{b a v0 v2:Value}:Yz (b::a::x2::x3::x4::l) 0 [v0,v1,v2,v3,v4] (v0::v1::v2::v3::v4::l):=.here (.here (.here (.here (.here (.nil)))))
def Py.h6{b a:Value}:Py (b::a::x2::x3::x4::x5::l) 0 [b,a,x2,x3,x4,x5]:=.here (.here (.here (.here (.here (.here (.nil))))))
def Yz.h6{b a v0 v2:Value}:Yz (b::a::x2::x3::x4::x5::l) 0 [v0,v1,v2,v3,v4,v5] (v0::v1::v2::v3::v4::v5::l):=.here (.here (.here (.here (.here (.here (.nil))))))
def Py.h7{b a:Value}:Py (b::a::x2::x3::x4::x5::x6::l) 0 [b,a,x2,x3,x4,x5,x6]:=.here (.here (.here (.here (.here (.here (.here (.nil)))))))
def Yz.h7{c b v0 v2 a:Value}:Yz (c::b::x2::x3::x4::x5::x6::l) 0 [v0,v1,v2,v3,v4,v5,a] (v0::v1::v2::v3::v4::v5::a::l):=.here (.here (.here (.here (.here (.here (.here (.nil)))))))
def Py.h8{b a:Value}:Py (b::a::x2::x3::x4::x5::x6::x7::l) 0 [b,a,x2,x3,x4,x5,x6,x7]:=.here (.here (.here (.here (.here (.here (.here (.here (.nil))))))))
def Yz.h8{d c v0 v2 b a:Value}:Yz (d::c::x2::x3::x4::x5::x6::x7::l) 0 [v0,v1,v2,v3,v4,v5,b,a] (v0::v1::v2::v3::v4::v5::b::a::l):=.here (.here (.here (.here (.here (.here (.here (.here (.nil))))))))
def Py.h9{b a:Value}:Py (b::a::x2::x3::x4::x5::x6::x7::x8::l) 0 [b,a,x2,x3,x4,x5,x6,x7,x8]:=.here (.here (.here (.here (.here (.here (.here (.here (.here (.nil)))))))))
def Yz.h9{f d v0 v2 c b a:Value}:Yz (f::d::x2::x3::x4::x5::x6::x7::x8::l) 0 [v0,v1,v2,v3,v4,v5,c,b,a] (v0::v1::v2::v3::v4::v5::c::b::a::l):=.here (.here (.here (.here (.here (.here (.here (.here (.here (.nil)))))))))
def Py.h10{c b a:Value}:Py (c::b::x2::x3::x4::x5::x6::x7::x8::a::l) 0 [c,b,x2,x3,x4,x5,x6,x7,x8,a]:=.here (.here (.here (.here (.here (.here (.here (.here (.here (.here (.nil))))))))))
def Yz.h10{g f d v0 v2 c b a v9:Value}:Yz (g::f::x2::x3::x4::x5::x6::x7::x8::d::l) 0 [v0,v1,v2,v3,v4,v5,c,b,a,v9] (v0::v1::v2::v3::v4::v5::c::b::a::v9::l):=.here (.here (.here (.here (.here (.here (.here (.here (.here (.here (.nil))))))))))
def Py.h11{d c b a:Value}:Py (d::c::x2::x3::x4::x5::x6::x7::x8::b::a::l) 0 [d,c,x2,x3,x4,x5,x6,x7,x8,b,a]:=.here (.here (.here (.here (.here (.here (.here (.here (.here (.here (.here (.nil)))))))))))
def Yz.h11{i h g b v0 v2 f d c v9 a:Value}:Yz (i::h::x2::x3::x4::x5::x6::x7::x8::g::b::l) 0 [v0,v1,v2,v3,v4,v5,f,d,c,v9,a] (v0::v1::v2::v3::v4::v5::f::d::c::v9::a::l):=.here (.here (.here (.here (.here (.here (.here (.here (.here (.here (.here (.nil)))))))))))
def Py.h12{f d c b a:Value}:Py (f::d::x2::x3::x4::x5::x6::x7::x8::c::b::a::l) 0 [f,d,x2,x3,x4,x5,x6,x7,x8,c,b,a]:=.here (.here (.here (.here (.here (.here (.here (.here (.here (.here (.here (.here (.nil))))))))))))
def Yz.h12{k j i d c v0 v2 h g f v9 b a:Value}:Yz (k::j::x2::x3::x4::x5::x6::x7::x8::i::d::c::l) 0 [v0,v1,v2,v3,v4,v5,h,g,f,v9,b,a] (v0::v1::v2::v3::v4::v5::h::g::f::v9::b::a::l):=.here (.here (.here (.here (.here (.here (.here (.here (.here (.here (.here (.here (.nil))))))))))))
def Own.u1{a:Nat×Obj}{r:List (Nat×Obj)}:Own (a::(b,o)::r) b o (λo'=>a::(b,o')::r):=.there (.here)
def qS.u1{a:Nat×Obj}{r:List (Nat×Obj)}:qS (a::(b,o)::r) b o (a::r):=.there (.here)
def Own.u2{a:Nat×Obj}{r:List (Nat×Obj)}:Own (a::x1::(b,o)::r) b o (λo'=>a::x1::(b,o')::r):=.there (.there (.here))
def qS.u2{a:Nat×Obj}{r:List (Nat×Obj)}:qS (a::x1::(b,o)::r) b o (a::x1::r):=.there (.there (.here))
def Own.u3{c a:Nat×Obj}{r:List (Nat×Obj)}:Own (c::x1::a::(b,o)::r) b o (λo'=>c::x1::a::(b,o')::r):=.there (.there (.there (.here)))
def qS.u3{c a:Nat×Obj}{r:List (Nat×Obj)}:qS (c::x1::a::(b,o)::r) b o (c::x1::a::r):=.there (.there (.there (.here)))
def Own.u4{d c a:Nat×Obj}{r:List (Nat×Obj)}:Own (d::x1::c::a::(b,o)::r) b o (λo'=>d::x1::c::a::(b,o')::r):=.there (.there (.there (.there (.here))))
def qS.u4{d c a:Nat×Obj}{r:List (Nat×Obj)}:qS (d::x1::c::a::(b,o)::r) b o (d::x1::c::a::r):=.there (.there (.there (.there (.here))))
def Own.u5{f d c a:Nat×Obj}{r:List (Nat×Obj)}:Own (f::x1::d::c::a::(b,o)::r) b o (λo'=>f::x1::d::c::a::(b,o')::r):=.there (.there (.there (.there (.there (.here)))))
def qS.u5{f d c a:Nat×Obj}{r:List (Nat×Obj)}:qS (f::x1::d::c::a::(b,o)::r) b o (f::x1::d::c::a::r):=.there (.there (.there (.there (.there (.here)))))
def Own.u6{g f d c a:Nat×Obj}{r:List (Nat×Obj)}:Own (g::x1::f::d::c::a::(b,o)::r) b o (λo'=>g::x1::f::d::c::a::(b,o')::r):=.there (.there (.there (.there (.there (.there (.here))))))
def qS.u6{g f d c a:Nat×Obj}{r:List (Nat×Obj)}:qS (g::x1::f::d::c::a::(b,o)::r) b o (g::x1::f::d::c::a::r):=.there (.there (.there (.there (.there (.there (.here))))))
def wS{a0:A0}:a0=a0/\True:=⟨rfl,trivial⟩
def wT{a0:A0}{a:A1}:a0=a0/\a=a/\True:=⟨rfl,rfl,trivial⟩
def wU{a0:A0}{b:A1}{a:A2}:a0=a0/\b=b/\a=a/\True:=⟨rfl,rfl,rfl,trivial⟩
def wV{a0:A0}{b:A1}{a:A2}{a3:A3}:a0=a0/\b=b/\a=a/\a3=a3/\True:=⟨rfl,rfl,rfl,rfl,trivial⟩
def wW{a0:A0}{b:A1}{a:A2}{a3:A3}{a4:A4}:a0=a0/\b=b/\a=a/\a3=a3/\a4=a4/\True:=⟨rfl,rfl,rfl,rfl,rfl,trivial⟩
def wX{a0:A0}{b:A1}{a:A2}{a3:A3}{a4:A4}{a5:A5}:a0=a0/\b=b/\a=a/\a3=a3/\a4=a4/\a5=a5/\True:=⟨rfl,rfl,rfl,rfl,rfl,rfl,trivial⟩
def wY{a0:A0}{c:A1}{b:A2}{a3:A3}{a4:A4}{a5:A5}{a:A6}:a0=a0/\c=c/\b=b/\a3=a3/\a4=a4/\a5=a5/\a=a/\True:=⟨rfl,rfl,rfl,rfl,rfl,rfl,rfl,trivial⟩
def wZ{a0:A0}{d:A1}{c:A2}{a3:A3}{a4:A4}{a5:A5}{b:A6}{a:A7}:a0=a0/\d=d/\c=c/\a3=a3/\a4=a4/\a5=a5/\b=b/\a=a/\True:=⟨rfl,rfl,rfl,rfl,rfl,rfl,rfl,rfl,trivial⟩
def wa{a0:A0}{f:A1}{d:A2}{a3:A3}{a4:A4}{a5:A5}{c:A6}{b:A7}{a:A8}:a0=a0/\f=f/\d=d/\a3=a3/\a4=a4/\a5=a5/\c=c/\b=b/\a=a/\True:=⟨rfl,rfl,rfl,rfl,rfl,rfl,rfl,rfl,rfl,trivial⟩
def wb{a0:A0}{f:A1}{d:A2}{a3:A3}{a4:A4}{a5:A5}{c:A6}{b:A7}{a:A8}{a9:A9}:a0=a0/\f=f/\d=d/\a3=a3/\a4=a4/\a5=a5/\c=c/\b=b/\a=a/\a9=a9/\True:=⟨rfl,rfl,rfl,rfl,rfl,rfl,rfl,rfl,rfl,rfl,trivial⟩
def wc{a0:A0}{h:A1}{g:A2}{a3:A3}{a4:A4}{a5:A5}{f:A6}{d:A7}{c:A8}{a9:A9}{b:Type}{a:b}:a0=a0/\h=h/\g=g/\a3=a3/\a4=a4/\a5=a5/\f=f/\d=d/\c=c/\a9=a9/\a=a/\True:=⟨rfl,rfl,rfl,rfl,rfl,rfl,rfl,rfl,rfl,rfl,rfl,trivial⟩
def we{a0:A0}{j:A1}{i:A2}{a3:A3}{a4:A4}{a5:A5}{h:A6}{g:A7}{f:A8}{a9:A9}{d:Type}{b:d}{c:Type}{a:c}:a0=a0/\j=j/\i=i/\a3=a3/\a4=a4/\a5=a5/\h=h/\g=g/\f=f/\a9=a9/\b=b/\a=a/\True:=⟨rfl,rfl,rfl,rfl,rfl,rfl,rfl,rfl,rfl,rfl,rfl,rfl,trivial⟩
section
variable[Dr][df:Df]
section
variable{P:Program}{Q:Exit->Act->World->Prop}{N:Nat}{m:Sl}{E E0:Env}{ops:Array Oper}{l:List Oper}{w0:World}{F0:Gs}{bs:List (Nat×Obj)}{G:Gs->Prop}
theorem St.pure{p:Prop}(h:St ⟨w0,F0,bs,G⟩ w)(hp:∀w F,Fits F w->G F->p):p:=by
 obtain⟨F,h⟩:=h;exact hp w F h.fits h.hG
theorem XD{c:Code}(p:Prop)(hp:∀w F,Fits F w->G F->p)(k:p->J P c Q N m ⟨w0,F0,bs,G⟩):J P c Q N m ⟨w0,F0,bs,G⟩:=λa w ha b=>k (b.pure hp) a w ha b
theorem J5(p:Prop)(hp:∀w F,Fits F w->G F->p)(k:p->JS P ops Q l N m ⟨w0,F0,bs,G⟩):JS P ops Q l N m ⟨w0,F0,bs,G⟩:=λa w ha b=>k (b.pure hp) a w ha b
theorem KL(p:Prop)(hp:∀w F,Fits F w->G F->p)(k:p->JD P ops Q E0 l N m ⟨w0,F0,bs,G⟩):JD P ops Q E0 l N m ⟨w0,F0,bs,G⟩:=λc a w ha b=>k (b.pure hp) c a w ha b
def Ju(P:Program)(T:TypeId):Option (List Value):=match P.info? T with
 |some i=>i.zero.map λv=>v.cells.toList
 |none=>none
theorem Um{T:TypeId}(h:Ju P T=some z)(w:World):∃v,(zeroValue T).run P w = .ok v w/\v.cells=z.toArray:=by
 unfold Ju at h;split at h
 ·rename_i i hi;cases hz:i.zero with
  |none=>rw[hz]at h;cases h
  |some v =>
   rw[hz]at h;simp only[eG,aG]at h;exact⟨v,by simp[zeroValue,typeInfo,hi,hz],by rw[<-h]⟩
 cases h
def Gz(T:TypeId):Bool:=!(bm T 264)
theorem ZB{T:TypeId}(h:Gz T=true){c:Array Value}{fr:Nat×Nat}:∀c' fr',Obj.cells c T fr≠.cells c' 264 fr':=by
 intro c' fr' e;injection e with _ h2 _;subst h2;simp[Gz]at h
section
variable{d:Nat}{ty:TypeId}{pos:String}{aft:Array Edge}
theorem upon_value{o:Oper}{v:Value}(h:(execOp a.eval o).run P w = .ok (.value v) w')(k:K (a.put o.dst v) w'):o.wp P a w K Q:=by
 unfold eB;rw[h];exact k
theorem upon_skip{o:Oper}(h:(execOp a.eval o).run P w = .ok .skip w')(k:K (a.put o.dst undef) w'):o.wp P a w K Q:=by
 unfold eB;rw[h];exact k
theorem Et{T:TypeId}{g:Option (Nat×Bool)}(hz:Ju P T=some z):
  (execOp a.eval ⟨some d,.alloc T,ty,pos,aft,g⟩).run P w = .ok (.value (.pointer (some ⟨w.heap.size,0,none⟩))) (w.alloc (.cells z.toArray T)):=by
 obtain⟨v,h1,h2⟩:=Um hz w;simp only[execOp,Instr.alloc,aq,h1,ax,aW,newVar,newRow,run_newObj,h2];rfl
theorem Qe{T:TypeId}(hz:Ju P T=some z)(k:∀b,JS P ops Q l N ((d,.pointer (some ⟨b,0,none⟩))::m) ⟨w0,F0,(b,.cells z.toArray T (0,0))::bs,G⟩)(hu:Gz T=true:=by rfl)(hd:Jx N (some d)=true:=by rfl):
  JS P ops Q (⟨some d,.alloc T,ty,pos,aft,none⟩::l) N m ⟨w0,F0,bs,G⟩:=λa w ha c =>
 wpList_plain rfl λ_ f=>upon_value (Et hz) (f _ _ (k _ _ _ (ha.put hd _) (c.alloc _ (ZB hu))))
theorem O6{T:TypeId}{v:Value}{g:Option (Nat×Bool)}(hx:a.eval x=v):
  (execOp a.eval ⟨some d,.box T x,ty,pos,aft,g⟩).run P w = .ok (.value (.pointer (some ⟨w.heap.size,0,none⟩))) (w.alloc (.cells v.cells T)):=by
 subst hx;simp only[execOp,Instr.box,aq,ax,aW,newVar,newRow,run_newObj];rfl
theorem Qv{T:TypeId}{vs:List Value}{v:Value}(hx:ev m x=some v)(hv:v.cells=vs.toArray)(k:∀b,JS P ops Q l N ((d,.pointer (some ⟨b,0,none⟩))::m) ⟨w0,F0,(b,.cells vs.toArray T (0,0))::bs,G⟩)(hu:Gz T=true:=by rfl)(hd:Jx N (some d)=true:=by rfl):
  JS P ops Q (⟨some d,.box T x,ty,pos,aft,none⟩::l) N m ⟨w0,F0,bs,G⟩:=λa w ha c =>
 wpList_plain rfl λ_ f=>upon_value (O6 (ha.ev hx)) (f _ _ (k _ _ _ (ha.put hd _) (hv ▸ c.alloc _ (ZB hu))))
theorem N2{t e:TypeId}{sz:Nat}{parts:Array (Nat×Value)}{cs:Array Value}(ht:P.underlying t=some (.slice e))(a:Zm P e=some (g,sz))(hz:Ju P e=some z)(d:n*sz<=2^24)(b:n*sz≠0)
  (c:eH (λi=>some (i*sz,sz)) ((fP (n*sz)).map λi=>z.toArray[i%z.toArray.size]!) parts.toList=some cs) :
  (ig t n parts).run P w = .ok (.slice (some ⟨w.heap.size,0,none⟩) n n) (w.alloc (.cells cs e)):=by
 obtain⟨v,h1,h2⟩:=Um hz w;have h3:¬n*sz>2^24:=O;simp only[ig,aq,run_underlying ht,ax,Y0 a,if_neg h3,aW,if_neg b,h1,h2,c,newRow,run_newObj];rfl
def WK(m:Sl):List (Nat×Operand)->Option (List (Nat×Value))
 |[]=>some []
 |(i,x)::r=>match ev m x,WK m r with
  |some v,some l=>some ((i,v)::l)
  |_,_=>none
theorem JH.parts(h:JH N m a):∀ {l:List (Nat×Operand)} {vs:List (Nat×Value)},WK m l=some vs->l.map (λ(i,x)=>(i,a.eval x))=vs
 |[],vs,e=>by simpa[WK]using e
 |(i,x)::l,vs,e=>by
  unfold WK at e;cases hx:YtogkbhegfnklhaaGreatDoor.ev m x with
  |none=>rw[hx]at e;simp at e
  |some v =>
   cases b:WK m l with
   |none=>rw[hx,b]at e;simp at e
   |some r =>
    rw[hx,b]at e;simp only[aG]at e;subst e;rw[iF,h.parts b];show(i,a.eval x)::r=_;rw[h.ev hx]
def Yn(sz:Nat):Nat->List (Nat×Value)->Option (List Value)
 |_,[]=>some []
 |k,(i,v)::r=>if i=k/\v.cells.size=sz then(Yn sz (k+1) r).map (v.cells.toList++·)else none
theorem BF{sz:Nat}:∀(parts:List (Nat×Value)) (k:Nat) (cs:List Value) (cur:Array Value),Yn sz k parts=some cs->k*sz+cs.length=cur.size ->
  eH (λi=>some (i*sz,sz)) cur parts=some (cur.toList.take (k*sz)++cs).toArray
 |[],k,cs,cur,h,hl=>by
  simp only[Yn,aG]at h;subst h;simp only[ix,fK]at hl;simp[eH,ah,hl]
 |(i,v)::r,k,cs,cur,h,hl=>by
  simp only[Yn]at h;split at h
  ·rename_i hk;obtain⟨rfl,hv⟩:=hk;cases hr:Yn sz (i+1) r with
   |none=>rw[hr]at h;cases h
   |some cs' =>
    rw[hr]at h;simp only[eG,aG]at h;subst h;have hlen:v.cells.toList.length=sz:=by simpa using hv
    rw[aH,hlen]at hl;have hmul:(i+1)*sz=i*sz+sz:=by rw[aM,Nat.one_mul]
    unfold eH;simp only[hv,ne_eq,not_true_eq_false,iK,decide_false,decide_eq_true_eq];rw[if_neg O];have hfold:∀(l:List Value) (j:Nat) (c:Array Value),i*sz+j+l.length<=c.size ->
      ((l.zipIdx j).foldl (λcs (x:Value×Nat)=>cs.setIfInBounds (i*sz+x.2) x.1) c)=(c.toList.take (i*sz+j)++l++c.toList.drop (i*sz+j+l.length)).toArray:=by
     intro l
     induction l with
     |nil=>intro j c hc;simp
     |cons x l ih =>
      intro j c hc;simp only[im,iy,bD]at hc ⊢;rw[ih (j+1) _ wv];congr 1;apply List.ext_getElem?;intro q;simp only[Array.toList_setIfInBounds,List.getElem?_append,aH,ao,List.length_set,Array.length_toList,bD];by_cases h1:q<i*sz+j
      ·have e1:min (i*sz+(j+1)) c.size=i*sz+j+1:=O;have e2:min (i*sz+j) c.size=i*sz+j:=O;have e3:q<i*sz+j+1+l.length:=O;have e4:q<i*sz+j+(l.length+1):=O;have e5:q<i*sz+j+1:=O;simp only[e1,e2,h1,e3,e4,e5,if_true];simp[show q<i*sz+(j+1) by omega,h1,show i*sz+j≠q by omega]
      by_cases h2:q=i*sz+j
      ·subst h2;have e1:min (i*sz+(j+1)) c.size=i*sz+j+1:=O;have e2:min (i*sz+j) c.size=i*sz+j:=O;have hlt:i*sz+j<c.toList.length:=wv;simp only[e1,e2,Nat.lt_irrefl,if_false,eW];simp[show i*sz+j<i*sz+j+1+l.length by omega,show i*sz+j<i*sz+j+1 by omega,show i*sz+j<c.size by omega]
      have e1:min (i*sz+(j+1)) c.size=i*sz+j+1:=O;have e2:min (i*sz+j) c.size=i*sz+j:=O;have g1:¬q<i*sz+j+1:=O;simp only[e1,e2,h1,g1,if_false];by_cases h3:q<i*sz+j+1+l.length
      ·simp only[h3,if_true,show q<i*sz+j+(l.length+1) by omega];rw[show q-(i*sz+j)=(q-(i*sz+j+1))+1 by omega,List.getElem?_cons_succ]
      simp only[h3,if_false,show ¬q<i*sz+j+(l.length+1) by omega];rw[List.getElem?_drop,List.getElem?_drop,List.getElem?_set_ne O];congr 1;omega
    have e:=hfold v.cells.toList 0 cur (by rw[hlen];omega);have e0:v.cells.zipIdx.foldl (λcs (x:Value×Nat)=>cs.setIfInBounds (i*sz+x.2) x.1) cur=(v.cells.toList.zipIdx 0).foldl (λcs (x:Value×Nat)=>cs.setIfInBounds (i*sz+x.2) x.1) cur:=by
     rw[<-eU];simp
    rw[e0,e];have:=BF r (i+1) cs' (cur.toList.take (i*sz+0)++v.cells.toList++cur.toList.drop (i*sz+0+v.cells.toList.length)).toArray hr (by simp[hv];omega);rw[this];congr 2;rw[<-bN];congr 1;have hl2:(cur.toList.take (i*sz)++v.cells.toList).length=(i+1)*sz:=by simp[hv];omega
    simp only[fK];rw[List.take_append_of_le_length (by rw[hl2];exact ay _),<-hl2,eD]
  cases h
theorem Y7{t e:TypeId}{sz:Nat}{parts:Array (Nat×Operand)}{gd:Option (Nat×Bool)}(ha:JH N m a)(hp:WK m parts.toList=some ps)(ht:P.underlying t=some (.slice e))(f:Zm P e=some (g,sz))(hz:Ju P e=some z)
  (hc:Yn sz 0 ps=some cs) (h:cs.length=n*sz) (b:il (n*sz) 16777216=true) (c:bm (n*sz) 0=false) :
  (execOp a.eval ⟨some d,.buildSlice t n parts,ty,pos,aft,gd⟩).run P w = .ok (.value (.slice (some ⟨w.heap.size,0,none⟩) n n)) (w.alloc (.cells cs.toArray e)):=by
 have k:(parts.map λ(i,x)=>(i,a.eval x)).toList=ps:=by simpa using ha.parts hp
 have j:=BF ps 0 cs ((fP (n*sz)).map λi=>z.toArray[i%z.toArray.size]!) hc (by simp[h]);have:=N2 (P:=P) (w:=w) (n:=n) (parts:=parts.map λ(i,x)=>(i,a.eval x)) ht f hz (wg<|fR b) (λe=>by rw[e]at c;cases c) (by rw[k];exact j);simp only[Nat.zero_mul,List.take_zero,eK]at this;simp only[execOp,aq,this,ax,aW]
theorem KK{t e:TypeId}{sz:Nat}{parts:Array (Nat×Operand)}(hp:WK m parts.toList=some ps)(ht:P.underlying t=some (.slice e))(h:Zm P e=some (g,sz))(hz:Ju P e=some z)
  (hc:Yn sz 0 ps=some cs) (j:cs.length=n*sz) (k:∀b,JS P ops Q l N ((d,.slice (some ⟨b,0,none⟩) n n)::m) ⟨w0,F0,(b,.cells cs.toArray e (0,0))::bs,G⟩) (c:il (n*sz) 16777216=true:=by rfl) (i:bm (n*sz) 0=false:=by rfl)
  (hu:Gz e=true:=by rfl) (hd:Jx N (some d)=true:=by rfl):JS P ops Q (⟨some d,.buildSlice t n parts,ty,pos,aft,none⟩::l) N m ⟨w0,F0,bs,G⟩:=λa w ha f =>
 wpList_plain rfl λ_ o=>upon_value (Y7 ha hp ht h hz hc j c i) (o _ _ (k _ _ _ (ha.put hd _) (f.alloc _ (ZB hu))))
end
section
variable{d:Option Tmp}{ty:TypeId}{pos:String}{aft:Array Edge}
theorem run_storeCells_at(g:Nat)(t:TypeId):∀(vs:List Value) (i:Nat) (off:Nat) (cur l':List Value) (w:World),w.heap[g]?=some (.cells cur.toArray t (0,0))->(∀v∈vs,v.oneCell'=true)->Yz cur (off+i) vs l' ->
  ∃w',(storeCells ⟨g,off,none⟩ vs i).run P w = .ok () w'/\w'.heap=w.heap.setIfInBounds g (.cells l'.toArray t (0,0))/\w'.os=w.os/\w'.tape=w.tape/\w'.output=w.output/\w'.drawn=w.drawn
 |[],i,off,cur,l',w,hg,_,hp=>by
  have b:g<w.heap.size:=by rcases aK g w.heap.size with h | h;exact h;rw[Array.getElem?_eq_none h]at hg;cases hg
  have e:l'=cur:=by have:=hp.eq;simpa using this
  subst e;refine⟨w,rfl,?_,rfl,rfl,rfl,rfl⟩;apply Array.ext_getElem?;intro k;by_cases e:k=g
  ·subst e;rw[hg];simp[b]
  rw[Array.getElem?_setIfInBounds_ne (jV e)]
 |v::vs,i,off,cur,l',w,hg,h1,hp=>by
  have o:=hp.le;simp only[bD]at o;have f:(⟨g,off,none⟩:Addr).add i=⟨g,off+i,none⟩:=by unfold fV;split<;>simp_all
  have b:g<w.heap.size:=by rcases aK g w.heap.size with h | h;exact h;rw[Array.getElem?_eq_none h]at hg;cases hg
  have c:w.cell? ⟨g,off+i,none⟩=some (cur[off+i]' O):=by simp[World.cell?,hg,show off+i<cur.length by omega]
  have d:w.frozen? ⟨g,off+i,none⟩=false:=by simp[World.frozen?,hg]
  have j:(store ((⟨g,off,none⟩:Addr).add i) v).run P w = .ok () (w.setCell ⟨g,off+i,none⟩ v):=by
   rw[f,run_store P w _ v _ (h1 v wu),c];simp[d]
  have a:(w.setCell ⟨g,off+i,none⟩ v).heap=w.heap.setIfInBounds g (.cells (cur.set (off+i) v).toArray t (0,0)):=by
   apply Array.ext_getElem?;intro k;by_cases e:k=g
   ·subst e;show(w.heap.modify k _)[k]?=_;rw[Array.getElem?_modify,if_pos rfl,hg];simp[b]
   rw[Array.getElem?_setIfInBounds_ne (jV e)];simp[eR,Array.getElem?_modify,jV e]
  have m:Yz (cur.set (off+i) v) (off+(i+1)) vs l':=by
   have key:∀(n:Nat) (cur l':List Value),Yz cur n (v::vs) l'->Yz (cur.set n v) (n+1) vs l':=by
    intro n
    induction n with
    |zero=>intro cur l' h;cases h with | here h=>exact .skip h
    |succ n ih=>intro cur l' h;cases h with | skip h=>exact .skip (ih _ _ h)
   exact key _ _ _ hp
  obtain⟨w',h2,h3,h4,h5,h6⟩:=run_storeCells_at g t vs (i+1) off (cur.set (off+i) v) l' (w.setCell ⟨g,off+i,none⟩ v) (by rw[a];simp[b]) (λx hx=>h1 x (by simp[hx])) m;refine⟨w',?_,?_,h4,h5,h6⟩
  ·simp only[storeCells,aq,j,ax,h2]
  rw[h3,a];simp
theorem Es{T:TypeId}{v:Value}{vs:List Value}{gd:Option (Nat×Bool)}(hx:a.eval x = .pointer (some ⟨b,off,none⟩))(hy:a.eval y=v)(hv:v.cells=vs.toArray)(ht:Zm P T=some (g,n))(f:vs.length=n)
  (hb:w.heap[b]?=some (.cells c.toArray T' (0,0))) (hp:Yz c off vs l') (h1:∀v∈vs,v.oneCell'=true) :
  ∃w',(execOp a.eval ⟨d,.store T x y,ty,pos,aft,gd⟩).run P w = .ok .skip w'/\w'.heap=w.heap.setIfInBounds b (.cells l'.toArray T' (0,0))/\w'.os=w.os/\w'.tape=w.tape/\w'.output=w.output/\w'.drawn=w.drawn:=by
 obtain⟨w',h2,h3⟩:=run_storeCells_at (P:=P) b T' vs 0 off c l' w hb h1 hp;refine⟨w',?_,h3⟩;subst f;simp[execOp,hx,hy,Instr.storeAt,aQ,storeVar,hv,Y0 ht,h2]
def PD:List Value->Prop
 |[]=>True
 |v::r=>v.oneCell'=true/\PD r
theorem Zd:∀ {l:List Value},PD l->∀v∈l,v.oneCell'=true
 |v::l,⟨h1,h2⟩,u,hu=>by
  rcases List.mem_cons.1 hu with rfl | hu
  ·exact h1
  exact Zd h2 u hu
theorem QV{T:TypeId}{v:Value}{vs:List Value}(hx:ev m x=some (.pointer (some ⟨b,off,none⟩)))(hy:ev m y=some v)(hv:v.cells=vs.toArray)(ht:Zm P T=some (g,n))(j:vs.length=n)
  (i:Own bs b (.cells c.toArray T' (0,0)) f) (hp:Yz c off vs l') (h1:PD vs) (k:JS P ops Q l N m ⟨w0,F0,f (.cells l'.toArray T' (0,0)),G⟩) (hu:Gz T'=true:=by rfl):JS P ops Q (⟨none,.store T x y,ty,pos,aft,none⟩::l) N m ⟨w0,F0,bs,G⟩:=λa w ha h =>
 wpList_plain rfl λ_ o=>by
  obtain⟨w',h2,h3⟩:=Es (P:=P) (d:=none) (ty:=ty) (pos:=pos) (aft:=aft) (gd:=none) (ha.ev hx) (ha.ev hy) hv ht j (h.own i) hp (Zd h1);obtain⟨pre,post,E,z⟩:=i.split;subst E;rw[z]at k;exact upon_skip h2 (o _ _ (k _ _ ha (h.write pre h3 (ZB hu))))
end
inductive GD:List (Nat×Obj)->Nat->Obj->(Obj->List (Nat×Obj))->List (Nat×Obj)->Prop
 |here {b:Nat} {o:Obj} {r:List (Nat×Obj)}:GD ((b,o)::r) b o (λo'=>(b,o')::r) r
 |there {x:Nat×Obj} {l r:List (Nat×Obj)} {b:Nat} {o:Obj} {f:Obj->List (Nat×Obj)}:GD l b o f r->GD (x::l) b o (λo'=>x::f o') (x::r)
theorem GD.own{l r:List (Nat×Obj)}(h:GD l b o f r):Own l b o f:=by
 induction h with
 |here=>exact .here
 |there h ih=>exact .there ih
theorem GD.sub{l r:List (Nat×Obj)}(h:GD l b o f r):∀o',r.Sublist (f o'):=by
 induction h with
 |here=>exact λ_=>fH _ _
 |there h ih=>exact λo'=>(ih o').cons_cons _
theorem Jg{G0:Gs->Prop}{T:TypeId}{v:Value}{vs:List Value}(hx:ev m x=some (.pointer (some ⟨b,off,none⟩)))(hy:ev m y=some v)(hv:v.cells=vs.toArray)(ht:Zm P T=some (g,n))(K:vs.length=n)
  (j:GD bs b (.cells c.toArray T' (0,0)) f bs') (H:bs0.Sublist bs') (o:∀F,G F->G0 F) (hp:Yz c off vs l') (h1:PD vs) (k:JD P ops Q ⟨w0,F0,bs0,G0⟩ l N m ⟨w0,F0,f (.cells l'.toArray T' (0,0)),G⟩) (hu:Gz T'=true:=by rfl):JD P ops Q ⟨w0,F0,bs0,G0⟩ (⟨none,.store T x y,ty,pos,aft,none⟩::l) N m ⟨w0,F0,bs,G⟩:=λ_ a w ha z=>by
  obtain⟨w',h2,h3⟩:=Es (P:=P) (d:=none) (ty:=ty) (pos:=pos) (aft:=aft) (gd:=none) (ha.ev hx) (ha.ev hy) hv ht K (z.own j.own) hp (Zd h1);have sub:∀i w,St ⟨w0,F0,f i,G⟩ w->St ⟨w0,F0,bs0,G0⟩ w:=λi w h=>h.imp (H.trans (j.sub i)) o;obtain⟨pre,post,U,L⟩:=j.own.split;subst U;have E:St ⟨w0,F0,f (.cells l'.toArray T' (0,0)),G⟩ w':=by rw[L];exact z.write pre h3 (ZB hu)
  refine .inr ⟨rfl,?_⟩;rw[if_pos (by simp[au])];exact upon_skip h2 ⟨sub _ _ E,k (sub _) _ _ ha E⟩
theorem JO{d:Nat}{l:List Oper}(b:bs0.Sublist bs)(hm:P.follows .mixedOrders=true)(f:lexB .any l=true)(h:JD P l.toArray (Xp (Q .normal)) ⟨w0,F0,bs0,G⟩ l N m ⟨w0,F0,bs,G⟩):J P (.region d l.toArray true) Q N m ⟨w0,F0,bs,G⟩ :=
 λa w ha c=>P7 hm f (c.drew.imp b λ_ h=>h) (h (λ_ h=>h.imp b λ_ h=>h) a _ ha c.drew)
theorem Jq{d:Nat}{l:List Oper}(n:Nat)(b:bs0.Sublist bs)(hm:P.follows .mixedOrders=true)(f:Nv l n=true)(uQ:lexB .any (l.take n)=true)
  (h:JD P (l.take n).toArray (Xp λa w=>wpList P l.toArray Q (l.drop n) a w) ⟨w0,F0,bs0,G⟩ (l.take n) N m ⟨w0,F0,bs,G⟩):J P (.region d l.toArray true) Q N m ⟨w0,F0,bs,G⟩ :=
 λa w ha c=>Hq n hm f uQ (c.drew.imp b λ_ h=>h) (h (λ_ h=>h.imp b λ_ h=>h) a _ ha c.drew)
theorem MH{c:Code}{cs:Array Value}{T:TypeId}(hr:qS bs b (.cells cs T fr) bs')(k:J P c Q N m ⟨w0,F0,bs',λF=>G F/\F b=some (cs,T)⟩):J P c Q N m ⟨w0,F0,bs,G⟩:=λa w ha d=>by
 obtain⟨pre,post,rfl,rfl⟩:=hr.split;exact k a w ha (d.freeze pre)
theorem Kg{cs:Array Value}{T:TypeId}(hr:qS bs b (.cells cs T fr) bs')(k:JS P ops Q l N m ⟨w0,F0,bs',λF=>G F/\F b=some (cs,T)⟩):JS P ops Q l N m ⟨w0,F0,bs,G⟩:=λa w ha c=>by
 obtain⟨pre,post,rfl,rfl⟩:=hr.split;exact k a w ha (c.freeze pre)
def E9:Nat->List Value->Sl
 |_,[]=>[]
 |k,v::r=>(k,v)::E9 (k+1) r
theorem W4:∀(args:List Value) (k t:Nat) (v:Value),look (E9 k args) t=some v->k<=t/\args[t-k]?=some v
 |[],k,t,v,h=>by simp[E9,look]at h
 |u::r,k,t,v,h=>by
  simp only[E9,look]at h;cases hb:bm k t with
  |true =>
   rw[hb]at h;have:k=t:=by simpa using hb
   subst this;simpa using h
  |false =>
   rw[hb]at h;obtain⟨h1,h2⟩:=W4 r (k+1) t v (by simpa using h);refine⟨O,?_⟩;rw[show t-k=(t-(k+1))+1 by omega];simpa using h2
omit [Df] in
theorem QU.intro{f:FuncId}{c:Code}{val:γ->Value}{a:γ->Gs->Prop}{G:Gs->Prop}(d:P.funcs[f]?=some fn)(hb:fn.body=some c)(j:(fn.name == "runtime.NumGoroutine")=false)(m:fn.ntmps=N)(k:il args.length N=true)
  (i:Fits F w) (hg:∀F',Gs.le F F'->G F') (h:J (df:=Hi) P c (bodyPost P fn (Mf w F val a)) N (E9 0 args) ⟨w,F,[],G⟩):QU P f args w F val a:=by
 refine⟨enters_of d j (by rw[hb];rfl),calls_of_wp d hb (h _ w ⟨?_,rfl,λt v ht=>?_⟩ (St.start i hg))⟩
 ·have:=fR k
  simp[m];omega
 obtain⟨_,h2⟩:=W4 args 0 t v ht
 have b:t<args.length:=by rcases aK t args.length with g | g;exact g;rw[jc,List.getElem?_eq_none g]at h2;cases h2
 simp only[jc]at h2
 rw[Array.getElem?_append,if_pos (by simpa using b)]
 simpa using h2
theorem QU.go{f:FuncId}{c:Code}{val:γ->Value}{a:γ->Gs->Prop}{G:Gs->Prop}[u:Up G](i:P.funcs[f]?=some fn)(b:Fits F w)(hg:G F)
  (h:J (df:=Hi) P c (bodyPost P fn (Mf w F val a)) N (E9 0 args) ⟨w,F,[],G⟩) (hb:fn.body=some c:=by rfl) (d:(fn.name == "runtime.NumGoroutine")=false:=by rfl) (j:fn.ntmps=N:=by rfl) (g:il args.length N=true:=by rfl):QU P f args w F val a :=
 QU.intro i hb d j g b (λ_ k=>u.up k hg) h
omit [Df] in
theorem QAf{val:γ->Value}{b:γ->Gs->Prop}{bs:List (Nat×Obj)}{G:Gs->Prop}(c:γ)(hr:∀a w,JH (df:=Hi) N m a->St ⟨w0,F0,bs,G⟩ w->(results fn a.tmps).run P w = .ok (val c) w)(hg:∀F,G F->b c F):Fin (df:=Hi) (bodyPost P fn (Mf w0 F0 val b)) .ret N m ⟨w0,F0,bs,G⟩:=λa w ha f=>by
 obtain⟨F,h⟩:=id f
 exact⟨ha.df,val c,hr a w ha f,c,F,rfl,h.ext,h.le,h.old,h.fits,λF' d=>hg F' (h.g F' d)⟩
inductive Dm(P:Program)(m:Sl)(bs:List (Nat×Obj)):List ResultVar->List Value->Prop
 |nil:Dm P m bs [] []
 |tmp {t:Tmp} {v:Value} {r:List ResultVar} {vs:List Value} (h:look m t=some v) (k:Dm P m bs r vs):Dm P m bs (.tmp t::r) (v::vs)
 |QGn {t:Tmp} {T T':TypeId} {b n:Nat} {c:List Value} {v:Value} {fr:Nat×Nat} {f:Obj->List (Nat×Obj)} {r:List ResultVar} {vs:List Value} (h:look m t=some (.pointer (some ⟨b,0,none⟩))) (ht:Zm P T=some (false,n)) (ho:Own bs b (.cells c.toArray T' fr) f) (hg:Py c 0 [v]) (k:Dm P m bs r vs):Dm P m bs (.cell t T::r) (v::vs)
 |Jo {t:Tmp} {T T':TypeId} {b:Nat} {c:List Value} {fr:Nat×Nat} {f:Obj->List (Nat×Obj)} {r:List ResultVar} {vs:List Value} (h:look m t=some (.pointer (some ⟨b,0,none⟩))) (ht:Zm P T=some (true,c.length)) (ho:Own bs b (.cells c.toArray T' fr) f) (k:Dm P m bs r vs):Dm P m bs (.cell t T::r) (.agg c.toArray::vs)
def Gt(tmps:Array Value):ResultVar->Sem Value
 |.tmp t=>pure (tmps.getD t undef)
 |.cell p t=>do loadVar t (<-asAddr (tmps.getD p undef))
theorem Dm.run{rs:List ResultVar}{vs:List Value}(h:Dm P m bs rs vs){a:Act}{w:World}(ha:JH N m a)(hw:St ⟨w0,F0,bs,G⟩ w):
  (rs.mapM (Gt a.tmps)).run P w = .ok vs w:=by
 induction h with
 |nil=>rfl
 |tmp h k ih =>
  rename_i t v r vs;have e:=ha.get _ _ h;have e2:(Gt a.tmps (.tmp t)).run P w = .ok v w:=by simp[Gt,e]
  rw[fz,aq,e2];simp[ih]
 |QGn h ht ho hg k ih =>
  rename_i t T T' b n c v fr f r vs;have e:=ha.get _ _ h;have hc:=Xe (hw.own ho) (o:=0);have:=hg.at 0 _ I;simp only[eI]at this;rw[this]at hc;have e2:(Gt a.tmps (.cell t T)).run P w = .ok v w:=by simp[Gt,e,asAddr,Zc ht hc]
  rw[fz,aq,e2];simp[ih]
 |Jo h ht ho k ih =>
  rename_i t T T' b c fr f r vs;have e:=ha.get _ _ h;have:=YH (P:=P) ht rfl (w:=w) (b:=b) (off:=0) (λj v hv=>by rw[eI,Xe (hw.own ho)];exact hv);have e2:(Gt a.tmps (.cell t T)).run P w = .ok (.agg c.toArray) w:=by simp[Gt,e,asAddr,this]
  rw[fz,aq,e2];simp[ih]
theorem IK(fn:Func)(tmps:Array Value):results fn tmps=(do let vs <-fn.results.mapM (Gt tmps);pure (if h:vs.size=1 then vs[0]else .tuple vs)):=by
 unfold results;exact congrArg (λ(g:ResultVar->Sem Value)=>(do let vs <-fn.results.mapM g;pure (if h:vs.size=1 then vs[0]else .tuple vs):Sem Value)) (funext λx=>by cases x<;>rfl)
theorem Gp{rs:List ResultVar}{vs:List Value}(b:fn.results=rs.toArray)(h:Dm P m bs rs vs){a:Act}{w:World}(ha:JH N m a)(c:St ⟨w0,F0,bs,G⟩ w):
  (results fn a.tmps).run P w = .ok (match vs with | [v]=>v | vs=>.tuple vs.toArray) w:=by
 have:=h.run ha c;rw[IK,b,List.mapM_toArray];simp only[aq,Sem.run_map,this,ax,aW]
 match vs with
 |[]=>rfl
 |[v]=>rfl
 |v::u::r=>rfl
omit [Df] in
theorem QO{val:γ->Value}{b:γ->Gs->Prop}{bs:List (Nat×Obj)}{G:Gs->Prop}{rs:List ResultVar}{v:Value}(c:γ)(d:fn.results=rs.toArray)(h:Dm P m bs rs [v])(hv:val c=v)(hg:∀F,G F->b c F):Fin (df:=Hi) (bodyPost P fn (Mf w0 F0 val b)) .ret N m ⟨w0,F0,bs,G⟩ :=
 QAf c (λa w ha f=>by rw[hv];exact Gp d h ha f) hg
omit [Df] in
theorem Xm{val:γ->Value}{b:γ->Gs->Prop}{bs:List (Nat×Obj)}{G:Gs->Prop}{rs:List ResultVar}{v u:Value}{vs:List Value}(c:γ)(d:fn.results=rs.toArray)(h:Dm P m bs rs (v::u::vs))(hv:val c = .tuple (v::u::vs).toArray)(hg:∀F,G F->b c F):Fin (df:=Hi) (bodyPost P fn (Mf w0 F0 val b)) .ret N m ⟨w0,F0,bs,G⟩ :=
 QAf c (λa w ha f=>by rw[hv];exact Gp d h ha f) hg
end
end
section
variable[Dr][df:Df]
section
variable{P:Program}{N:Nat}{m:Sl}{S:World->Prop}{ty:TypeId}{v:Value}
def Od:BinOp->Value->Value->Option Value
 |.add,.int .i64 a,.int .i64 b=>some (.int .i64 (IntKind.i64.wrap (a+b)))
 |.sub,.int .i64 a,.int .i64 b=>some (.int .i64 (IntKind.i64.wrap (a-b)))
 |.mul,.int .i64 a,.int .i64 b=>some (.int .i64 (IntKind.i64.wrap (a*b)))
 |.add,.int .u64 a,.int .u64 b=>some (.int .u64 (IntKind.u64.wrap (a+b)))
 |.sub,.int .u64 a,.int .u64 b=>some (.int .u64 (IntKind.u64.wrap (a-b)))
 |.mul,.int .u64 a,.int .u64 b=>some (.int .u64 (IntKind.u64.wrap (a*b)))
 |.eql,.int .i64 a,.int .i64 b=>some (.bool (a==b))
 |.neq,.int .i64 a,.int .i64 b=>some (.bool (a != b))
 |.lss,.int .i64 a,.int .i64 b=>some (.bool (decide (a<b)))
 |.leq,.int .i64 a,.int .i64 b=>some (.bool (decide (a<=b)))
 |.gtr,.int .i64 a,.int .i64 b=>some (.bool (decide (a>b)))
 |.geq,.int .i64 a,.int .i64 b=>some (.bool (decide (a>=b)))
 |.eql,.int .u64 a,.int .u64 b=>some (.bool (a==b))
 |.neq,.int .u64 a,.int .u64 b=>some (.bool (a != b))
 |.lss,.int .u64 a,.int .u64 b=>some (.bool (decide (a<b)))
 |.leq,.int .u64 a,.int .u64 b=>some (.bool (decide (a<=b)))
 |.gtr,.int .u64 a,.int .u64 b=>some (.bool (decide (a>b)))
 |.geq,.int .u64 a,.int .u64 b=>some (.bool (decide (a>=b)))
 |.eql,.int .u8 a,.int .u8 b=>some (.bool (a==b))
 |.neq,.int .u8 a,.int .u8 b=>some (.bool (a != b))
 |.lss,.int .u8 a,.int .u8 b=>some (.bool (decide (a<b)))
 |.leq,.int .u8 a,.int .u8 b=>some (.bool (decide (a<=b)))
 |.gtr,.int .u8 a,.int .u8 b=>some (.bool (decide (a>b)))
 |.geq,.int .u8 a,.int .u8 b=>some (.bool (decide (a>=b)))
 |.eql,.int .i32 a,.int .i32 b=>some (.bool (a==b))
 |.neq,.int .i32 a,.int .i32 b=>some (.bool (a != b))
 |.lss,.int .i32 a,.int .i32 b=>some (.bool (decide (a<b)))
 |.leq,.int .i32 a,.int .i32 b=>some (.bool (decide (a<=b)))
 |.gtr,.int .i32 a,.int .i32 b=>some (.bool (decide (a>b)))
 |.geq,.int .i32 a,.int .i32 b=>some (.bool (decide (a>=b)))
 |.eql,.string a,.string b=>some (.bool (a.toList==b.toList))
 |.neq,.string a,.string b=>some (.bool (!(a.toList==b.toList)))
 |_,_,_=>none
theorem xI{op:BinOp}{T:TypeId}{x y:Operand}{vx a:Value}(h:Od op vx a=some v)(w:World):(do eqGuard op T x y vx a;binOp op T vx a:Sem Value).run P w = .ok v w:=by
  unfold Od at h;split at h<;>first
    | (cases h;done)
    | (simp only[aG]at h
       subst h;simp[eqGuard,binOp,Op.intArith,Op.intCmp,Op.stringOp])
theorem QM{op:BinOp}{T:TypeId}{vx b:Value}(hx:ev m x=some vx)(hy:ev m y=some b)(h:Od op vx b=some v):Qt P N m S (.binOp op T x y yT) ty v:=λa w _ _ _ _ ha _=>by
 have:=xI (P:=P) (T:=T) (x:=x) (y:=y) h w;simp only[execOp,ha.ev hx,ha.ev hy];simp only[aq]at this ⊢;rw[this];rfl
theorem Qk{T:TypeId}{a b:Int}(hx:ev m x=some (.int .i64 a))(hy:ev m y=some (.int .i64 b))(h : -9223372036854775808<=a+b/\a+b<=9223372036854775807):Qt P N m S (.binOp .add T x y yT) ty (.int .i64 (a+b)):=by
 have:=QM (P:=P) (N:=N) (m:=m) (S:=S) (ty:=ty) (T:=T) (yT:=yT) (op:=.add) hx hy rfl;rw[bZ _ h]at this;exact this
theorem Jv{T:TypeId}{a b:Int}(hx:ev m x=some (.int .i64 a))(hy:ev m y=some (.int .i64 b))(h : -9223372036854775808<=a-b/\a-b<=9223372036854775807):Qt P N m S (.binOp .sub T x y yT) ty (.int .i64 (a-b)):=by
 have:=QM (P:=P) (N:=N) (m:=m) (S:=S) (ty:=ty) (T:=T) (yT:=yT) (op:=.sub) hx hy rfl;rw[bZ _ h]at this;exact this
theorem We{T:TypeId}{a b:Int}(hx:ev m x=some (.int .i64 a))(hy:ev m y=some (.int .i64 b))(h : -9223372036854775808<=a*b/\a*b<=9223372036854775807):Qt P N m S (.binOp .mul T x y yT) ty (.int .i64 (a*b)):=by
 have:=QM (P:=P) (N:=N) (m:=m) (S:=S) (ty:=ty) (T:=T) (yT:=yT) (op:=.mul) hx hy rfl;rw[bZ _ h]at this;exact this
theorem L1{T:TypeId}{k:IntKind}{a b:Int}(hx:ev m x=some (.int k a))(hy:ev m y=some (.int k b))(h:b≠0):Qt P N m S (.binOp .quo T x y yT) ty (.int k (k.wrap (a.tdiv b))):=λs w _ _ _ _ ha _=>by
 simp[execOp,ha.ev hx,ha.ev hy,eqGuard,binOp,Op.intDiv,h]
theorem cC{T:TypeId}{k:IntKind}{a b:Int}(hx:ev m x=some (.int k a))(hy:ev m y=some (.int k b))(h:b≠0):Qt P N m S (.binOp .rem T x y yT) ty (.int k (a.tmod b)):=λs w _ _ _ _ ha _=>by
 simp[execOp,ha.ev hx,ha.ev hy,eqGuard,binOp,Op.intDiv,h]
theorem WJ{T:TypeId}{a b:Int}(hx:ev m x=some (.int .i64 a))(hy:ev m y=some (.int .i64 b))(ha:0<=a)(c:a<=9223372036854775807)(hb:0<b):Qt P N m S (.binOp .quo T x y yT) ty (.int .i64 (a/b)):=by
 have:=L1 (P:=P) (N:=N) (m:=m) (S:=S) (ty:=ty) (T:=T) (yT:=yT) hx hy O;have e:a.tdiv b=a/b:=fB ha;have h0:0<=a/b:=bh ha O;have h1:a/b<=a:=Int.ediv_le_self b ha;rw[e,bZ _ ⟨O,O⟩]at this;exact this
theorem KV{T:TypeId}{k:IntKind}{a b:Int}(hx:ev m x=some (.int k a))(hy:ev m y=some (.int k b))(ha:0<=a)(hb:0<b):Qt P N m S (.binOp .rem T x y yT) ty (.int k (a%b)):=by
 have:=cC (P:=P) (N:=N) (m:=m) (S:=S) (ty:=ty) (T:=T) (yT:=yT) hx hy O;rw[Int.tmod_eq_emod_of_nonneg ha]at this;exact this
theorem xr{T:TypeId}{a b:ByteArray}(hx:ev m x=some (.string a))(hy:ev m y=some (.string b))(h:((a.size+b.size:Nat):Int)<=9223372036854775807):Qt P N m S (.binOp .add T x y yT) ty (.string (a++b)):=λs w _ _ _ _ ha _=>by
 have c:¬((a.size+b.size:Nat):Int)>IntKind.i64.max:=by
  have:IntKind.i64.max=9223372036854775807:=wj;omega
 simp only[execOp,ha.ev hx,ha.ev hy,eqGuard,binOp,Op.stringOp,if_neg c];rfl
theorem Jw{T:TypeId}{b:Bool}(hx:ev m x=some (.bool b)):Qt P N m S (.unOp .not T x) ty (.bool (!b)):=λs w _ _ _ _ ha _=>by
 simp[execOp,ha.ev hx,Op.unary]
def SC(P:Program)(T:TypeId):Option IntKind:=match P.underlying T with
 |some (.int k)=>some k
 |_=>none
theorem Rs{src dst:TypeId}{k:IntKind}{n:Int}(hx:ev m x=some (.int k' n))(hs:(P.underlying src).isSome=true)(hk:SC P dst=some k):Qt P N m S (.convert src dst x) ty (.int k (k.wrap n)):=λs w _ _ _ _ ha _=>by
 obtain⟨d,hd⟩:=Option.isSome_iff_exists.1 hs;unfold SC at hk;split at hk
 ·rename_i k'' hu;cases hk;simp only[execOp,ha.ev hx,convert,aq,run_underlying hd,run_underlying hu,ax];rfl
 cases hk
theorem AW{n:Int}(h : -9223372036854775808<=n/\n<=9223372036854775807):IntKind.i64.wrap n=n:=bZ _ h
theorem Fb{src a:TypeId}{n:Int}(hx:ev m x=some (.int k' n))(b:(P.underlying src).isSome=true)(hk:SC P a=some .i64)(h : -9223372036854775808<=n/\n<=9223372036854775807):Qt P N m S (.convert src a x) ty (.int .i64 n):=by
 have:=Rs (P:=P) (N:=N) (m:=m) (S:=S) (ty:=ty) hx b hk;rw[AW h]at this;exact this
def WS(P:Program)(T:TypeId):Bool:=match P.underlying T with
 |some .string=>true
 |_=>false
theorem YT{b:Builtin}{args:Array Operand}{c:Array TypeId}{d:Option Tmp}{g:Option (Nat×Bool)}:execOp a.eval ⟨d,.call ⟨.builtin b,args,c⟩,ty,pos,aft,g⟩=builtin b c ty (args.map λ| .const _=>true | _=>false) (args.map a.eval):=rfl
theorem xo{T:TypeId}{s:ByteArray}(hx:ev m x=some (.string s))(hT:WS P T=true):Qt P N m S (.call ⟨.builtin .len,#[x],#[T]⟩) ty (.int .i64 s.size):=λa w _ _ _ _ ha _=>by
 unfold WS at hT;split at hT
 ·rename_i hu;rw[YT];simp[builtin,iA,ha.ev hx,run_underlying hu,goInt]
 cases hT
def GZ(P:Program)(T:TypeId):Option TypeId:=match P.underlying T with
 |some (.slice e)=>some e
 |_=>none
theorem Jc{T e:TypeId}(h:GZ P T=some e):P.underlying T=some (.slice e):=by
 unfold GZ at h;split at h
 ·cases h;assumption
 cases h
theorem Qb{T e:TypeId}{q:Option Addr}{c:Nat}(hx:ev m x=some (.slice q n c))(b:GZ P T=some e):Qt P N m S (.call ⟨.builtin .len,#[x],#[T]⟩) ty (.int .i64 n):=λa w _ _ _ _ ha _=>by
 rw[YT];simp[builtin,iA,ha.ev hx,run_underlying (Jc b),goInt]
theorem xh{T:TypeId}{a b:Int}(hx:ev m x=some (.int .i64 a))(hy:ev m y=some (.int .i64 b)):Qt P N m S (.call ⟨.builtin .min,#[x,y],#[T,T']⟩) ty (.int .i64 (if b<a then b else a)):=λs w _ _ _ _ ha _=>by
 rw[YT];simp[builtin,ha.ev hx,ha.ev hy,Builtin.min_,Builtin.min2]
theorem cD{T:TypeId}{a b:Int}(hx:ev m x=some (.int .i64 a))(hy:ev m y=some (.int .i64 b)):Qt P N m S (.call ⟨.builtin .max,#[x,y],#[T,T']⟩) ty (.int .i64 (if b>a then b else a)):=λs w _ _ _ _ ha _=>by
 rw[YT];simp[builtin,ha.ev hx,ha.ev hy,Builtin.max_,Builtin.max2]
theorem xp{T:TypeId}{s:ByteArray}{i:Nat}(hx:ev m x=some (.string s))(hy:ev m y=some (.int .i64 (i:Int)))(hT:WS P T=true)(hi:i<s.size):Qt P N m S (.index T x y) ty (.int .u8 (s.data[i].toNat:Int)):=λa w _ _ _ _ ha _=>by
 unfold WS at hT;split at hT
 ·rename_i hu;have e:s[i]?=some (s.data[i]):=by
   rw[getElem?_pos s i hi];rfl
  simp[execOp,ha.ev hx,ha.ev hy,Instr.index,asIntOf,run_underlying hu,e]
 cases hT
theorem Sw{T:TypeId}{s:ByteArray}{lo hi:Option Value}{l h:Nat}(hT:WS P T=true)(hlo:(lo=none/\l=0)\/lo=some (.int .i64 (l:Int)))(hhi:(hi=none/\h=s.size)\/hi=some (.int .i64 (h:Int)))(h1:l<=h)(h2:h<=s.size)(w:World):
  (jb T (.string s) lo hi none).run P w = .ok (.string (s.extract l h)) w:=by
 unfold WS at hT;split at hT
 ·rename_i hu;rcases hlo with ⟨rfl,rfl⟩ | rfl<;>rcases hhi with ⟨rfl,rfl⟩ | rfl <;>
   simp[jb,run_underlying hu,Instr.sliceBounds,Instr.sliceBound,asIntOf,h1,h2]
 cases hT
def UG(m:Sl):Option Operand->Option (Option Value)
 |none=>some none
 |some x=>(ev m x).map some
theorem JH.UG(h:JH N m a){x:Option Operand}{v:Option Value}(hx:UG m x=some v):x.map a.eval=v:=by
 cases x with
 |none=>simpa[YtogkbhegfnklhaaGreatDoor.UG]using hx
 |some x =>
  cases hv:YtogkbhegfnklhaaGreatDoor.ev m x with
  |none=>simp[YtogkbhegfnklhaaGreatDoor.UG,hv]at hx
  |some u=>simp[YtogkbhegfnklhaaGreatDoor.UG,hv]at hx;simp[h.ev hv,hx]
theorem IT{T:TypeId}{lo hi:Option Operand}{vl vh:Option Value}{s:ByteArray}{l h:Nat}(hx:ev m x=some (.string s))(el:UG m lo=some vl)(eh:UG m hi=some vh)(hT:WS P T=true)
  (hlo:(vl=none/\l=0)\/vl=some (.int .i64 (l:Int))) (hhi:(vh=none/\h=s.size)\/vh=some (.int .i64 (h:Int))) (h1:l<=h) (h2:h<=s.size):Qt P N m S (.slice T x lo hi none) ty (.string (s.extract l h)):=λa w _ _ _ _ ha _=>by
 have e:=Sw (P:=P) hT hlo hhi h1 h2 w;unfold WS at hT;split at hT
 ·rename_i hu;simp[execOp,ha.ev hx,ha.UG el,ha.UG eh,Instr.sliceAt,run_underlying hu,e]
 cases hT
end
end
section
variable[Dr][df:Df]
section
variable{P:Program}{Q:Exit->Act->World->Prop}{N:Nat}{m:Sl}{E E0:Env}{ops:Array Oper}{l:List Oper}{w0:World}{F0:Gs}{bs:List (Nat×Obj)}{G:Gs->Prop}{ty:TypeId}{v:Value}{S:World->Prop}
theorem Kl(b off k:Nat):(⟨b,off,none⟩:Addr).add k=⟨b,off+k,none⟩:=by simp[fV]
theorem Ql{T e:TypeId}{c sz i:Nat}(hx:ev m x=some (.slice (some ⟨b,off,none⟩) n c))(hy:ev m y=some (.int .i64 (i:Int)))(f:GZ P T=some e)(d:Zm P e=some (g,sz))(hi:i<n):Qt P N m S (.indexAddr T x y) ty (.pointer (some ⟨b,off+i*sz,none⟩)):=λa w _ _ _ _ ha _=>by
 simp[execOp,ha.ev hx,ha.ev hy,Instr.indexAt,asIntOf,run_underlying (Jc f),Y0 d,hi,Kl]
theorem YI{T:TypeId}{f:Obj->List _}(h:ev m x=some (.pointer (some ⟨b,off,none⟩)))(ht:Zm P T=some (false,n))(g:Own bs b (.cells c.toArray T' fr) f)(hg:c[off]?=some v):
  Qt P N m (St ⟨w0,F0,bs,G⟩) (.load T x) ty v:=λa w _ _ _ _ ha d=>by
 have hc:w.cell? ⟨b,off,none⟩=some v:=by rw[Xe (d.own g)];exact hg
 simp[execOp,ha.ev h,ee,aQ,Zc ht hc]
theorem DR{T:TypeId}{vs:List Value}{f:Obj->List _}(h:ev m x=some (.pointer (some ⟨b,off,none⟩)))(ht:Zm P T=some (true,n))(g:Own bs b (.cells c.toArray T' fr) f)(i:vs.length=n)(hg:∀j v,vs[j]?=some v->c[off+j]?=some v):
  Qt P N m (St ⟨w0,F0,bs,G⟩) (.load T x) ty (.agg vs.toArray):=λa w _ _ _ _ ha d=>by
 have:=YH ht i (off:=off) (λj v hv=>by rw[Xe (d.own g)];simp_all);simp[execOp,ha.ev h,ee,aQ,this]
theorem Yz.mk':∀(n:Nat) (l vs:List Value),n+vs.length<=l.length->Yz l n vs (l.take n++vs++l.drop (n+vs.length))
 |0,l,[],_=>by simpa using Yz.nil
 |0,x::l,v::vs,h=>by
  have:=Yz.mk' 0 l vs (by simp_all);exact .here this
 |n+1,x::l,vs,h=>by
  have:=Yz.mk' n l vs (by grind);rw[ib];simpa using Yz.skip this
 |0,[],v::vs,h=>by grind
 |n+1,[],vs,h=>by grind
inductive Q2(T:TypeId)(sz:Nat):Value->Nat->List Value->List (Nat×Obj)->Prop
 |nil:Q2 T sz (.slice none 0 0) 0 [] []
 |some {b n cap:Nat} {l rest:List Value} (h1:l.length=n*sz) (h2:l.length+rest.length=cap*sz) (h3:n<=cap) (h4:cap<=maxLen):Q2 T sz (.slice (some ⟨b,0,none⟩) n cap) n l [(b,.cells (l++rest).toArray T (0,0))]
theorem Q2.one{T:TypeId}{sz:Nat}{v:Value}{l:List Value}(h:Q2 T sz v n l ob):v.oneCell'=true/\v.cells=[v].toArray:=by
 cases h<;>exact⟨rfl,rfl⟩
structure Src(E:Env)(sz:Nat)(x:Value)(k:Nat)(news:List Value):Prop where
 len:news.length=k*sz
 rd:((∃c,x = .slice none 0 c)/\k=0/\news=[])\/∃a c,x = .slice (some a) k c/\∀w,St E w->∀j v,news[j]?=some v->w.cell? (a.add j)=some v
theorem Src.row{sz c:Nat}{cs:Array Value}{T:TypeId}(hr:∀F,G F->F b=some (cs,T))(hg:∀j v,news[j]?=some v->cs[off+j]?=some v)(d:news.length=k*sz):Src ⟨w0,F0,bs,G⟩ sz (.slice (.some ⟨b,off,none⟩) k c) k news :=
 ⟨d,.inr ⟨_,_,rfl,λw a j v hv=>by rw[Kl];exact cell_of_row a hr (hg j v hv)⟩⟩
def ZC(P:Program)(T:TypeId):Option Nat:=(P.info? T).map (·.bytes)
theorem Ht{sz:Nat}{x:Value}(b:news.length=k*sz)(h:((∃c,x = .slice none 0 c)/\k=0/\news=[])\/∃a c,x = .slice (some a) k c/\∀j v,news[j]?=some v->w.cell? (a.add j)=some v):
  (fN sz k x).run P w = .ok news.toArray w:=by
 rcases h with ⟨⟨_,rfl⟩,rfl,rfl⟩ | ⟨a,c,rfl,h⟩
 ·rfl
 grind[run_firstCells_some]
theorem H9{t e:TypeId}{sz:Nat}{x y:Value}{olds:List Value}{ob:List (Nat×Obj)}(ht:GZ P t=some e)(hs:Zm P e=some (g,sz))(hz:Ju P e=some z)(hzl:z.length=sz)(hby:ZC P e=some bytes)
  (hr:Q2 e sz x n olds ob) (hs2:Src ⟨w0,F0,ob++bs,G⟩ sz y k news) (hw:St ⟨w0,F0,ob++bs,G⟩ w) (h63:n+k<=9223372036854775807) (h47:(n+k)*bytes<=140737488355328) (h1:∀v∈news,v.oneCell'=true) (hu:Gz e=true) :
  ∃v' ob' w',(eF #[t,t] ty #[x,y]).run P w = .ok v' w'/\Q2 e sz v' (n+k) (olds++news) ob'/\St ⟨w0,F0,ob'++bs,G⟩ w':=by
 have hi:∃i,P.info? e=some i/\i.size=sz/\i.bytes=bytes/\∃zv,i.zero=some zv/\zv.cells=z.toArray:=by
  unfold ZC at hby;unfold Ju at hz;unfold Zm at hs;cases hie:P.info? e with
  |none=>simp_all
  |some i =>
   rw[hie]at hby hz hs;dsimp only at hz hs;simp only[eG,aG]at hby;refine⟨i,rfl,?_,hby,?_⟩
   ·grind
   cases hzz:i.zero<;>grind
 obtain⟨i,hi1,hi2,hi3,zv,hi4,hi5⟩:=hi;subst hi2 hi3;have hzc:∀q,(aD zv.cells q).toList.length=q*i.size:=λq=>by grind[aD]
 have hu':∀c fr c' fr',Obj.cells c e fr≠.cells c' 264 fr':=λc fr=>ZB hu;have new:∀ {w':World} (l rest:List Value) (v':Value) (cap:Nat) (bs':List (Nat×Obj)),St ⟨w0,F0,bs',G⟩ w'->bs.Sublist bs'->v' = .slice (some ⟨w'.heap.size,0,none⟩) (n+k) cap->l.length=(n+k)*i.size->l.length+rest.length=cap*i.size->n+k<=cap->cap<=maxLen ->
   ∃ob',Q2 e i.size v' (n+k) l ob'/\St ⟨w0,F0,ob'++bs,G⟩ (w'.alloc (.cells (l++rest).toArray e)):=by
  intro w' l rest v' cap bs' hw' hsub hv' h2 h3 h4 h5;subst hv';exact⟨_,.some h2 h3 h4 h5,(hw'.imp hsub λ_ h=>h).alloc _ (hu' _ _)⟩
 have hcut:∀need old,need<=9223372036854775807->need<=grownCap w need old e:=λneed old _=>grownCap_ge w need old e;cases hr with
 |nil =>
  simp only[eI,eK]at *
  rcases hs2.rd with ⟨⟨_,rfl⟩,rfl,rfl⟩ | ⟨a,c,rfl,hrd⟩
  ·refine⟨.slice none 0 0,[],w,?_,.nil,hw⟩;simp[eF,run_underlying (Jc ht),sizeOf,typeInfo,hi1,fp,fN]
  by_cases hk:k=0
  ·subst hk;have hn0:news=[]:=by have:=hs2.len;simp_all
   subst hn0;refine⟨.slice none 0 0,[],w,?_,.nil,hw⟩;have:=run_firstCells_some (P:=P) w i.size 0 a 0 c [] wu (λj v hv=>by grind);simp[eF,run_underlying (Jc ht),sizeOf,typeInfo,hi1,fp,this]
  have hrun:=run_append_nil (P:=P) (w:=w) t ty e i zv (Jc ht) hi1 hi4 a k c news hs2.len (hrd w hw) O O O;have hge:=hcut k 0 h63;obtain⟨ob',h2,h3⟩:=new news (aD zv.cells (grownCap w k 0 e-k)).toList _ (grownCap w k 0 e) bs hw.drew QNG rfl hs2.len (by rw[hzc,hs2.len,<-aM];simp_all) hge (grownCap_le_maxLen w k 0 e (by trivial));refine⟨_,ob',_,hrun,h2,?_⟩;have e1:(news++(aD zv.cells (grownCap w k 0 e-k)).toList).toArray=news.toArray++aD zv.cells (grownCap w k 0 e-k):=by apply jU;simp
  grind
 |some g1 g2 g3 g4 =>
  rename_i b cap rest;have hbw:w.heap[b]?=some (.cells (olds++rest).toArray e (0,0)):=hw.own (f:=λo'=>(b,o')::bs) .here;have hold:∀j v,olds[j]?=some v->w.cell? ((⟨b,0,none⟩:Addr).add j)=some v:=λj v hv=>by
   rw[Kl,eI,Xe hbw,List.getElem?_append];have:j<olds.length:=by rcases aK j olds.length with q | q;exact q;rw[List.getElem?_eq_none q]at hv;cases hv
   rw[if_pos this];exact hv
  by_cases hroom:n+k<=cap
  ·have hmul:(n+k)*i.size<=cap*i.size:=bU _ hroom;rw[aM]at hmul;have hp:=Yz.mk' (n*i.size) (olds++rest) news (by rw[aH,hs2.len];omega);obtain⟨w',h2,h3⟩:=run_storeCells_at (P:=P) b e news 0 (n*i.size) (olds++rest) _ w hbw h1 hp;have e1:(olds++rest).take (n*i.size)=olds:=by rw[<-g1];simp
   have e2:(olds++rest).drop (n*i.size+news.length)=rest.drop news.length:=by
    rw[<-g1,List.drop_append,List.drop_of_length_le O,Nat.add_sub_cancel_left,eK]
   rw[e1,e2]at h3;have hfc:=Ht (P:=P) (w:=w) hs2.len (hs2.rd.imp id λ⟨a,c,h,h'⟩=>⟨a,c,h,h' w hw⟩);refine⟨.slice (some ⟨b,0,none⟩) (n+k) cap,[(b,.cells (olds++news++rest.drop news.length).toArray e (0,0))],w',?_,.some ?_ ?_ hroom g4,?_⟩
   ·have hlen:(fp y).run P w = .ok k w:=by
     rcases hs2.rd with ⟨⟨_,rfl⟩,rfl,_⟩ | ⟨a,c,rfl,_⟩<;>rfl
    simp[eF,run_underlying (Jc ht),sizeOf,typeInfo,hi1,hlen,hroom,hfc,Kl,h2]
   ·rw[aH,g1,hs2.len,aM]
   ·rw[aH,iq,hs2.len,g1];omega
   exact St.write [] hw h3 (hu' _ _)
  rcases hs2.rd with ⟨⟨_,rfl⟩,rfl,rfl⟩ | ⟨a,c,rfl,hrd⟩
  ·exact absurd g3 hroom
  have hfit:=growslice_fits (need:=n+k) (old:=cap) (bytes:=i.bytes) O h47;have hrun:=run_append_grow (P:=P) (w:=w) t ty e i zv (Jc ht) hi1 hi4 ⟨b,0,none⟩ n cap olds g1 hold a k c news hs2.len (hrd w hw) O O hfit;have hge:=hcut (n+k) cap h63;have hl2:(olds++news).length=(n+k)*i.size:=by rw[aH,g1,hs2.len,aM]
  obtain⟨ob',h2,h3⟩:=new (olds++news) (aD zv.cells (grownCap w (n+k) cap e-(n+k))).toList _ (grownCap w (n+k) cap e) _ hw.drew (fH _ _) rfl hl2 (by rw[hzc,hl2,<-aM];congr 1;omega) hge (grownCap_le_maxLen w (n+k) cap e (by simp only[maxLen];omega));refine⟨_,ob',_,hrun,h2,?_⟩;have e1:(olds++news++(aD zv.cells (grownCap w (n+k) cap e-(n+k))).toList).toArray=olds.toArray++news.toArray++aD zv.cells (grownCap w (n+k) cap e-(n+k)):=by apply jU;simp
  rw[e1]at h3;exact h3
theorem Ed{d:Nat}{t e:TypeId}{sz:Nat}{X Y:Operand}{x y:Value}{olds:List Value}(hx:ev m X=some x)(hy:ev m Y=some y)(ht:GZ P t=some e)(E:Zm P e=some (g,sz))(hz:Ju P e=some z)(b:z.length=sz)(f:ZC P e=some bytes)
  (hr:Q2 e sz x n olds ob) (c:Src ⟨w0,F0,ob++bs,G⟩ sz y k news) (h:n+k<=9223372036854775807) (i:(n+k)*bytes<=140737488355328) (h1:∀v∈news,v.oneCell'=true)
  (j:∀v' ob',Q2 e sz v' (n+k) (olds++news) ob'->JS P ops Q l N ((d,v')::m) ⟨w0,F0,ob'++bs,G⟩) (hu:Gz e=true:=by rfl) (hd:Jx N (some d)=true:=by rfl) :
  JS P ops Q (⟨some d,.call ⟨.builtin .append,#[X,Y],#[t,t]⟩,ty,pos,aft,none⟩::l) N m ⟨w0,F0,ob++bs,G⟩:=λa w ha o =>
 wpList_plain rfl λK F=>by
  obtain⟨v',ob',w',h2,h3,h4⟩:=H9 (ty:=ty) ht E hz b f hr c o h i h1 hu;refine upon_value ?_ (F _ _ (j v' ob' h3 _ w' (ha.put hd v') h4));rw[YT];simp[builtin,ha.ev hx,ha.ev hy,h2]
theorem V1{d:Nat}{t e:TypeId}{sz:Nat}{X Y:Operand}{x y:Value}{olds:List Value}{b:List _}{G0:Gs->Prop}(hx:ev m X=some x)(hy:ev m Y=some y)(ht:GZ P t=some e)(U:Zm P e=some (g,sz))(hz:Ju P e=some z)(c:z.length=sz)(o:ZC P e=some bytes)
  (hr:Q2 e sz x n olds ob) (f:Src ⟨w0,F0,ob++bs,G⟩ sz y k news) (E:n+k<=9223372036854775807) (H:(n+k)*bytes<=140737488355328) (h1:∀v∈news,v.oneCell'=true) (i:b.Sublist bs) (j:∀F,G F->G0 F)
  (K:∀v' ob',Q2 e sz v' (n+k) (olds++news) ob'->JD P ops Q ⟨w0,F0,b,G0⟩ l N ((d,v')::m) ⟨w0,F0,ob'++bs,G⟩) (hu:Gz e=true:=by rfl) (hd:Jx N (some d)=true:=by rfl) :
  JD P ops Q ⟨w0,F0,b,G0⟩ (⟨some d,.call ⟨.builtin .append,#[X,Y],#[t,t]⟩,ty,pos,aft,none⟩::l) N m ⟨w0,F0,ob++bs,G⟩:=λ_ a w ha L=>by
  obtain⟨v',ob',w',h2,h3,h4⟩:=H9 (ty:=ty) ht U hz c o hr f L E H h1 hu;have sub:∀w',St ⟨w0,F0,ob'++bs,G⟩ w'->St ⟨w0,F0,b,G0⟩ w':=λw' h=>h.imp (i.trans (List.sublist_append_right _ _)) j;refine .inr ⟨rfl,?_⟩;refine upon_value ?_ ⟨sub _ h4,K v' ob' h3 sub _ w' (ha.put hd v') h4⟩;rw[YT];simp[builtin,ha.ev hx,ha.ev hy,h2]
def Jz(z:List Value):Nat->List Value
 |0=>[]
 |n+1=>z++Jz z n
theorem Hz(z:List Value):∀n,(Jz z n).length=n*z.length
 |0=>by simp[Jz]
 |n+1=>by rw[Jz,aH,Hz z n,aM];omega
theorem Nh(z:List Value):∀(n j:Nat),j<n*z.length->(Jz z n)[j]?=z[j%z.length]?
 |0,j,h=>O
 |n+1,j,h=>by
  rw[Jz,List.getElem?_append];split
  ·grind[bT]
  rw[Nh z n _ (by grind)]
  grind[Nat.mod_eq_sub_mod]
theorem Wt(v:Value):∀n,Jz [v] n=ai n v
 |0=>rfl
 |n+1=>by rw[Jz,Wt v n];rfl
theorem TK{z:Array Value}:madeCells z (n*z.size)=(Jz z.toList n).toArray:=by
 apply Array.ext_getElem?
 grind[madeCells,ia,eV,Nh,Jz,Hz]
theorem O5{t e:TypeId}{sz n:Nat}{c:IntKind}(ht:GZ P t=some e)(k:Zm P e=some (g,sz))(hz:Ju P e=some z)(o:z.length=sz)(a:ZC P e=some bytes)(j:(n:Int)<=9223372036854775807)(F:n*bytes<=281474976710656):
  (iv t (.int c n) (.int c n)).run P w = .ok (.slice (some ⟨w.heap.size,0,none⟩) n n) (w.alloc (.cells (Jz z n).toArray e)):=by
 have hi:∃i,P.info? e=some i/\i.size=sz/\i.bytes=bytes/\∃b,i.zero=some b/\b.cells=z.toArray:=by
  unfold ZC at a;unfold Ju at hz;unfold Zm at k;cases d:P.info? e with
  |none=>simp_all
  |some i =>
   rw[d]at a hz k;simp at a;refine⟨i,rfl,?_,a,?_⟩
   ·grind
   cases m:i.zero<;>grind
 obtain⟨i,h,E,y,b,f,x⟩:=hi;have hb:(i.bytes:Int)*(n:Int)<=281474976710656:=by
  grind
 have:=run_make w t e i b (Jc ht) h f c c n n O (bV _) hb j;have H:i.size=b.cells.size:=by simp_all
 grind[eY,TK]
theorem Gf{d:Nat}{t e:TypeId}{sz n:Nat}{X Y:Operand}{j:IntKind}(hx:ev m X=some (.int j (n:Int)))(hy:ev m Y=some (.int j (n:Int)))(ht:GZ P t=some e)(x:Zm P e=some (g,sz))(hz:Ju P e=some z)(c:z.length=sz)(f:ZC P e=some bytes)(h:(n:Int)<=9223372036854775807)(i:n*bytes<=281474976710656)
  (k:∀b,JS P ops Q l N ((d,.slice (some ⟨b,0,none⟩) n n)::m) ⟨w0,F0,(b,.cells (Jz z n).toArray e (0,0))::bs,G⟩) (hu:Gz e=true:=by rfl) (hd:Jx N (some d)=true:=by rfl) :
  JS P ops Q (⟨some d,.makeSlice t X Y,ty,pos,aft,none⟩::l) N m ⟨w0,F0,bs,G⟩:=λa w ha o =>
 wpList_plain rfl λ_ y=>upon_value (by
  simp[execOp,ha.ev hx,ha.ev hy,aq,O5 ht x hz c f h i,ax,aW]) (y _ _ (k _ _ _ (ha.put hd _) (o.alloc _ (ZB hu))))
end
end
section
variable[Dr][df:Df]
def Yl(P:Program)(T:TypeId):Option (List (Nat×Nat)):=match P.info? T,P.underlying T with
 |some _,some (.struct a)=>a.toList.mapM λf=>(P.info? f.type).map λi=>(f.offset,i.size)
 |_,_=>none
inductive Dv(pl:List (Nat×Nat)):List (Nat×Value)->List Value->List Value->Prop
 |nil {l:List Value}:Dv pl [] l l
 |cons {i off sz:Nat} {v:Value} {vs cur cur' res:List Value} {r:List (Nat×Value)} (hf:pl[i]?=some (off,sz)) (hv:v.cells=vs.toArray) (hn:vs.length=sz) (hp:Yz cur off vs cur') (k:Dv pl r cur' res):Dv pl ((i,v)::r) cur res
theorem Ak(off:Nat):∀(vs:List Value) (j:Nat) (cur cur':List Value),Yz cur (off+j) vs cur'->(vs.zipIdx j).foldl (λcs (x:Value×Nat)=>cs.setIfInBounds (off+x.2) x.1) cur.toArray=cur'.toArray
 |[],j,cur,cur',h=>by have:=h.eq;simp at this;simp[this]
 |v::vs,j,cur,cur',h=>by
  have c:=h.le;have b:Yz (cur.set (off+j) v) (off+(j+1)) vs cur':=by
   have key:∀(n:Nat) (cur a:List Value),Yz cur n (v::vs) a->Yz (cur.set n v) (n+1) vs a:=by
    intro n
    induction n with
    |zero=>intro cur a h;cases h with | here h=>exact .skip h
    |succ n ih=>intro cur a h;cases h with | skip h=>exact .skip (ih _ _ h)
   exact key _ _ _ h
  rw[im,iy];have:=Ak off vs (j+1) _ _ b;simpa using this
theorem Dv.fill{cur res:List Value}(h:Dv pl ps cur res):eH (pl.toArray[·]?) cur.toArray ps=some res.toArray:=by
 induction h with
 |nil=>rfl
 |cons hf hv hn hp k ih =>
  rename_i i off sz v vs cur cur' res r;have hle:=hp.le;unfold eH;have e1:pl.toArray[i]?=some (off,sz):=by simpa using hf
  simp only[e1,hv,List.size_toArray,hn,ne_eq,not_true_eq_false,decide_false,iK,decide_eq_true_eq];rw[if_neg O];have e2:vs.toArray.zipIdx.foldl (λcs (x:Value×Nat)=>cs.setIfInBounds (off+x.2) x.1) cur.toArray=cur'.toArray:=by
   have:=Ak off vs 0 cur cur' (by simpa using hp);rw[<-this,<-eU];simp
  rw[e2];exact ih
section
variable{P:Program}{Q:Exit->Act->World->Prop}{N:Nat}{m:Sl}{E E0:Env}{ops:Array Oper}{l:List Oper}
theorem Zf{b:Array Oper}{c:List Oper}(h:JS P b Q c N m E):JD P ops (Xp λa w=>wpList P b Q c a w) E0 [] N m E:=λ_=>h
theorem Qw(h:Fin Q .normal N m E):JD P ops (Xp (Q .normal)) E0 [] N m E:=λ_=>h
theorem QY{t:Nat}{b:Bool}(h:look m t=some (.bool b))(ht:b=true->JS P ops Q l N ((t,.bool true)::m) E)(d:b=false->JS P ops Q l N ((t,.bool false)::m) E):JS P ops Q l N m E:=λa w ha c=>by
 cases b with
 |true=>exact ht rfl a w ⟨ha.size,ha.df,λi v hi=>by
   simp only[look]at hi;cases hb:bm t i with
   |true=>rw[hb]at hi;have:t=i:=(by simpa using hb);subst this;exact ha.get _ _ (by rw[h];simpa using hi)
   |false=>rw[hb]at hi;exact ha.get _ _ hi⟩ c
 |false=>exact d rfl a w ⟨ha.size,ha.df,λi v hi=>by
   simp only[look]at hi;cases hb:bm t i with
   |true=>rw[hb]at hi;have:t=i:=(by simpa using hb);subst this;exact ha.get _ _ (by rw[h];simpa using hi)
   |false=>rw[hb]at hi;exact ha.get _ _ hi⟩ c
theorem Vl{t:Nat}{b:Bool}(h:look m t=some (.bool b))(ht:b=true->JD P ops Q E0 l N ((t,.bool true)::m) E)(f:b=false->JD P ops Q E0 l N ((t,.bool false)::m) E):JD P ops Q E0 l N m E:=λd a w ha c=>by
 cases b with
 |true=>exact ht rfl d a w ⟨ha.size,ha.df,λi v hi=>by
   simp only[look]at hi;cases hb:bm t i with
   |true=>rw[hb]at hi;have:t=i:=(by simpa using hb);subst this;exact ha.get _ _ (by rw[h];simpa using hi)
   |false=>rw[hb]at hi;exact ha.get _ _ hi⟩ c
 |false=>exact f rfl d a w ⟨ha.size,ha.df,λi v hi=>by
   simp only[look]at hi;cases hb:bm t i with
   |true=>rw[hb]at hi;have:t=i:=(by simpa using hb);subst this;exact ha.get _ _ (by rw[h];simpa using hi)
   |false=>rw[hb]at hi;exact ha.get _ _ hi⟩ c
section
variable{d:Option Tmp}{o:Op}{ty:TypeId}{pos:String}{aft:Array Edge}{g t:Nat}{want:Bool}
theorem QJ(hg:(ops[g]?).bind (·.dst)=some t)(hb:look m t=some (.bool want))(ht:JS P ops Q (⟨d,o,ty,pos,aft,none⟩::l) N m E)(hd:Jx N d=true:=by rfl):JS P ops Q (⟨d,o,ty,pos,aft,some (g,want)⟩::l) N m E :=
 QCY hg hb (λ_=>ht) (λh=>by cases want<;>cases h) hd
theorem JF(hg:(ops[g]?).bind (·.dst)=some t)(hb:look m t=some (.bool want))(ht:JD P ops Q E0 (⟨d,o,ty,pos,aft,none⟩::l) N m E)(hd:Jx N d=true:=by rfl):JD P ops Q E0 (⟨d,o,ty,pos,aft,some (g,want)⟩::l) N m E :=
 QHJ hg hb (λ_=>ht) (λh=>by cases want<;>cases h) hd
theorem QI{d:Nat}{b:Bool}(hg:(ops[g]?).bind (·.dst)=some t)(hb:look m t=some (.bool b))(a:b=!want)(c:JS P ops Q l N ((d,undef)::m) E)(hd:Jx N (some d)=true:=by rfl):JS P ops Q (⟨some d,o,ty,pos,aft,some (g,want)⟩::l) N m E :=
 QCY hg hb (λh=>by subst h;cases b<;>cases a) (λ_=>c) hd
theorem Q6{d:Nat}{b:Bool}(hg:(ops[g]?).bind (·.dst)=some t)(hb:look m t=some (.bool b))(a:b=!want)(c:JD P ops Q E0 l N ((d,undef)::m) E)(hd:Jx N (some d)=true:=by rfl):JD P ops Q E0 (⟨some d,o,ty,pos,aft,some (g,want)⟩::l) N m E :=
 QHJ hg hb (λh=>by subst h;cases b<;>cases a) (λ_=>c) hd
end
theorem QAb{x y:Code}(b:Sl)(bs':List (Nat×Obj))(G':Gs->Prop)(h1:J P x (Xp λa w=>JH N b a/\St ⟨w0,F0,bs',G'⟩ w) N m ⟨w0,F0,bs,G⟩)(h2:J P y Q N b ⟨w0,F0,bs',G'⟩):J P (.seq x y) Q N m ⟨w0,F0,bs,G⟩:=λa w ha c=>by
 refine wp_seq (wp_mono (h1 a w ha c) ?_);intro e d w' h;cases e with
 |normal=>exact h2 d w' h.1 h.2
 |_=>exact h.elim
theorem Q4{b:Sl}{G':Gs->Prop}(hm:Yb m b:=by repeat' (first | exact trivial | refine⟨rfl,?_⟩))(hb:bs'.Sublist bs:=by first | exact aB _ | (repeat' (first | exact aB _ | exact aR _ | refine ew _ ?_ | refine eN _ ?_)))(hg:∀F,G F->G' F:=by intro F h;first | exact h | exact⟨h,trivial⟩ | (repeat' (first | exact trivial | exact h.2 | exact h.1.2 | exact h.1.1.2 | exact h.1.1.1.2 | exact h.1.1.1.1.2 | exact h.1.1.1.1.1.2 | exact h.1.1.1.1.1.1.2 | exact h.1.1.1.1.1.1.1.2 | exact h.1.1.1.1.1.1.1.1.2 | exact h.1.1.1.1.1.1.1.1.1.2 | exact h.1 | exact h.1.1 | exact h.1.1.1 | exact h.1.1.1.1 | exact h.1.1.1.1.1 | exact h.1.1.1.1.1.1 | exact h.1.1.1.1.1.1.1 | exact h.1.1.1.1.1.1.1.1 | exact h.1.1.1.1.1.1.1.1.1 | refine iB ?_ ?_))):Fin (Xp λa w=>JH N b a/\St ⟨w0,F0,bs',G'⟩ w) .normal N m ⟨w0,F0,bs,G⟩ :=
 λa w ha c=>⟨ha.sub hm,c.imp hb hg⟩
end
theorem Ha{x y:Code}(M:ι->Sl)(B:ι->List (Nat×Obj))(H:ι->Gs->Prop)
  (h1:J P x (Xp λa w=>∃i,JH N (M i) a/\St ⟨w0,F0,B i,H i⟩ w) N m ⟨w0,F0,bs,G⟩) (h2:∀i,J P y Q N (M i) ⟨w0,F0,B i,H i⟩):J P (.seq x y) Q N m ⟨w0,F0,bs,G⟩:=λa w ha b=>by
 refine wp_seq (wp_mono (h1 a w ha b) ?_);intro e c w' h;cases e with
 |normal=>obtain⟨i,h3,h4⟩:=h;exact h2 i c w' h3 h4
 |_=>exact h.elim
theorem Xw{M:ι->Sl}{B:ι->List (Nat×Obj)}{H:ι->Gs->Prop}(i:ι)(hm:Yb m (M i):=by repeat' (first | exact trivial | refine⟨rfl,?_⟩))(hb:(B i).Sublist bs:=by first | exact aB _ | (repeat' (first | exact aB _ | exact aR _ | refine ew _ ?_ | refine eN _ ?_)))(hg:∀F,G F->H i F:=by intro F h;first | exact h | exact⟨h,trivial⟩ | (repeat' (first | exact trivial | exact h.2 | exact h.1.2 | exact h.1.1.2 | exact h.1.1.1.2 | exact h.1.1.1.1.2 | exact h.1.1.1.1.1.2 | exact h.1.1.1.1.1.1.2 | exact h.1.1.1.1.1.1.1.2 | exact h.1.1.1.1.1.1.1.1.2 | exact h.1.1.1.1.1.1.1.1.1.2 | exact h.1 | exact h.1.1 | exact h.1.1.1 | exact h.1.1.1.1 | exact h.1.1.1.1.1 | exact h.1.1.1.1.1.1 | exact h.1.1.1.1.1.1.1 | exact h.1.1.1.1.1.1.1.1 | exact h.1.1.1.1.1.1.1.1.1 | refine iB ?_ ?_))):
  Fin (Xp λa w=>∃i,JH N (M i) a/\St ⟨w0,F0,B i,H i⟩ w) .normal N m ⟨w0,F0,bs,G⟩:=λa w ha b=>⟨i,ha.sub hm,b.imp hb hg⟩
inductive LO:Sl->Sl->Prop
 |refl {m:Sl}:LO m m
 |cons {k:Nat} {v:Value} {l m:Sl} (hk:(look m k).isNone=true) (h:LO l m):LO ((k,v)::l) m
theorem LO.look{l:Sl}(h:LO l m){t:Nat}{u:Value}(hu:YtogkbhegfnklhaaGreatDoor.look m t=some u):YtogkbhegfnklhaaGreatDoor.look l t=some u:=by
 induction h with
 |refl=>exact hu
 |cons hk h ih =>
  rename_i k v l m;have hne:bm k t=false:=by
   cases hb:bm k t with
   |false=>rfl
   |true=>have:k=t:=(by simpa using hb);subst this;rw[hu]at hk;cases hk
  simp only[YtogkbhegfnklhaaGreatDoor.look,hne,cond_false];exact ih hu
section
variable{P:Program}{Q:Exit->Act->World->Prop}{N:Nat}{m l:Sl}{w0:World}{F0:Gs}{bs bs1:List (Nat×Obj)}{G G1:Gs->Prop}{x y:Code}
theorem By(t:Nat)(v:Value)(h1:J P x (Xp λa w=>JH N ((t,v)::m) a/\St ⟨w0,F0,bs,G⟩ w) N m ⟨w0,F0,bs,G⟩)(h2:J P y Q N ((t,v)::m) ⟨w0,F0,bs,G⟩):J P (.seq x y) Q N m ⟨w0,F0,bs,G⟩:=QAb _ _ _ h1 h2
theorem Xn{t:Nat}{v:Value}(he:LO l m)(ht:look l t=some v)(hb:bs.Sublist bs1)(hg:∀F,G1 F->G F):Fin (Xp λa w=>JH N ((t,v)::m) a/\St ⟨w0,F0,bs,G⟩ w) .normal N l ⟨w0,F0,bs1,G1⟩:=λa w ha b =>
 ⟨⟨ha.size,ha.df,λi u hi=>by
  simp only[look]at hi;cases hb:bm t i with
  |true=>rw[hb]at hi;have:t=i:=(by simpa using hb);subst this;exact ha.get _ _ (by rw[ht];simpa using hi)
  |false=>rw[hb]at hi;exact ha.get _ _ (he.look (by simpa using hi))⟩,b.imp hb hg⟩
end
section
variable{P:Program}{N:Nat}{m:Sl}{S:World->Prop}{ty:TypeId}{v:Value}
theorem QT{c:Operand}(hc:ev m c=some (.bool true))(hx:ev m x=some v)(hy:(ev m y).isSome=true):Qt P N m S (.pick c x y) ty v:=by
 obtain⟨u,hu⟩:=Option.isSome_iff_exists.1 hy;exact xe hc hx hu
theorem QS{c:Operand}(hc:ev m c=some (.bool false))(hx:(ev m x).isSome=true)(hy:ev m y=some v):Qt P N m S (.pick c x y) ty v:=by
 obtain⟨u,hu⟩:=Option.isSome_iff_exists.1 hx;exact xe hc hu hy
theorem QBF{T:TypeId}{a:Int}(hx:ev m x=some (.int .i64 a))(hy:ev m y=some (.int .i64 1))(h:0<=a):Qt P N m S (.binOp .and T x y yT) ty (.int .i64 (a%2)):=λs w _ _ _ _ ha _=>by
 have e:IntKind.i64.wrap (((aS 64 a &&& aS 64 1).toNat:Nat):Int)=a%2:=by
  have h1:(aS 64 (1:Int)).toNat=1:=rfl;rw[fZ,h1,Nat.and_one_is_mod,BitVec.toNat_ofInt];have h2:((((a%((2^64:Nat):Int)).toNat%2:Nat)):Int)=a%2:=by
   have h3:(((2^64:Nat):Int))=18446744073709551616:=wj;rw[h3];omega
  rw[h2];exact AW O
 have h1:aS 64 (1:Int)=1#64:=rfl;rw[h1]at e;simp[execOp,ha.ev hx,ha.ev hy,eqGuard,binOp,Op.intBits,bW];exact e
theorem xX{T:TypeId}{k:IntKind}{a:Int}(hx:ev m x=some (.int .i64 a))(hy:ev m y=some (.int k 1)):Qt P N m S (.binOp .shr T x y yT) ty (.int .i64 (a/2)):=λs w _ _ _ _ ha _=>by
 have e:a.fdiv 2=a/2:=Int.fdiv_eq_ediv_of_nonneg a wj;simp[execOp,ha.ev hx,ha.ev hy,eqGuard,binOp,iZ,bW,e]
theorem Wf{T e:TypeId}{q:Option Addr}{c:Nat}(hx:ev m x=some (.slice q n c))(hy:ev m y=some (.slice none 0 0))(b:GZ P T=some e):Qt P N m S (.binOp .eql T x y yT) ty (.bool q.isNone):=λa w _ _ _ _ ha _=>by
 have:=eP (P:=P) w T e q n c 0 0 (Jc b);simp[execOp,ha.ev hx,ha.ev hy,eqGuard,this]
theorem XM{T:TypeId}{parts:Array (Nat×Operand)}{c:List Value}(hp:WK m parts.toList=some ps)(b:Yl P T=some pl)(hz:Ju P T=some z)(hb:Dv pl ps z c):Qt P N m S (.build T parts) ty (.agg c.toArray):=λa w _ _ _ _ ha _=>by
 have h:P.built T ps=some c.toArray:=by
  unfold Yl at b;unfold Ju at hz;unfold Program.built;cases hi:P.info? T with
  |none=>rw[hi]at b;cases b
  |some i =>
   rw[hi]at b hz;cases hu:P.underlying T with
   |none=>rw[hu]at b;cases b
   |some d =>
    rw[hu]at b;cases d with
    |struct g =>
     dsimp only at b hz ⊢;cases f:i.zero with
     |none=>rw[f]at hz;cases hz
     |some k =>
      rw[f]at hz;simp only[eG,aG]at hz;rw[b];have:=hb.fill;rw[<-hz]at this;simpa using this
    |_=>cases b
 have j:(parts.map λ(i,x)=>(i,a.eval x)).toList=ps:=by simpa using ha.parts hp
 have:=run_build (P:=P) w T (parts.map λ(i,x)=>(i,a.eval x)) _ (by rw[j];exact h);simp only[execOp,aq,this,ax,aW]
end
end
def QMb(n:Nat)(l:Sl):Bool:=(l.take n).all λkv=>(look (l.drop n) kv.1).isNone
theorem exd(n:Nat){l m:Sl}(hb:QMb n l=true)(hm:l.drop n=m):LO l m:=by
 subst hm;unfold QMb at hb;have key:∀(a m:Sl),(a.all λkv=>(look m kv.1).isNone)=true->LO (a++m) m:=by
  intro a m
  induction a with
  |nil=>intro _;exact .refl
  |cons x a ih =>
   intro h;rw[List.all_cons,bS]at h;exact .cons h.1 (ih h.2)
 have:=key _ _ hb
 rwa [eM]at this
theorem QO2[Dr]{P:Program}{N:Nat}{m:Sl}{w0:World}{F0:Gs}{fn:Func}{val:Unit->Value}{a:Unit->Gs->Prop}{bs:List (Nat×Obj)}{G:Gs->Prop}{t:Tmp}{v:Value}(b:fn.results=[ResultVar.tmp t].toArray)(h:look m t=some v)(hv:val ()=v)(hg:∀F,G F->a () F):Fin (df:=Hi) (bodyPost P fn (Mf w0 F0 val a)) .ret N m ⟨w0,F0,bs,G⟩ :=
 QO () b (.tmp h .nil) hv hg
def GD.u1{a:Nat×Obj}{r:List (Nat×Obj)}:GD (a::(b,o)::r) b o (λo'=>a::(b,o')::r) (a::r):=.there (.here)
def GD.u2{a:Nat×Obj}{r:List (Nat×Obj)}:GD (a::x1::(b,o)::r) b o (λo'=>a::x1::(b,o')::r) (a::x1::r):=.there (.there (.here))
def GD.u3{c a:Nat×Obj}{r:List (Nat×Obj)}:GD (c::x1::a::(b,o)::r) b o (λo'=>c::x1::a::(b,o')::r) (c::x1::a::r):=.there (.there (.there (.here)))
def GD.u4{d c a:Nat×Obj}{r:List (Nat×Obj)}:GD (d::x1::c::a::(b,o)::r) b o (λo'=>d::x1::c::a::(b,o')::r) (d::x1::c::a::r):=.there (.there (.there (.there (.here))))
def GD.u5{f d c a:Nat×Obj}{r:List (Nat×Obj)}:GD (f::x1::d::c::a::(b,o)::r) b o (λo'=>f::x1::d::c::a::(b,o')::r) (f::x1::d::c::a::r):=.there (.there (.there (.there (.there (.here)))))
def GD.u6{g f d c a:Nat×Obj}{r:List (Nat×Obj)}:GD (g::x1::f::d::c::a::(b,o)::r) b o (λo'=>g::x1::f::d::c::a::(b,o')::r) (g::x1::f::d::c::a::r):=.there (.there (.there (.there (.there (.there (.here))))))
theorem wM{a b:Int}(h:a=b:=by omega):some (bA .i64 a)=some (bA .i64 b):=congrArg (λz:Int=>some (bA .i64 z)) h
def wN{t:Tmp}{v:Value}(h:look m t=some v):Dm P m bs [.tmp t] [v]:=.tmp h .nil
def wO{t b:Tmp}{v a:Value}(h:look m t=some v)(c:look m b=some a):Dm P m bs [.tmp t,.tmp b] [v,a]:=.tmp h (.tmp c .nil)
def wP{u v a b x y:Value}(c:pl=[(0,1),(1,1)])(ha:u.cells=[a].toArray)(hb:v.cells=[b].toArray):Dv pl [(0,u),(1,v)] [x,y] [a,b]:=by subst c;exact .cons (vs:=[a]) I ha rfl .h1 (.cons (vs:=[b]) I hb rfl (.skip .h1) .nil)
def wH[Dr][df:Df]{P:Program}{N:Nat}{m:Sl}{w0:World}{F0:Gs}{bs:List (Nat×Obj)}{G:Gs->Prop}{T T' ty:TypeId}{x:Operand}{b:Nat}{l:List Value}{u0 u1:Value}{fr:Nat×Nat}{f:Obj->List (Nat×Obj)}(h:ev m x=some (.pointer (some ⟨b,0,none⟩)))(ht:Zm P T=some (true,2))(a:Own bs b (.cells (u0::u1::l).toArray T' fr) f):Qt P N m (St ⟨w0,F0,bs,G⟩) (.load T x) ty (.agg [u0,u1].toArray):=QR (vs:=[u0,u1]) h ht a .h2 rfl
def wI[Dr][df:Df]{P:Program}{N:Nat}{m:Sl}{w0:World}{F0:Gs}{bs:List (Nat×Obj)}{G:Gs->Prop}{T T' ty:TypeId}{x:Operand}{b:Nat}{l:List Value}{u0 u1 u2:Value}{fr:Nat×Nat}{f:Obj->List (Nat×Obj)}(h:ev m x=some (.pointer (some ⟨b,0,none⟩)))(ht:Zm P T=some (true,3))(a:Own bs b (.cells (u0::u1::u2::l).toArray T' fr) f):Qt P N m (St ⟨w0,F0,bs,G⟩) (.load T x) ty (.agg [u0,u1,u2].toArray):=QR (vs:=[u0,u1,u2]) h ht a .h3 rfl
def wJ[Dr][df:Df]{P:Program}{N:Nat}{m:Sl}{w0:World}{F0:Gs}{bs:List (Nat×Obj)}{G:Gs->Prop}{T T' ty:TypeId}{x:Operand}{b:Nat}{l:List Value}{u0 u1 u2 u3:Value}{fr:Nat×Nat}{f:Obj->List (Nat×Obj)}(h:ev m x=some (.pointer (some ⟨b,0,none⟩)))(ht:Zm P T=some (true,4))(a:Own bs b (.cells (u0::u1::u2::u3::l).toArray T' fr) f):Qt P N m (St ⟨w0,F0,bs,G⟩) (.load T x) ty (.agg [u0,u1,u2,u3].toArray):=QR (vs:=[u0,u1,u2,u3]) h ht a .h4 rfl
def wK[Dr][df:Df]{P:Program}{N:Nat}{m:Sl}{w0:World}{F0:Gs}{bs:List (Nat×Obj)}{G:Gs->Prop}{T T' ty:TypeId}{x:Operand}{b:Nat}{l:List Value}{u0 u1 u2 u3 u4 u5 u6 a:Value}{fr:Nat×Nat}{f:Obj->List (Nat×Obj)}(h:ev m x=some (.pointer (some ⟨b,0,none⟩)))(ht:Zm P T=some (true,8))(c:Own bs b (.cells (u0::u1::u2::u3::u4::u5::u6::a::l).toArray T' fr) f):Qt P N m (St ⟨w0,F0,bs,G⟩) (.load T x) ty (.agg [u0,u1,u2,u3,u4,u5,u6,a].toArray):=QR (vs:=[u0,u1,u2,u3,u4,u5,u6,a]) h ht c .h8 rfl
def wL[Dr][df:Df]{P:Program}{N:Nat}{m:Sl}{w0:World}{F0:Gs}{bs:List (Nat×Obj)}{G:Gs->Prop}{T T' ty:TypeId}{x:Operand}{b:Nat}{l:List Value}{a0 d c a3 u0 u1 u2 u3:Value}{fr:Nat×Nat}{f:Obj->List (Nat×Obj)}(h:ev m x=some (.pointer (some ⟨b,4,none⟩)))(ht:Zm P T=some (true,4))(a:Own bs b (.cells (a0::d::c::a3::u0::u1::u2::u3::l).toArray T' fr) f):Qt P N m (St ⟨w0,F0,bs,G⟩) (.load T x) ty (.agg [u0,u1,u2,u3].toArray):=QR (vs:=[u0,u1,u2,u3]) h ht a (.skip (.skip (.skip (.skip .h4)))) I

section
open Go Go.RowKit
section
variable[Dr][df:Df]
inductive AFr where
 |th (y:Code) | bl (id:Nat)
inductive AG where
 |j (c:Code) | s (ops:Array Oper) (l:List Oper) | f (e:Exit)
variable{P:Program}{Q:Exit->Act->World->Prop}{N:Nat}{m m':Sl}{E:Env}
@[reducible] def wC (P:Program) (Q:Exit->Act->World->Prop):List AFr->Exit->Act->World->Prop
 |[]=>Q
 |.th y::r=>Exit.then (y.wp P (wC P Q r)) (wC P Q r)
 |.bl a::r=>bF a (wC P Q r)
@[reducible] def wD (P:Program) (Q:Exit->Act->World->Prop) (N:Nat) (E:Env):AG->List AFr->Sl->Prop
 |.j c,st,m=>J P c (wC P Q st) N m E
 |.s a l,st,m=>JS P a (wC P Q st) l N m E
 |.f e,st,m=>Fin (wC P Q st) e N m E
def wE(m:Sl):Op->Option Value
 |.move x=>ev m x
 |.assign x=>ev m x
 |.binOp op _ x y _=>(ev m x).bind λvx=>(ev m y).bind λa=>Od op vx a
 |.pick c x y=>match ev m c with
  |some (.bool true)=>if(ev m y).isSome then ev m x else none
  |some (.bool false)=>if(ev m x).isSome then ev m y else none
  |_=>none
 |.extract x i=>match ev m x with
  |some (.tuple vs)=>vs[i]?
  |_=>none
 |_=>none
def wF(N:Nat):AG->List AFr->Sl->Option (AG×List AFr×Sl)
 |.j (.seq x y),st,m=>some (.j x,.th y::st,m)
 |.j (.region _ ⟨l⟩ false),st,m=>some (.s l.toArray l,st,m)
 |.j (.block k c),st,m=>some (.j c,.bl k::st,m)
 |.j .skip,st,m=>some (.f .normal,st,m)
 |.j .ret,st,m=>some (.f .ret,st,m)
 |.j (.exit k),st,m=>some (.f (.exit k),st,m)
 |.f .normal,.th y::st,m=>some (.j y,st,m)
 |.f .normal,.bl _::st,m=>some (.f .normal,st,m)
 |.f (.exit i),.th _::st,m=>some (.f (.exit i),st,m)
 |.f (.exit i),.bl k::st,m=>match bm i k with
  |true=>some (.f .normal,st,m)
  |false=>some (.f (.exit i),st,m)
 |.f .ret,_::st,m=>some (.f .ret,st,m)
 |.s _ [],st,m=>some (.f .normal,st,m)
 |.s a (⟨some d,o,_,_,_,none⟩::l),st,m=>match wE m o,Jx N (some d)with
  |some v,true=>some (.s a l,st,(d,v)::m)
  |_,_=>none
 |.s a (⟨d,o,ty,pos,aft,some (g,h)⟩::l),st,m=>match ((a[g]?).bind (·.dst)).bind (look m),Jx N d with
  |some (.bool b),true=>match Bool.xor b h with
   |false=>some (.s a (⟨d,o,ty,pos,aft,none⟩::l),st,m)
   |true=>some (.s a l,st,upd m d undef)
  |_,_=>none
 |_,_,_=>none
def wG(N:Nat):Nat->AG->List AFr->Sl->Option (AG×List AFr×Sl)
 |0,g,st,m=>some (g,st,m)
 |n+1,g,st,m=>match wF N g st m with
  |some (c,a,b)=>wG N n c a b
  |none=>none
theorem QMh{S:World->Prop}{o:Op}{v:Value}(h:wE m o=some v):Qt P N m S o ty v:=by
 unfold wE at h;split at h
 ·exact QC h
 ·exact QF h
 ·obtain⟨vx,h1,h2⟩:=Option.bind_eq_some_iff.1 h;obtain⟨vy,h3,h4⟩:=Option.bind_eq_some_iff.1 h2;exact QM h1 h3 h4
 ·split at h
  ·rename_i hc;split at h
   ·rename_i hy;exact QT hc h hy
   cases h
  ·rename_i hc;split at h
   ·rename_i hy;exact QS hc hy h
   cases h
  cases h
 ·split at h
  ·rename_i hx;exact Qi hx h
  cases h
 cases h
theorem QK8{g g':AG}{st st':List AFr}(h:wF N g st m=some (g',st',m'))(k:wD P Q N E g' st' m'):wD P Q N E g st m:=by
 unfold wF at h;split at h
 ·cases h;exact QG k
 ·cases h;exact QB k
 ·cases h;exact QQ k
 ·cases h;exact QN k
 ·cases h;exact QW k
 ·cases h;exact Kc k
 ·cases h;exact QD k
 ·cases h;exact Qf k
 ·cases h;exact XI k
 ·split at h
  ·rename_i he;cases h;have he:=Nat.eq_of_beq_eq_true he;subst he;exact XJ k
  rename_i he;cases h;exact XA he k
 ·rename_i fr _;cases h;cases fr with
  |th y=>exact Pv k
  |bl id=>exact MJ k
 ·cases h;exact QE k
 ·split at h
  ·rename_i hv hd;cases h;exact QA (QMh hv) k hd
  cases h
 ·split at h
  ·rename_i hb hd;obtain⟨t,h1,h2⟩:=Option.bind_eq_some_iff.1 hb;split at h
   ·rename_i hx;cases h;exact QCY h1 h2 (λ_=>k) (λe=>by subst e;simp at hx) hd
   rename_i hx;cases h;exact QCY h1 h2 (λe=>by subst e;simp at hx) (λ_=>k) hd
  cases h
 cases h
theorem qI:∀(n:Nat) {g g':AG} {st st':List AFr} {m m':Sl},wG N n g st m=some (g',st',m')->wD P Q N E g' st' m'->wD P Q N E g st m
 |0,g,g',st,st',m,m',h,k=>by cases h;exact k
 |n+1,g,g',st,st',m,m',h,k=>by
  unfold wG at h;split at h
  ·rename_i h1;exact QK8 h1 (qI n h k)
  cases h
variable(n:Nat){g':AG}{st':List AFr}
theorem wA{c:Code}(h:wG N n (.j c) [] m=some (g',st',m'))(k:wD P Q N E g' st' m'):J P c Q N m E:=qI (g:=.j c) (st:=[]) n h k
theorem wB{l:List Oper}(h:wG N n (.s ops l) [] m=some (g',st',m'))(k:wD P Q N E g' st' m'):JS P ops Q l N m E:=qI (g:=.s ops l) (st:=[]) n h k
theorem QOn{c y:Code}(h:wG N n (.j c) [.th y] m=some (g',st',m'))(k:wD P Q N E g' st' m'):J P c (Exit.then (y.wp P Q) Q) N m E:=qI (g:=.j c) (st:=[.th y]) n h k
theorem QOm{l:List Oper}{y:Code}(h:wG N n (.s ops l) [.th y] m=some (g',st',m'))(k:wD P Q N E g' st' m'):JS P ops (Exit.then (y.wp P Q) Q) l N m E:=qI (g:=.s ops l) (st:=[.th y]) n h k
theorem QOo{y:Code}(h:wG N n (.f .normal) [.th y] m=some (g',st',m'))(k:wD P Q N E g' st' m'):Fin (Exit.then (y.wp P Q) Q) .normal N m E:=qI (g:=.f .normal) (st:=[.th y]) n h k
end
end
theorem Qo:Zm prog 3=some (false,1):=wi
theorem MK:Ju prog 3=some [.int .i64 0]:=wi
theorem EV:ZC prog 3=some 8:=wi
theorem k_3:SC prog 3=some .i64:=wi
theorem QEr:(prog.underlying 3).isSome=true:=wi
theorem Vt:Zm prog 4=some (false,1):=wi
theorem QEv:Zm prog 5=some (false,1):=wi
theorem z_5:Ju prog 5=some [.int .u8 0]:=wi
theorem QK4:ZC prog 5=some 1:=wi
theorem QHh:(prog.underlying 5).isSome=true:=wi
theorem Em:Zm prog 9=some (false,1):=wi
theorem z_9:Ju prog 9=some [.string .empty]:=wi
theorem QK3:ZC prog 9=some 16:=wi
theorem J7:WS prog 9=true:=wi
theorem JQ:Zm prog 27=some (false,1):=wi
theorem QEn:Ju prog 27=some [.string .empty]:=wi
theorem QGr:ZC prog 27=some 16:=wi
theorem VI:WS prog 27=true:=wi
theorem Xb:Zm prog 41=some (true,2):=wi
theorem Mh:Ju prog 41=some [.string .empty,.string .empty]:=wi
theorem QDW:ZC prog 41=some 32:=wi
theorem xz:Yl prog 41=some [(0,1),(1,1)]:=wi
theorem Vu:Yt prog 41 0=some (0,27):=wi
theorem WM:Yt prog 41 1=some (1,27):=wi
theorem WR:Zm prog 34=some (false,1):=wi
theorem Fj:Ju prog 34=some [.int .i64 0]:=wi
theorem ZF:Zm prog 24=some (false,1):=wi
theorem QEp:Ju prog 24=some [.slice none 0 0]:=wi
theorem QGs:ZC prog 24=some 24:=wi
theorem ZG:GZ prog 24=some 41:=wi
theorem US:Zm prog 45=some (false,1):=wi
theorem QJc:Ju prog 45=some [.slice none 0 0]:=wi
theorem QJW:ZC prog 45=some 24:=wi
theorem D3:GZ prog 45=some 27:=wi
theorem GI:Zm prog 54=some (false,1):=wi
theorem Y1:GZ prog 54=some 110:=wi
theorem YQ:Zm prog 23=some (false,1):=wi
theorem WY:GZ prog 23=some 54:=wi
theorem Qx:Zm prog 100=some (false,1):=wi
theorem Qd:GZ prog 100=some 3:=wi
theorem Z3:Zm prog 110=some (true,2):=wi
theorem uV:Ju prog 110=some [.string .empty,.slice none 0 0]:=wi
theorem Ga:Yt prog 110 0=some (0,27):=wi
theorem Z7:Yt prog 110 1=some (1,100):=wi
theorem GH:Zm prog 83=some (false,1):=wi
theorem VV:GZ prog 83=some 264:=wi
theorem Qj:Zm prog 85=some (true,2):=wi
theorem GR:Ju prog 85=some [.int .i64 0,.slice none 0 0]:=wi
theorem QFT:Yl prog 85=some [(0,1),(1,1)]:=wi
theorem PV:Yt prog 85 0=some (0,3):=wi
theorem EO:Yt prog 85 1=some (1,83):=wi
theorem Qm:Zm prog 87=some (true,4):=wi
theorem Yu:Ju prog 87=some [.int .i64 0,.slice none 0 0,.int .i64 0,.slice none 0 0]:=wi
theorem QJV:ZC prog 87=some 64:=wi
theorem L6:Yl prog 87=some [(0,2),(2,2)]:=wi
theorem KC:Yt prog 87 0=some (0,85):=wi
theorem KB:Yt prog 87 1=some (2,85):=wi
theorem JE:Zm prog 102=some (true,2):=wi
theorem Z2:Ju prog 102=some [.bool false,.slice none 0 0]:=wi
theorem zB:Yl prog 102=some [(0,1),(1,1)]:=wi
theorem Yo:Yt prog 102 0=some (0,4):=wi
theorem XN:Yt prog 102 1=some (1,100):=wi
theorem Gi:Zm prog 120=some (false,1):=wi
theorem LR:Ju prog 120=some [.slice none 0 0]:=wi
theorem kD:ZC prog 120=some 24:=wi
theorem D9:GZ prog 120=some 186:=wi
theorem KN:Zm prog 186=some (true,5):=wi
theorem D2:Ju prog 186=some [.int .i64 0,.slice none 0 0,.int .i64 0,.slice none 0 0,.slice none 0 0]:=wi
theorem QCF:ZC prog 186=some 88:=wi
theorem zA:Yl prog 186=some [(0,4),(4,1)]:=wi
theorem P1:Yt prog 186 0=some (0,87):=wi
theorem P0:Yt prog 186 1=some (4,100):=wi
theorem Gg:Zm prog 64=some (false,1):=wi
theorem Nw:GZ prog 64=some 120:=wi
theorem Mc:Zm prog 72=some (false,1):=wi
theorem QEm:Ju prog 72=some [.slice none 0 0]:=wi
theorem QGq:ZC prog 72=some 24:=wi
theorem Zg:GZ prog 72=some 87:=wi
theorem Yv:GZ prog 158=some 34:=wi
theorem cU:SC prog 239=some .u64:=wi
theorem Nq:Zm prog 264=some (false,1):=wi
theorem QEo:Ju prog 264=some [.int .u64 0]:=wi
theorem Ks:Zm prog 22=some (false,1):=wi
theorem Kt:GZ prog 22=some 9:=wi
theorem D5:Zm prog 290=some (false,1):=wi
theorem Gh:Zm prog 291=some (false,1):=wi
theorem II:GZ prog 291=some 5:=wi
theorem uU:Ju prog 293=some [.pointer none,.slice none 0 0]:=wi
theorem TZ:Yt prog 293 0=some (0,290):=wi
theorem My:Yt prog 293 1=some (1,291):=wi
theorem mixed:prog.follows .mixedOrders=true:=wi
end Go.Proofs.YtogkbhegfnklhaaGreatDoor
namespace Ig
def dv(b:Int):List Int->Int
 |[]=>0
 |x::l=>x+b*dv b l
def DG(b:Int)(l:List Int):Prop:=∀x∈l,0<=x/\x<b
def NZ(l:List Int):Prop:=l.getLast?≠some 0
@[simp] theorem Tg (b:Int):dv b []=0:=rfl
@[simp] theorem Yp (b x:Int) (l:List Int):dv b (x::l)=x+b*dv b l:=rfl
theorem ZP(b:Int)(l m:List Int):dv b (l++m)=dv b l+b^l.length*dv b m:=by
 induction l with
 |nil=>simp
 |cons x l ih=>simp only[List.cons_append,Yp,ih,bD];rw[aA];grind
theorem XO(b x:Int)(l:List Int):dv b (l++[x])=dv b l+b^l.length*x:=by
 rw[ZP];simp
theorem DG.nil(b:Int):DG b []:=by intro x hx;cases hx
theorem DG.cons{b x:Int}{l:List Int}(h0:0<=x)(h1:x<b)(h:DG b l):DG b (x::l):=by
 intro y hy;rcases List.mem_cons.1 hy with rfl | hy
 ·exact⟨h0,h1⟩
 exact h y hy
def DG.head{b x:Int}{l:List Int}(h:DG b (x::l)):0<=x/\x<b:=h x wu
def DG.tail{b x:Int}{l:List Int}(h:DG b (x::l)):DG b l:=λy hy=>h y (by simp[hy])
def DG.append{b:Int}{l m:List Int}(h:DG b l)(k:DG b m):DG b (l++m):=by
 intro x hx;rcases List.mem_append.1 hx with hx | hx
 ·exact h x hx
 exact k x hx
def DG.left{b:Int}{l m:List Int}(h:DG b (l++m)):DG b l:=λx hx=>h x (by simp[hx])
def DG.right{b:Int}{l m:List Int}(h:DG b (l++m)):DG b m:=λx hx=>h x (by simp[hx])
def DG.take{b:Int}{l:List Int}(h:DG b l)(n:Nat):DG b (l.take n):=λx hx=>h x (List.mem_of_mem_take hx)
def DG.drop{b:Int}{l:List Int}(h:DG b l)(n:Nat):DG b (l.drop n):=λx hx=>h x (List.mem_of_mem_drop hx)
def DG.replicate{b:Int}(hb:0<b)(n:Nat):DG b (ai n 0):=by
 intro x hx;have:=List.eq_of_mem_replicate hx;omega
def DG.getD{b:Int}{l:List Int}(hb:0<b)(h:DG b l)(i:Nat):0<=l.getD i 0/\l.getD i 0<b:=by
 by_cases hi:i<l.length
 ·have:l.getD i 0=l[i]:=by simp[eE,hi]
  rw[this];exact h _ (ir hi)
 have:l.getD i 0=0:=by simp[eE,hi]
 omega
def DG.set{b:Int}{l:List Int}(h:DG b l)(i:Nat){x:Int}(h0:0<=x)(h1:x<b):DG b (l.set i x):=by
 intro y hy;rcases List.mem_or_eq_of_mem_set hy with hy | rfl
 ·exact h y hy
 exact⟨h0,h1⟩
def pow_pos{b:Int}(hb:0<b)(n:Nat):0<b^n:=jW hb
def YD{b:Int}(hb:1<=b){m n:Nat}(h:m<=n):b^m<=b^n:=by
 obtain⟨k,rfl⟩:=Nat.exists_eq_add_of_le h;rw[fg];have h1:=pow_pos (b:=b) O m;have h2:=pow_pos (b:=b) O k;have h3:b^m*1<=b^m*b^k:=aa O O;omega
def Qp{b:Int}(hb:0<b):∀ {l:List Int},DG b l->0<=dv b l
 |[],_=>wu
 |x::l,h=>by
  have:=Qp hb h.tail;have:=ak (aw hb) this;have:=h.head;simp;omega
def Zu{b:Int}(hb:0<b):∀ {l:List Int},DG b l->dv b l<b^l.length
 |[],_=>wu
 |x::l,h=>by
  have h1:=Zu hb h.tail;have h2:=h.head;have h3:b*(dv b l+1)<=b*b^l.length:=aa O (aw hb);rw[bD,aA,aV (b^l.length) b];rw[fh]at h3;simp;omega
def Pa(b:Int)(n:Nat):dv b (ai n 0)=0:=by
 induction n with
 |zero=>rfl
 |succ n ih=>simp[eQ,ih]
def KX(b:Int)(l:List Int)(n:Nat)(h:n<=l.length):dv b l=dv b (l.take n)+b^n*dv b (l.drop n):=by
 have:=ZP b (l.take n) (l.drop n);rw[eM,ao,aY h]at this;exact this
theorem WW{α:Type}(l:List α)(n:Nat)(h:n<l.length):l.take (n+1)=l.take n++[l[n]]:=by
 rw[List.take_succ_eq_append_getElem h]
theorem W7(b:Int)(l:List Int)(n:Nat)(h:n<l.length):dv b (l.take (n+1))=dv b (l.take n)+b^n*l[n]:=by
 rw[WW l n h,XO,ao,aY O]
def De{b:Int}(hb:0<b){l:List Int}(h:DG b l)(c:NZ l)(a:l≠[]):b^(l.length-1)<=dv b l:=by
 obtain⟨m,x,rfl⟩:∃m x,l=m++[x]:=⟨l.dropLast,l.getLast a,(fe a).symm⟩;rw[XO];have h1:x≠0:=by intro e;subst e;exact c wu
 have h2:=h x wu;have h3:=Qp hb h.left;have h4:=pow_pos hb m.length;have h5:b^m.length*1<=b^m.length*x:=aa O O;simp;omega
def Q3(l:List Int):List Int:=(l.reverse.dropWhile (·==0)).reverse
def YG(l:List Int):Q3 (l++[0])=Q3 l:=by simp[Q3]
def Wu(l:List Int){x:Int}(h:x≠0):Q3 (l++[x])=l++[x]:=by simp[Q3,h]
def Ra:Q3 []=[]:=rfl
def IH(l:List Int):l=[]\/∃m x,l=m++[x]:=by
 by_cases a:l=[]
 ·exact .inl a
 exact .inr ⟨l.dropLast,l.getLast a,(fe a).symm⟩
def Uc{P:List Int->Prop}(h0:P [])(h1:∀l x,P l->P (l++[x]))(l:List Int):P l:=by
 have:∀m:List Int,P m.reverse:=by
  intro m;induction m with
  |nil=>exact h0
  |cons x m ih=>rw[List.reverse_cons];exact h1 _ _ ih
 simpa using this l.reverse
def Nt(l:List Int):∃n,l=Q3 l++ai n 0:=by
 induction l using Uc with
 |h0=>exact⟨0,rfl⟩
 |h1 l x ih =>
  by_cases hx:x=0
  ·subst hx;obtain⟨n,a⟩:=ih;refine⟨n+1,?_⟩;rw[YG,fS,<-bN,<-a]
  exact⟨0,by rw[Wu l hx];simp⟩
def BS(l:List Int):Q3 l=l.take (Q3 l).length:=by
 obtain⟨n,a⟩:=Nt l;have:l.take (Q3 l).length=(Q3 l++ai n 0).take (Q3 l).length:=by rw[<-a]
 rw[this];simp
def Xc(l:List Int):(Q3 l).length<=l.length:=by
 obtain⟨n,a⟩:=Nt l;have:=congrArg List.length a;simp at this;omega
def XB(b:Int)(l:List Int):dv b (Q3 l)=dv b l:=by
 obtain⟨n,a⟩:=Nt l;have:dv b l=dv b (Q3 l++ai n 0):=by rw[<-a]
 rw[this,ZP,Pa];simp
def Xa(l:List Int):NZ (Q3 l):=by
 induction l using Uc with
 |h0=>simp[Ra,NZ]
 |h1 l x ih =>
  by_cases hx:x=0
  ·subst hx;rw[YG];exact ih
  rw[Wu l hx];simp[NZ,hx]
def DG.Q3{b:Int}{l:List Int}(h:DG b l):DG b (Q3 l):=by rw[BS];exact h.take _
def Pb{b:Int}(hb:0<b):∀ {l m:List Int},DG b l->DG b m->l.length=m.length->dv b l=dv b m->l=m
 |[],[],_,_,_,_=>rfl
 |x::l,y::m,h,k,a,e=>by
  have h1:=h.head;have h2:=k.head;simp only[Yp]at e;have d:x=y:=by
   have g:(x+b*dv b l)%b=x:=by rw[fD];exact bO h1.1 h1.2
   have f:(y+b*dv b m)%b=y:=by rw[fD];exact bO h2.1 h2.2
   rw[<-g,<-f,e]
  subst d;have c:b*dv b l=b*dv b m:=O;have e3:=fF O c;rw[Pb hb h.tail k.tail (by simpa using a) e3]
def XX{b:Int}(hb:1<b){l m:List Int}(h:DG b l)(k:DG b m)(a:NZ m)(c:l.length<m.length):dv b l<dv b m:=by
 have h1:=Zu O h;have h2:=De O k a (by intro e;subst e;simp at c);have h3:b^l.length<=b^(m.length-1):=YD O O;omega
def yo{b:Int}(hb:1<b){l m:List Int}(h:DG b l)(k:DG b m)(c:NZ l)(a:NZ m)(e:dv b l=dv b m):l=m:=by
 refine Pb O h k ?_ e;rcases eX l.length m.length with g | g | g
 ·have:=XX hb h k a g;omega
 ·exact g
 have:=XX hb k h c g;omega
def KD{b:Int}(hb:1<b){l:List Int}(h:DG b l)(a:NZ l):dv b l=0↔l=[]:=by
 constructor
 ·intro e;exact yo hb h (DG.nil b) a (by simp[NZ]) (by simpa using e)
 rintro rfl;rfl
def Na(x:Int):Int:=if x<0 then -1 else if x=0 then 0 else 1
def ZS(x y:Int):Int:=if x<y then -1 else if x=y then 0 else 1
def y7(x y:Int):ZS x y=Na (x-y):=by unfold ZS Na;split<;>split<;>(try split)<;>omega
def I0{b:Int}(hb:0<b){l m:List Int}{x y:Int}(h:DG b l)(k:DG b m)(a:l.length=m.length)(c:x<y):
  dv b (l++[x])<dv b (m++[y]):=by
 rw[XO,XO,a];have h1:=Zu hb h;have h2:=Qp hb k;rw[a]at h1;have h3:b^m.length*(x+1)<=b^m.length*y:=aa O (aw (pow_pos hb _));rw[fh]at h3;omega
def Tl{b:Int}(hb:0<b){l m:List Int}(h:DG b l)(k:DG b m)(f:l.length=m.length)(n:Nat)(d:n<l.length)
  (c:l.drop (n+1)=m.drop (n+1)) (a:l[n]<m[n]' O):dv b l<dv b m:=by
 rw[KX b l (n+1) O,KX b m (n+1) O,c,WW l n d,WW m n O];have:=I0 hb (h.take n) (k.take n) wv a;omega
end Ig
namespace Go.Proofs.YtogkbhegfnklhaaGreatDoor
variable{w w' w0:World}{B E N b bytes i j k n off s:Nat}{a:Act}{args c cs l l' news z:List Value}{o:Obj}{ds la u:List Int}{A0 A1 A2 A3 A4 A5 A6 A7 A8 A9 α γ ι:Type}{ops:Array Oper}{Q Q':Exit->Act->World->Prop}{g:Bool}{K:Act->World->Prop}{x y:Operand}{bs bs' bs0:List (Nat×Obj)}{fr:Nat×Nat}{P:Program}{f:Obj->List (Nat×Obj)}{T' ty yT:TypeId}{fn:Func}{pos:String}{aft:Array Edge}{x1:Nat×Obj}{v1 v3 v4 v5 x2 x3 x4 x5 x6 x7 x8:Value}{ps:List (Nat×Value)}{k':IntKind}{ob:List _}{pl:List (Nat×Nat)}{h:Int}{F F0:Gs}{G:Gs->Prop}{m:Sl}
open Go.RowKit Ig
def W:Int:=18446744073709551616
theorem GC:W=18446744073709551616:=rfl
def Jj:0<W:=wj
def MZ:1<W:=wj
def Yg(w:World)(s:Int)(q:Option Addr)(n cap:Nat)(z:Int):Prop :=
 (q=none/\n=0/\cap=0/\s=z/\-9223372036854775808<=z/\z<=9223372036854775807) \/
 ∃(b off:Nat) (l:List Int),q=some ⟨b,off,none⟩/\n=l.length/\l.length<=cap/\(cap:Int)<=9223372036854775807/\Cells w q JR l /\
  DG W l/\NZ l/\l≠[]/\(s=1\/s = -1)/\z=s*dv W l/\9223372036854775808<=dv W l
def XL(w:World)(v:Value)(z:Int):Prop:=∃s q n cap,v = .agg #[.int .i64 s,.slice q n cap]/\Yg w s q n cap z
theorem Yg.ext(h:Ext w w'){s:Int}{q:Option Addr}{n cap:Nat}{z:Int}(hv:Yg w s q n cap z):Yg w' s q n cap z:=by
 rcases hv with hv | ⟨b,off,l,h1,h2,h3,h4,h5,h6⟩
 ·exact .inl hv
 exact .inr ⟨b,off,l,h1,h2,h3,h4,h5.ext h,h6⟩
theorem XL.ext(h:Ext w w'){v:Value}{z:Int}(hv:XL w v z):XL w' v z:=by
 obtain⟨s,q,n,cap,rfl,hp⟩:=hv;exact⟨s,q,n,cap,rfl,hp.ext h⟩
def XL.small(w:World){z:Int}(h0 : -9223372036854775808<=z)(h1:z<=9223372036854775807):XL w (.agg #[.int .i64 z,.slice none 0 0]) z :=
 ⟨z,none,0,0,rfl,.inl ⟨rfl,rfl,rfl,rfl,h0,h1⟩⟩
def ZI(w:World)(R:Value->World->Prop)(e:Ending)(w':World):Prop:=∃v,e = .returned v/\R v w'/\Ext w w'
def JZ(z:Int):Int:=if z<0 then -z else z
theorem Da{z:Int}(h:z<0):JZ z = -z:=if_pos h
theorem Wl{z:Int}(h:0<=z):JZ z=z:=if_neg O
theorem K3(z:Int):JZ z=z.natAbs:=by grind[JZ]
def sg(neg:Bool)(n:Int):Int:=if neg then -n else n
theorem zi(neg:Bool)(q:Option Addr)(cap:Nat)(w:World):
  Calls prog 218 #[.bool neg,.slice q 0 cap] w λe w'=>ZI w (λv w'=>XL w' v 0) e w':=by
 go_wp2
 exact bodyPost_ret (by simp[results,results218,go_sem]) I ⟨_,rfl,XL.small _ wj wj,(Ext.refl _).alloc _⟩
theorem zh(neg:Bool)(b off cap:Nat)(x:Int)(w:World)(hc:w.cell? ⟨b,off,none⟩=some (.int .u64 x))(h0:0<=x)(h1:x<=9223372036854775807)(hb:b<w.heap.size):
  Calls prog 218 #[.bool neg,.slice (some ⟨b,off,none⟩) 1 cap] w λe w'=>ZI w (λv w'=>XL w' v (sg neg x)) e w':=by
 cases neg
 ·go_wp2
  exact bodyPost_ret (v:=.agg #[.int .i64 x,.slice none 0 0]) (by simp[results,results218,go_sem]) I ⟨_,rfl,XL.small _ O O,(Ext.refl _).alloc _⟩
 go_enter func218,ntmps218
 go_wp2
 exact bodyPost_ret (v:=.agg #[.int .i64 (-x),.slice none 0 0]) (by simp[results,results218,go_sem]) I ⟨_,rfl,XL.small _ O O,(Ext.refl _).alloc _⟩
theorem Cm(neg:Bool)(b off cap:Nat)(x:Int)(w:World)(hc:w.cell? ⟨b,off,none⟩=some (.int .u64 x))(h1:9223372036854775808<=x)(hb:b<w.heap.size):
  Calls prog 218 #[.bool neg,.slice (some ⟨b,off,none⟩) 1 cap] w λe w'=>e = .returned (.agg #[.int .i64 (if neg then -1 else 1),.slice (some ⟨b,off,none⟩) 1 cap])/\Ext w w':=by
 cases neg
 ·go_enter func218,ntmps218
  go_wp2
  exact bodyPost_ret (by simp[results,results218,go_sem]) I ⟨rfl,(Ext.refl _).alloc _⟩
 go_enter func218,ntmps218
 go_wp2
 exact bodyPost_ret (by simp[results,results218,go_sem]) I ⟨rfl,(Ext.refl _).alloc _⟩
theorem Ck(neg:Bool)(q:Option Addr)(n cap:Nat)(w:World)(a:2<=n):
  Calls prog 218 #[.bool neg,.slice q n cap] w λe w'=>e = .returned (.agg #[.int .i64 (if neg then -1 else 1),.slice q n cap])/\Ext w w':=by
 cases neg
 ·go_enter func218,ntmps218
  go_wp2
  exact bodyPost_ret (by simp[results,results218,go_sem]) I ⟨rfl,(Ext.refl _).alloc _⟩
 go_enter func218,ntmps218
 go_wp2
 exact bodyPost_ret (by simp[results,results218,go_sem]) I ⟨rfl,(Ext.refl _).alloc _⟩
theorem Vb(neg:Bool)(v:Value)(l:List Int)(w:World)(d:SL w v JR l)(hd:DG W l)(a:NZ l):
  Calls prog 218 #[.bool neg,v] w λe w'=>ZI w (λv w'=>XL w' v (sg neg (dv W l))) e w':=by
 obtain⟨q,cap,rfl,h2,h3,h4⟩:=d
 match l,hd,a,h2,h4 with
 |[],hd,a,h2,h4=>exact(zi neg q cap w).mono λe w' h=>by cases neg<;>exact h
 |[x],hd,a,h2,h4 =>
  obtain⟨b,off,rfl,hb,hc⟩:=h4 0 wu;have hx:=hd.head;have f:dv W [x]=x:=wu;rw[f];by_cases c:x<=9223372036854775807
  ·exact zh neg b off cap x w hc hx.1 c hb.lt
  refine(Cm neg b off cap x w hc O hb.lt).mono λe w' ⟨h,k⟩=>⟨_,h,⟨_,_,_,_,rfl,.inr ⟨b,off,[x],rfl,rfl,h2,h3,h4.ext k,hd,a,wu,?_,?_,O⟩⟩,k⟩
  all_goals grind[sg]
 |x::y::l,hd,a,h2,h4 =>
  obtain⟨b,off,rfl,hb,hc⟩:=h4 0 wu;refine(Ck neg _ _ cap w wu).mono λe w' ⟨h,k⟩=>⟨_,h,⟨_,_,_,_,rfl,.inr ⟨b,off,x::y::l,rfl,rfl,h2,h3,h4.ext k,hd,a,wu,?_,?_,?_⟩⟩,k⟩
  ·omega
  ·grind[sg]
  have:=De Jj hd a wu;have h6:=YD (b:=W) wj (m:=1) (n:=(x::y::l).length-1) wu;have h7:W^1=18446744073709551616:=wj;omega
theorem CM(s:Int)(b off n cap:Nat)(w:World):
  Calls prog 217 #[.agg #[.int .i64 s,.slice (some ⟨b,off,none⟩) n cap]] w λe w'=>e = .returned (.tuple #[.bool (decide (s<0)),.slice (some ⟨b,off,none⟩) n cap])/\Ext w w':=by
 go_wp2
 go_quiet (fail)
 go_wp2
 go_ret2
 exact⟨rfl,((Ext.refl _).alloc _).drewN _⟩
theorem IX(w:World):
  Calls prog 217 #[.agg #[.int .i64 0,.slice none 0 0]] w λe w'=>e = .returned (.tuple #[.bool false,.slice none 0 0])/\Ext w w':=by
 go_wp2
 go_ret2
 exact⟨rfl,(Ext.refl _).alloc _⟩
theorem Ov(n:Int)(h0 : -9223372036854775808<=n)(h:n<0):IntKind.u64.wrap (wrap64 (-n))=JZ n:=by
 grind[Da,wrap64,iz,ic,bW]
theorem Gn(n:Int)(w:World)(h0 : -9223372036854775808<=n)(h1:n<=9223372036854775807):
  Calls prog 216 #[.int .i64 n] w λe w'=>e = .returned (.int .u64 (JZ n))/\w=w':=by
 by_cases h:n<0
 ·have H:=ae (Ov n h0 h);go_wp2
  go_ret
  exact⟨congrArg (λx=>ij (.int .u64 x)) H.out,rfl⟩
 have H:=ae (Wl (z:=n) O);go_wp2
 go_ret
 exact⟨congrArg (λx=>ij (.int .u64 x)) H.out.symm,rfl⟩
theorem Uw(z:Int)(w:World)(hz:(z==0)=false)(h0 : -9223372036854775808<=z)(h1:z<=9223372036854775807):
  Calls prog 217 #[.agg #[.int .i64 z,.slice none 0 0]] w λe w'=>(∃b,e = .returned (.tuple #[.bool (decide (z<0)),.slice (some ⟨b,0,none⟩) 1 1])/\YL w' b 264 JR [JZ z])/\Ext w w':=by
 have a:=λw=>run_neq_slice_nil_any w 83 264 none 0 0 0 0 underlying83;go_enter func217,ntmps217
 go_wp2
 go_region_held3 (λw'=>w'.cell? ⟨w.heap.size,0,none⟩=some (.int .i64 z)) (go_keep) (first | (go_at_call 216;refine(Gn _ _ h0 h1).mono ?_;rintro e w' ⟨rfl,rfl⟩))
 go_wp2
 go_ret2
 exact⟨⟨_,rfl,(YL.QKF _ _ 264 JR [JZ z] _ I wu).drew⟩,(((Ext.refl _).alloc _).alloc _).drew⟩
theorem YV(v:Value)(z:Int)(w:World)(hv:XL w v z):
  Calls prog 217 #[v] w λe w'=>ZI w (λr w'=>∃p l,r = .tuple #[.bool (decide (z<0)),p]/\SL w' p JR l/\DG W l/\NZ l/\dv W l=JZ z) e w':=by
 obtain⟨s,q,n,cap,rfl,hp⟩:=hv;rcases hp with ⟨rfl,rfl,rfl,rfl,h0,h1⟩ | ⟨b,off,l,rfl,rfl,h3,h4,h5,h6,h7,h8,h9,h10,h11⟩
 ·by_cases hz:s=0
  ·subst hz;exact(IX w).mono λe w' ⟨h,k⟩=>⟨_,h,⟨_,[],rfl,SL.nil _ _,DG.nil _,by simp[NZ],rfl⟩,k⟩
  refine(Uw s w (by simp_all) h0 h1).mono λe w' ⟨⟨b,h,hb⟩,k⟩=>⟨_,h,⟨_,[JZ s],rfl,SL.Gx hb 1 (ay _) wu,?_,?_,wu⟩,k⟩
  all_goals grind[JZ,K3,GC,DG.cons,DG.nil,NZ]
 have hz:decide (s<0)=decide (z<0)/\dv W l=JZ z:=by
  rcases h9 with rfl | rfl
  ·grind[Wl]
  grind[dv,Da]
 refine(CM s b off _ cap w).mono λe w' ⟨h,k⟩=>⟨_,h,⟨_,l,by grind,⟨_,_,rfl,h3,h4,h5.ext k⟩,h6,h7,hz.2⟩,k⟩
theorem PQ{l:List Int}(h:k<l.length):l.getD k default=l[k]:=by simp_all
theorem KO(v:Value)(l:List Int)(w:World)(d:SL w v JR l):
  Calls prog 261 #[v] w λe w'=>(∃v',e = .returned v'/\SL w v' JR (Q3 l))/\w=w':=by
 obtain⟨q,cap,rfl,c,a,hc⟩:=d;have HC:=ae hc;clear hc;go_enter func261,ntmps261
 go_wp2
 go_loop [3] (λn=>∃k:Nat,k<=l.length/\n = .int .i64 k/\Q3 l=Q3 (l.take k)) λn=>(intOf n).toNat
 case atStart=>grind
 case round =>
  obtain⟨k,hk,rfl,he⟩:=hrel;have HE:=ae he;clear he;cases k with
  |zero =>
   go_wp2
   go_ret
   exact⟨⟨_,rfl,by rw[HE.out];exact⟨q,cap,rfl,by simp[Q3],a,λi hi=>by trivial⟩⟩,rfl⟩
  |succ k =>
   obtain⟨b,off,rfl,hb,hc⟩:=HC.out k O;simp only[JR]at hc;have HT:=ae (WW l k O);rw[PQ O]at hc;generalize hx:l[k]=x at hc;have HX:=ae hx;clear hx;by_cases h0:x=0
   ·have h1:(x==0)=true:=by grind
    go_wp2
    go_round
    case rel=>exact⟨k,O,rfl,by rw[HE.out,HT.out,HX.out,h0,YG]⟩
    simp[measure,intOf]
   have h1:(x==0)=false:=by simp[h0]
   go_wp2
   go_ret
   have f:Q3 l=l.take (k+1):=by rw[HE.out,HT.out,HX.out,Wu _ h0,<-HX.out,<-HT.out]
   exact⟨⟨_,rfl,by rw[f];exact⟨_,cap,by rw[ao,aY O];rfl,by rw[ao];omega,a,HC.out.take _⟩⟩,rfl⟩
def sz(z:Int):Nat:=if z=0 then 0 else z.natAbs.log2+1
def H6(z:Int):z.natAbs<2^sz z:=by
 unfold sz;split
 ·simp[*]
 exact Nat.lt_log2_self
theorem J3(z:Int)(k:Nat):sz z<=k↔z.natAbs<2^k:=by
 constructor
 ·intro h;exact aT (H6 z) (Nat.pow_le_pow_right wj h)
 intro h;unfold sz;split
 ·exact eC _
 rename_i hz;have:z.natAbs.log2<k:=(Nat.log2_lt O).2 h;omega
def Y6(a b:Int):sz (a*b)<=sz a+sz b:=by
 rw[J3,Int.natAbs_mul,fc];have h1:=H6 a;have h2:=H6 b
 calc a.natAbs*b.natAbs<=a.natAbs*2^sz b:=Nat.mul_le_mul_left _ (Nat.le_of_lt h2)
  _<2^sz a*2^sz b:=fu h1 (Nat.pow_pos wj)
def IA(a b:Int):sz (a+b)<=max (sz a) (sz b)+1:=by
 rw[J3,Nat.pow_succ];have h1:=(J3 a (max (sz a) (sz b))).1 (Nat.le_max_left _ _);have h2:=(J3 b (max (sz a) (sz b))).1 (Nat.le_max_right _ _);omega
def VR{a b:Int}(h:a.natAbs<=b.natAbs):sz a<=sz b:=by
 rw[J3];exact Nat.lt_of_le_of_lt h (H6 b)
def Kh(a:Int):sz (-a)=sz a:=by unfold sz;simp
def Mk(a:Int):sz (JZ a)=sz a:=by unfold JZ;split<;>simp[Kh]
theorem QBd{l:List Int}(h:DG W l)(b:NZ l):l.length<=sz (dv W l):=by
 by_cases a:l=[]
 ·subst a;simp
 have h1:=De Jj h b a;have h2:=H6 (dv W l);have h0:=Qp Jj h;have h3:(2:Int)^(l.length-1)<=W^(l.length-1):=by
  generalize l.length-1=k
  induction k with
  |zero=>simp
  |succ k ih=>rw[aA,aA];exact fC ih wj wj (aw (pow_pos Jj k))
 have h4:(2:Int)^(l.length-1)<2^sz (dv W l):=by
  have:((dv W l).natAbs:Int)<((2^sz (dv W l):Nat):Int):=O;rw[bI]at this;have e:((dv W l).natAbs:Int)=dv W l:=O;rw[e]at this;have c:((2:Nat):Int)=2:=rfl;rw[c]at this;omega
 have h5:2^(l.length-1)<2^sz (dv W l):=by
  have:((2^(l.length-1):Nat):Int)<((2^sz (dv W l):Nat):Int):=by
   rw[bI,bI];exact h4
  omega
 have:=(Nat.pow_lt_pow_iff_right (by decide:1<2)).1 h5;omega
theorem Ug(v:Value)(z:Int)(w:World)(hv:XL w v z):
  Calls prog 190 #[v] w λe w'=>e = .returned (.int .i64 (Na z))/\Ext w w':=by
 obtain⟨s,q,n,cap,rfl,hp⟩:=hv;have a:Na z=if s<0 then -1 else if s=0 then 0 else 1:=by
  rcases hp with ⟨_,_,_,rfl,_⟩ | ⟨b,off,l,_,_,_,_,_,_,_,_,h,hz,hb⟩
  ·rfl
  unfold Na;rcases h with rfl | rfl
  ·rw[jX]at hz;rw[if_neg O,if_neg O];rfl
  rw[if_pos O];rfl
 have HS:=ae a;clear a hp;rcases eZ s 0 with g | g | g
 all_goals
  go_enter func190,ntmps190
  go_wp2
  go_ret
  exact⟨by rw[HS.out];simp[g]<;>omega,(Ext.refl _).alloc _⟩
def Yg.isNone{s:Int}{q:Option Addr}{cap:Nat}{z:Int}(h:Yg w s q n cap z):
  (q=none/\n=0/\cap=0/\s=z/\-9223372036854775808<=z/\z<=9223372036854775807)\/(∃b off,q=some ⟨b,off,none⟩):=by
 rcases h with h | ⟨b,off,_,h,_⟩
 ·exact .inl h
 exact .inr ⟨b,off,h⟩
abbrev IZ:Array Value:=#[.int .i64 0,.slice none 0 0]
theorem CS(s:Int)(w:World)(h0 : -9223372036854775807<=s)(h1:s<=9223372036854775807):
  Calls prog 186 #[.agg #[.int .i64 s,.slice none 0 0]] w λe w'=>e = .returned (.agg #[.int .i64 (-s),.slice none 0 0])/\Ext w w':=by
 have b:=λw=>eP (P:=prog) w 83 264 none 0 0 0 0 underlying83;have a:(s != -9223372036854775808)=true:=wv;go_enter func186,ntmps186
 go_wp2
 exact bodyPost_ret (v:=.agg #[.int .i64 (-s),.slice none 0 0]) (by simp[results,results186,go_sem]) I ⟨rfl,((Ext.refl _).alloc _).alloc _⟩
theorem Yg.kp(h:Kp w w'){s:Int}{q:Option Addr}{n cap:Nat}{z:Int}(hv:Yg w s q n cap z):Yg w' s q n cap z:=by
 rcases hv with hv | ⟨b,off,l,h1,h2,h3,h4,h5,h6⟩
 ·exact .inl hv
 exact .inr ⟨b,off,l,h1,h2,h3,h4,h5.kp h wj,h6⟩
def U9:¬DT 85:=wj
def Kp.BY{a:World}(h:Kp a w){R T:Nat}(b:Kd w R T)(c:¬DT T)(v0 v1:Value):Kp a ((w.setCell ⟨R,0,none⟩ v0).setCell ⟨R,1,none⟩ v1) :=
 (h.set b c 0 v0).set (b.set _ _ _) c 1 v1
theorem R6(s:Int)(q:Option Addr)(n cap:Nat)(z:Int)(w:World)(hv:Yg w s q n cap z)(k:q.isNone=false\/(s != -9223372036854775808)=false):
  Calls prog 186 #[.agg #[.int .i64 s,.slice q n cap]] w λe w'=>ZI w (λv w'=>XL w' v (-z)) e w':=by
 have E:=λw=>eP (P:=prog) w 83 264 q n cap 0 0 underlying83;have f:Hid (sg (!decide (z<0)) (JZ z) = -z):=by
  show sg (!decide (z<0)) (JZ z) = -z;unfold sg JZ;by_cases h:z<0<;>simp[h]
 have HV:Hid (XL w (.agg #[.int .i64 s,.slice q n cap]) z):=⟨_,_,_,_,rfl,hv⟩;have m:Bx ((w.alloc (.cells #[.int .i64 s,.slice q n cap] 85)).alloc (.cells IZ 85)) (w.heap.size+1) 85 IZ.toList:=by
  have:=Bx.new (w.alloc (.cells #[.int .i64 s,.slice q n cap] 85)) 85 IZ;simpa using this
 have HB:=ae m;clear m hv;cases b:q.isNone
 all_goals
  rw[b]at k;simp only[reduceCtorEq,true_or,false_or]at k;rw[b]at E;clear b;go_enter func186,ntmps186
  go_wp2_with fail
  refine(YV _ z _ (HV.out.ext (((Ext.refl _).alloc _).alloc _))).mono ?_;rintro e K ⟨_,rfl,⟨p,l,rfl,g,hd,j,a⟩,hx⟩;go_wp2_with fail
  refine(Vb _ p l _ g hd j).mono ?_;rw[a,f.out];rintro e H ⟨_,rfl,⟨o,x,y,d,rfl,i⟩,c⟩;have uQ:=(HB.out.ext hx).ext c;obtain⟨F,c1,U,L⟩:=uQ.two;have HB2:=ae uQ;clear a uQ;go_wp2
  refine bodyPost_ret (v:=.agg #[.int .i64 o,.slice x y d]) (by simp[results,results186,go_sem,F,c1]) I ⟨_,rfl,⟨_,_,_,_,rfl,i.kp ((Kp.refl _).BY HB2.out.PM U9 _ _)⟩,?_⟩;exact((((((Ext.refl w).alloc _).alloc _).trans hx).trans c).Xh wu _).Xh wu _
theorem TE(v:Value)(z:Int)(w:World)(hv:XL w v z):
  Calls prog 186 #[v] w λe w'=>ZI w (λv w'=>XL w' v (-z)) e w':=by
 obtain⟨s,q,n,cap,rfl,hp⟩:=hv;rcases hp.isNone with ⟨rfl,rfl,rfl,rfl,h0,h1⟩ | ⟨b,off,rfl⟩
 ·by_cases hm:s = -9223372036854775808
  ·exact R6 _ _ _ _ _ w hp (.inr (by simpa using hm))
  exact(CS s w O h1).mono λe w' ⟨he,hx⟩=>⟨_,he,XL.small _ O O,hx⟩
 exact R6 _ _ _ _ _ w hp (.inl rfl)
end Go.Proofs.YtogkbhegfnklhaaGreatDoor
namespace Ig
def Qg(l:List Int)(k:Nat):Int:=if h:k<l.length then l[k]else 0
theorem ZJ{l:List Int}{k:Nat}(h:k<l.length):Qg l k=l[k]:=dif_pos h
theorem Br{l:List Int}{k:Nat}(h:l.length<=k):Qg l k=0:=dif_neg O
def DG.Qg{b:Int}(hb:0<b){l:List Int}(h:DG b l)(k:Nat):0<=Qg l k/\Qg l k<b:=by
 unfold Ig.Qg;split
 ·exact h _ (ir _)
 omega
def Ve(b:Int)(l:List Int)(k:Nat):dv b (l.take (k+1))=dv b (l.take k)+b^k*Qg l k:=by
 grind[ZJ,W7,Br,ah]
def WD{l:List Int}{p:Nat}(h:p<l.length)(v:Int)(r:Nat):Qg (l.set p v) r=if r=p then v else Qg l r:=by
 unfold Qg
 grind
def G7(b:Int){l:List Int}{p:Nat}(h:p<l.length)(v:Int):dv b (l.set p v)=dv b l+b^p*(v-Qg l p):=by
 have h1:=KX b (l.set p v) (p+1) (by grind);have h2:=KX b l (p+1) O;have c:(l.set p v).drop (p+1)=l.drop (p+1):=by simp[List.drop_set_of_lt]
 have a:(l.set p v).take (p+1)=l.take p++[v]:=by
  grind[WW,List.take_set_of_le]
 rw[h1,h2,c,a,XO,W7 b l p h,ZJ h,ao,aY O]
 grind
theorem XC{l:List Int}{k:Nat}(h:k<l.length):l.drop k=Qg l k::l.drop (k+1):=by rw[ey h,ZJ h]
def AU{D a b f g t:Int}(k:0<D)(i:b<D)(j:0<=g)
  (d:0<=t) (ht:t*a<=f) (c:t<=a) (h:0<=b):(t-1)*(a*D+b)<=f*D+g:=by
 have h1:t*a*D<=f*D:=af ht O;have h2:t*b<=t*D:=aa O d;have h3:t*D<=a*D:=af c O
 grind
def PJ{D c f d g t:Int}(a:0<=f)(h:g<D)(i:0<D)
  (b:0<=t) (ht:d<t*c):d*D+g<t*(c*D+f):=by
 have h1:(d+1)*D<=t*c*D:=af O O;have h2:=ak b a
 grind
theorem ZQ{u v q:Int}(hv:0<v)(h1:q*v<=u)(h2:u<(q+1)*v):u/v=q:=by
 have e:(q+1)*v=q*v+v:=by grind
 have:u=(u-q*v)+q*v:=O;rw[this,Int.add_mul_ediv_right _ _ O,fM O O];omega
theorem Zo{u v q:Int}(h1:q*v<=u)(h2:u<(q+1)*v):u%v=u-q*v:=by
 have e:(q+1)*v=q*v+v:=by grind
 have:u=(u-q*v)+q*v:=O;rw[this,Int.add_mul_emod_self_right,bO O O];omega
section
variable{b:Int}(hb:1<b)
include hb
theorem Zt{l:List Int}{n:Nat}(a:DG b l)(h:l.length=n+3):
  dv b l=((Qg l (n+2)*b+Qg l (n+1))*b+Qg l n)*b^n+dv b (l.take n)/\0<=dv b (l.take n)/\dv b (l.take n)<b^n:=by
 have h1:=Ve b l n;have h2:=Ve b l (n+1);have h3:=Ve b l (n+2);have h4:=Zu O (a.take n);rw[ao,aY O]at h4;refine⟨?_,Qp O (a.take n),h4⟩
 grind
theorem KA{l:List Int}{n:Nat}(a:DG b l)(h:l.length=n+2):
  dv b l=(Qg l (n+1)*b+Qg l n)*b^n+dv b (l.take n)/\0<=dv b (l.take n)/\dv b (l.take n)<b^n:=by
 have h1:=Ve b l n;have h2:=Ve b l (n+1);have h4:=Zu O (a.take n);rw[ao,aY O]at h4;refine⟨?_,Qp O (a.take n),h4⟩
 grind
omit hb
structure Vk(b:Int)(u v:List Int)(n:Nat):Prop where
 hu:DG b u
 hv:DG b v
 lu:u.length=n+3
 lv:v.length=n+2
 nz:0<Qg v (n+1)
 lt:dv b u<b*dv b v
include hb
theorem Vk.top{u v:List Int}{n:Nat}(h:Vk b u v n):Qg u (n+2)<=Qg v (n+1):=by
 obtain⟨i,x,a3⟩:=Zt hb h.hu h.lu;obtain⟨b1,b2,b3⟩:=KA hb h.hv h.lv;have c:=h.lt;have a:0<b:=O;have g:=h.hu.Qg a n;have f:=h.hu.Qg a (n+1);have w:=h.hv.Qg a n;refine Int.not_lt.1 λhc=>?_;have o:(Qg v (n+1)+1)*(b*b*b^n)<=Qg u (n+2)*(b*b*b^n):=af O (ak (ak O O) O);have m:0<=Qg u _*(b*b^n):=ak f.1 (ak O O);have e3:0<=Qg u n*b^n:=ak g.1 O;have d:(Qg v n+1)*b^n<=b*b^n:=af O O;have k:b*((Qg v n+1)*b^n)<=b*(b*b^n):=aa d O;have j:b*(dv b (v.take n)+1)<=b*b^n:=aa O O;rw[i,b1]at c
 grind
end
end Ig
namespace Go.Proofs.YtogkbhegfnklhaaGreatDoor
variable{w w' w0:World}{B E N b bytes i j k n off s:Nat}{a:Act}{args c cs l l' news z:List Value}{o:Obj}{ds la u:List Int}{A0 A1 A2 A3 A4 A5 A6 A7 A8 A9 α γ ι:Type}{ops:Array Oper}{Q Q':Exit->Act->World->Prop}{g:Bool}{K:Act->World->Prop}{x y:Operand}{bs bs' bs0:List (Nat×Obj)}{fr:Nat×Nat}{P:Program}{f:Obj->List (Nat×Obj)}{T' ty yT:TypeId}{fn:Func}{pos:String}{aft:Array Edge}{x1:Nat×Obj}{v1 v3 v4 v5 x2 x3 x4 x5 x6 x7 x8:Value}{ps:List (Nat×Value)}{k':IntKind}{ob:List _}{pl:List (Nat×Nat)}{h:Int}{F F0:Gs}{G:Gs->Prop}{m:Sl}
open Go.RowKit Ig
def XH(x y c:Int):Int:=(x+y+c)%W
def Xi(x y c:Int):Int:=(x+y+c)/W
def Zh(x y c:Int):Int:=(x-y-c)%W
def V4(x y c:Int):Int:=if x<y+c then 1 else 0
theorem GB{x y c:Int}(hx:0<=x/\x<W)(hy:0<=y/\y<W)(hc:0<=c/\c<=1):
  XH x y c+W*Xi x y c=x+y+c/\(0<=XH x y c/\XH x y c<W)/\0<=Xi x y c/\Xi x y c<=1:=by
 grind[XH,Xi,GC]
theorem DE{x y c:Int}(hx:0<=x/\x<W)(hy:0<=y/\y<W)(hc:0<=c/\c<=1):
  Zh x y c-W*V4 x y c=x-y-c/\(0<=Zh x y c/\Zh x y c<W)/\0<=V4 x y c/\V4 x y c<=1:=by
 grind[Zh,V4,GC]
theorem YU(x y c:Int)(hx:0<=x)(hy:0<=y)(hc:0<=c)(a:c<=1)(w:World):
  (callFunc 260 #[.int .u64 x,.int .u64 y,.int .u64 c]).run prog w = .ok (.value (.tuple #[.int .u64 (XH x y c),.int .u64 (Xi x y c)])) w:=by
 rw[run_callFunc_extern (fn:=f260) wu wm wm wi wi,run_add64 x y c hx hy hc a];rfl
def D6:Array Value->Sem Value:=λargs=>do
 let (x,y,b) <-fX "Sub64" args
 pure (fY ((x+eO-y-b)%eO) (if x<y+b then 1 else 0))
theorem Rm(x y b:Nat)(hb:b<=1)(w:World):
  (D6 #[.int .u64 x,.int .u64 y,.int .u64 b]).run prog w =
   .ok (.tuple #[.int .u64 (((x+18446744073709551616-y-b)%18446744073709551616:Nat):Int),.int .u64 ((if x<y+b then 1 else 0:Nat):Int)]) w:=by
 have:b=0\/b=1:=O;rcases this with rfl | rfl<;>rfl
theorem Hf(x y c:Int)(hx:0<=x/\x<W)(hy:0<=y/\y<W)(hc:0<=c/\c<=1)(w:World):
  (callFunc 294 #[.int .u64 x,.int .u64 y,.int .u64 c]).run prog w = .ok (.value (.tuple #[.int .u64 (Zh x y c),.int .u64 (V4 x y c)])) w:=by
 obtain⟨x,rfl⟩:=aj hx.1;obtain⟨y,rfl⟩:=aj hy.1;obtain⟨c,rfl⟩:=aj hc.1;rw[run_callFunc_extern (fn:=f294) wu wm wm wi wi,Rm x y c O]
 grind[Result.andThen,Zh,V4,GC]
theorem Nz(ds:List α)(z x:α)(m:Nat):(ds++ai (m+1) z).set ds.length x=(ds++[x])++ai m z:=by
 grind
theorem EL[Inhabited α](ds:List α)(z:α)(m k:Nat)(hk:k=ds.length):(ds++ai (m+1) z).getD k default=z:=by
 simp_all
def JP{l:List Int}(h:DG W l)(k:Nat):0<=Qg l k/\Qg l k<W:=h.Qg Jj k
theorem J9(l:List Int)(k:Nat):dv W (l.take (k+1))=dv W (l.take k)+W^k*Qg l k:=Ve W l k
def Zk{l:List Int}(h:k<l.length):l.getD k default=Qg l k:=by rw[PQ h,ZJ h]
def Eh(b a:List Int)(k:Nat)(ds:List Int)(c:Int):Prop :=
 ds.length=k/\DG W ds/\(0<=c/\c<=1)/\dv W ds+W^k*c=dv W (b.take k)+dv W (a.take k)
theorem Eh.step{b a:List Int}{c:Int}(h:Eh b a k ds c)(hx:DG W b)(hy:DG W a):
  Eh b a (k+1) (ds++[XH (Qg b k) (Qg a k) c]) (Xi (Qg b k) (Qg a k) c):=by
 obtain⟨h1,h2,h3,h4⟩:=h;obtain⟨f,d,a3⟩:=GB (JP hx k) (JP hy k) h3;refine⟨by grind,h2.append (DG.cons d.1 d.2 (DG.nil _)),a3,?_⟩;rw[XO,h1,J9,J9,aA]
 grind
def Tx(b a:List Int)(k:Nat)(ds:List Int)(c:Int):Prop :=
 ds.length=k/\DG W ds/\(0<=c/\c<=1)/\dv W ds-W^k*c=dv W (b.take k)-dv W (a.take k)
theorem Tx.step{b a:List Int}{c:Int}(h:Tx b a k ds c)(hx:DG W b)(hy:DG W a):
  Tx b a (k+1) (ds++[Zh (Qg b k) (Qg a k) c]) (V4 (Qg b k) (Qg a k) c):=by
 obtain⟨h1,h2,h3,h4⟩:=h;obtain⟨f,d,a3⟩:=DE (JP hx k) (JP hy k) h3;refine⟨by grind,h2.append (DG.cons d.1 d.2 (DG.nil _)),a3,?_⟩;rw[XO,h1,J9,J9,aA]
 grind
theorem dt:(prog.info? 264).map (λi=>(i.zero,i.size,i.bytes))=some (some (.int .u64 0),1,8):=wi
theorem Zx(n:Nat)(f:n<=1000000000000)(w:World):
  (iv 83 (.int .i64 (n:Int)) (.int .i64 (n:Int))).run prog w = .ok (.slice (some ⟨w.heap.size,0,none⟩) n n) (w.alloc (.cells (madeCells #[.int .u64 0] n) 264)):=by
 obtain⟨b,hi,a,d,c⟩:=info_parts dt;have:=run_make w 83 264 b _ underlying83 hi a .i64 .i64 n n O O (by grind) O
 grind[Value.cells]
theorem BK(sw:Bool)(q q':Option Addr)(cap E:Nat)(d h:List Int)(w:World)(hx:DG W d)(hy:DG W h)(hcx:Cells w q JR d)(hcy:Cells w q' JR h)(hlen:d.length<=100000000000)(hle:h.length<=d.length)(hsw:sw=true->h.length<d.length):
  Calls prog 253 (if sw then #[.slice q' h.length E,.slice q d.length cap]else #[.slice q d.length cap,.slice q' h.length E]) w λe w' =>
   ZI w (λv w'=>∃l,SL w' v JR l/\DG W l/\NZ l/\dv W l=dv W d+dv W h) e w':=by
 have HX:=ae hcx;clear hcx;have HY:=ae hcy;clear hcy;have hmk:=λw=>Zx (d.length+1) O w;have ec:((d.length+1:Nat):Int)=(d.length:Int)+1:=O;simp only[ec]at hmk;cases sw
 all_goals
  simp only[Bool.false_eq_true,if_false,if_true,forall_const,false_implies]at hsw ⊢;go_enter func253,ntmps253
  go_wp2
  go_loopw [22,6] (λi c wr=>∃(k:Nat) (ds:List Int) (o:Int),k<=d.length/\i = .int .i64 k/\c = .int .u64 o/\Eh d h k ds o/\YL wr w.heap.size 264 JR (ds++ai (d.length+1-k) 0)/\Ext w wr)
   (λi _ _=>d.length-(intOf i).toNat)
  case atStart=>exact⟨0,[],0,eC _,rfl,rfl,⟨rfl,DG.nil _,wj,wu⟩,YL.made w _ JR 0 _ _ rfl,(Ext.refl _).alloc _⟩
  case round =>
   obtain⟨k,ds,o,hk,rfl,rfl,hI,j,hE⟩:=hrel;have F:=hI.step hx hy;obtain⟨Y,hd2,m,X⟩:=hI;have a:=ae Y;clear Y;have U:=ae X;clear X;by_cases L:k<d.length
   ·obtain⟨b,off,rfl,hb,hc⟩:=HX.out k L;rw[Zk L]at hc;have hc:=hE.cell hc;simp only[JR]at hc;have e1:d.length+1-k=(d.length-k)+1:=O;rw[e1]at j;have f:=j.cell (i:=k) (by simp[a.out]);rw[EL _ _ _ _ a.out.symm]at f;simp only[JR]at f;have hfr:=j.frozen k;have g:=j.set k (XH (Qg d k) (Qg h k) o);rw[<-a.out,Nz,a.out]at g;have HB:=ae j;clear j;have HBs:=ae g;clear g;have HS:=ae F;clear F;have K:=(JP hx k).1;have hy0:=(JP hy k).1;by_cases y:k<h.length
    ·obtain⟨b2,off2,rfl,hb2,x⟩:=HY.out k y;rw[Zk y]at x;have x:=hE.cell x;simp only[JR]at x;have ha:=λw=>YU (Qg d k) (Qg h k) o K hy0 m.1 m.2 w;go_wp2
     go_roundw
     case rel=>exact⟨k+1,_,_,O,by go_num,rfl,HS.out,by rw[show d.length+1-(k+1)=d.length-k from by omega];exact HBs.out,aX hE wu _⟩
     case measure=>simp[intOf];omega
    have H0:=ae (Br (l:=h) (k:=k) O);have ha:=λw=>YU (Qg d k) 0 o K (bV _) m.1 m.2 w;go_wp2
    go_roundw
    case rel=>exact⟨k+1,_,_,O,by go_num,rfl,by have:=HS.out;rw[H0.out]at this;exact this,by rw[show d.length+1-(k+1)=d.length-k from by omega];have:=HBs.out;rw[H0.out]at this;exact this,aX hE wu _⟩
    case measure=>simp[intOf];omega
   have hk':k=d.length:=O;subst hk';have e1:d.length+1-d.length=0+1:=O;rw[e1]at j;have f:=j.cell (i:=d.length) (by simp[a.out]);rw[EL _ _ _ _ a.out.symm]at f;simp only[JR]at f;have hfr:=j.frozen d.length;have g:=j.set d.length o;rw[<-a.out,Nz,a.out]at g;simp only[bY,ff]at g;have H:=SL.Gx g (d.length+1) (by simp[a.out]) (by simp[a.out];omega);have el:(ds++[o]).length=d.length+1:=by simp[a.out]
   rw[ah O,el]at H;have hEs:Ext w _:=aX hE (p:=⟨w.heap.size,d.length,none⟩) wu (JR o);have z:DG W (ds++[o])/\dv W (ds++[o])=dv W d+dv W h:=by
    refine⟨hd2.append (DG.cons m.1 (wg GC) (DG.nil _)),?_⟩;rw[XO,a.out,U.out,ah (ay _),ah hle]
   have HB:=ae j;clear j;have HBs:=ae g;clear g;have HSL:=ae H;clear H;have HF:=ae z;clear z;have HES:=ae hEs;clear hEs;clear el e1 F;go_wp2_with (go_at_call 261;refine(KO _ _ _ HSL.out).mono ?_;rintro e w' ⟨⟨v',rfl,hv⟩,rfl⟩)
   go_ret
   exact⟨_,rfl,⟨_,hv,HF.out.1.Q3,Xa _,by rw[XB,HF.out.2]⟩,HES.out⟩
theorem Tu(v j:Value)(c b:List Int)(w:World)(hx:DG W c)(hy:DG W b)(x:SL w v JR c)(f:SL w j JR b)(h1:c.length<=100000000000)(h2:b.length<=100000000000):
  Calls prog 253 #[v,j] w λe w'=>ZI w (λv w'=>∃l,SL w' v JR l/\DG W l/\NZ l/\dv W l=dv W c+dv W b) e w':=by
 obtain⟨q,cap,rfl,o,m,hc⟩:=x;obtain⟨k,a,rfl,i,g,d⟩:=f;by_cases h:c.length<b.length
 ·have:=BK true k q a cap b c w hy hx d hc h2 O λ_=>h
  grind
 exact BK false q k cap a c b w hx hy hc d h1 O λh=>by cases h
theorem DF(v v':Value)(d f:List Int)(w:World)(hx:DG W d)(hy:DG W f)(hs:SL w v JR d)(hs':SL w v' JR f)(h1:d.length<=100000000000)(hle:f.length<=d.length)(o:dv W f<=dv W d):
  Calls prog 255 #[v,v'] w λe w'=>ZI w (λv w'=>∃l,SL w' v JR l/\DG W l/\NZ l/\dv W l=dv W d-dv W f) e w':=by
 obtain⟨q,cap,rfl,hcap,hmax,hcx⟩:=hs;obtain⟨q',cap',rfl,hcap',hmax',hcy⟩:=hs';have HX:=ae hcx;clear hcx;have HY:=ae hcy;clear hcy;have HLE:=ae o;clear o;have hmk:=λw=>Zx d.length O w;go_enter func255,ntmps255
 go_wp2
 go_loopw [14,6] (λi c wr=>∃(k:Nat) (ds:List Int) (y:Int),k<=d.length/\i = .int .i64 k/\c = .int .u64 y/\Tx d f k ds y/\YL wr w.heap.size 264 JR (ds++ai (d.length-k) 0)/\Ext w wr)
  (λi _ _=>d.length-(intOf i).toNat)
 case atStart=>exact⟨0,[],0,eC _,rfl,rfl,⟨rfl,DG.nil _,wj,wu⟩,YL.made w _ JR 0 _ _ rfl,(Ext.refl _).alloc _⟩
 case round =>
  obtain⟨k,ds,y,hk,rfl,rfl,hI,h,hE⟩:=hrel;have z:=hI.step hx hy;obtain⟨hd1,E,Y,X⟩:=hI;have a:=ae hd1;clear hd1;have U:=ae X;clear X;by_cases L:k<d.length
  ·obtain⟨b,off,rfl,hb,hc⟩:=HX.out k L;rw[Zk L]at hc;have hc:=hE.cell hc;simp only[JR]at hc;have e1:d.length-k=(d.length-(k+1))+1:=O;rw[e1]at h;have g:=h.cell (i:=k) (by simp[a.out]);rw[EL _ _ _ _ a.out.symm]at g;simp only[JR]at g;have hfr:=h.frozen k;have H:=h.set k (Zh (Qg d k) (Qg f k) y);rw[<-a.out,Nz,a.out]at H;have HB:=ae h;clear h;have HBs:=ae H;clear H;have HS:=ae z;clear z;have K:=JP hx k;have hy0:=JP hy k;clear e1;by_cases m:k<f.length
   ·obtain⟨b2,off2,rfl,hb2,j⟩:=HY.out k m;rw[Zk m]at j;have j:=hE.cell j;simp only[JR]at j;have ha:=λw=>Hf (Qg d k) (Qg f k) y K hy0 Y w;go_wp2
    go_roundw
    case rel=>exact⟨k+1,_,_,O,by go_num,rfl,HS.out,HBs.out,aX hE wu _⟩
    case measure=>simp[intOf];omega
   have H0:=ae (Br (l:=f) (k:=k) O);have ha:=λw=>Hf (Qg d k) 0 y K ⟨bV _,Jj⟩ Y w;go_wp2
   go_roundw
   case rel=>exact⟨k+1,_,_,O,by go_num,rfl,by have:=HS.out;rw[H0.out]at this;exact this,by have:=HBs.out;rw[H0.out]at this;exact this,aX hE wu _⟩
   case measure=>simp[intOf];omega
  have hk':k=d.length:=O;subst hk';rw[eW,bY,ff]at h;have F:=SL.Gx h d.length (by simp[a.out]) (by simp[a.out];omega);rw[ah (by simp[a.out]),a.out]at F;have x:dv W ds=dv W d-dv W f:=by
   have h4:=U.out;rw[ah (ay _),ah hle]at h4;have h5:=Zu Jj E;have h6:=Qp Jj E;have h8:=HLE.out;rw[a.out]at h5;have h7:y=0\/y=1:=O;rcases h7 with rfl | rfl<;>omega
  have HB:=ae h;clear h;have HSL:=ae F;clear F;have HF:=ae x;clear x;clear z;go_wp2_with (go_at_call 261;refine(KO _ _ _ HSL.out).mono ?_;rintro e w' ⟨⟨v',rfl,hv⟩,rfl⟩)
  go_ret
  exact⟨_,rfl,⟨_,hv,E.Q3,Xa _,by rw[XB,HF.out]⟩,hE⟩
def WE{x y:Int}(h:x<y):ZS x y = -1:=if_pos h
def Hm{x y:Int}(h:y<x):ZS x y=1:=by unfold ZS;omega
theorem M5(x:Int):ZS x x=0:=by unfold ZS;omega
theorem ZR(v K:Value)(a c:List Int)(w:World)(hx:DG W a)(hy:DG W c)(nx:NZ a)(ny:NZ c)(hs:SL w v JR a)(E:SL w K JR c):
  Calls prog 254 #[v,K] w λe w'=>e = .returned (.int .i64 (ZS (dv W a) (dv W c)))/\Ext w w':=by
 obtain⟨q,cap,rfl,X,U,z⟩:=hs;obtain⟨q',cap',rfl,H,F,o⟩:=E;have HX:=ae z;clear z;have HY:=ae o;clear o;rcases eX a.length c.length with h | h | h
 ·have HL:=ae (WE (XX MZ hx hy ny h));go_enter func254,ntmps254
  go_wp2
  go_ret
  exact⟨by rw[HL.out];rfl,Ext.refl _⟩
 ·go_enter func254,ntmps254
  have hb:((a.length:Int) != (c.length:Int))=false:=by simp[h]
  have HLL:=ae h;clear h;go_wp2
  go_loopw [5] (λi wr=>∃k:Nat,k<=a.length/\i = .int .i64 ((k:Int)-1)/\a.drop k=c.drop k/\Ext w wr) λi _=>(intOf i+1).toNat
  case atStart=>exact⟨a.length,ay _,rfl,by rw[fI (ay _),fI (by grind)],Ext.refl _⟩
  case round =>
   obtain⟨k,hk,rfl,hd,j⟩:=hrel;have HD:=ae hd;clear hd;cases k with
   |zero =>
    have HF:Hid (ZS (dv W a) (dv W c)=0):=by
     have:=HD.out;grind[M5]
    go_wp2
    go_ret
    exact⟨by rw[HF.out];rfl,j⟩
   |succ k =>
    have Y:((k+1:Nat):Int)-1=(k:Int):=O;rw[Y];have f:k<c.length:=wg HLL.out;obtain⟨b,off,rfl,hb1,hc⟩:=HX.out k O;obtain⟨b2,L,rfl,hb2,d⟩:=HY.out k f;rw[PQ O]at hc d;have hc:=j.cell hc;have d:=j.cell d;simp only[JR]at hc d;have HLT:=ae (Tl Jj hx hy HLL.out k O HD.out);have HGT:=ae (Tl Jj hy hx HLL.out.symm k f HD.out.symm);have HEQ:Hid (a[k]=c[k]->a.drop k=c.drop k):=by
     intro e;rw[ey O,ey f,e,HD.out]
    generalize a[k]=x at *
    generalize c[k]=y at *
    clear Y;rcases eZ x y with g | g | g
    ·have m:(x != y)=true:=wv;have HL:=ae (WE (HLT.out g));go_wp2
     go_quiet (fail)
     go_wp2
     go_quiet (fail)
     go_wp2
     go_ret
     exact⟨by rw[HL.out];rfl,(j.drewN _).drewN _⟩
    ·have m:(x != y)=false:=wv;go_wp2
     go_quiet (fail)
     go_wp2
     go_roundw
     case rel=>exact⟨k,O,by go_num,HEQ.out g,j.drewN _⟩
     case measure=>simp[intOf]
    have m:(x != y)=true:=wv;have HL:=ae (Hm (HGT.out g));go_wp2
    go_quiet (fail)
    go_wp2
    go_quiet (fail)
    go_wp2
    go_ret
    exact⟨by rw[HL.out];rfl,(j.drewN _).drewN _⟩
 have HL:=ae (Hm (XX MZ hy hx nx h));go_enter func254,ntmps254
 go_wp2
 go_ret
 exact⟨by rw[HL.out];rfl,Ext.refl _⟩
end Go.Proofs.YtogkbhegfnklhaaGreatDoor
namespace Go.Proofs
open Go.Shelf
def E2:ar:=⟨λ| 169=>244 | n=>n,λ| 70=>290 | 9=>9 | 0=>0 | 72=>293 | 37=>291 | 127=>317 | 3=>3 | 5=>5 | n=>n,λ| n=>n⟩
theorem dN:iQ prog E2:=by constructor<;>intros<;>first | kernel_rfl | decide
theorem Dw:iu prog E2:=by constructor<;>intros<;>first | kernel_rfl | decide | (constructor<;>intros<;>first | kernel_rfl | decide)
open Go.RowKit in
theorem Builder_String_any(B b:Nat)(l:List UInt8)(w:World)(h:Lib.IsBuilder 293 5 B b (Lib.byteCells l) w)(a:B<=w.heap.size):
  Calls prog 244 #[.pointer (some ⟨b,0,none⟩)] w λe w'=>e = .returned (.string ⟨l.toArray⟩)/\Below B w w':=Any.Builder_String_any dN Dw B b l w h a
def AQ:ar:=⟨λ| 125=>176 | 128=>238 | 129=>239 | n=>n,λ| 46=>239 | 3=>3 | 51=>287 | 53=>264 | 4=>4 | 5=>5 | 9=>9 | n=>n,λ| n=>n⟩
theorem dU:iU prog AQ:=by constructor<;>intros<;>first | kernel_rfl | decide
theorem bits_Len(x:Int)(w:World)(h0:0<=x)(h1:x<=18446744073709551615):
  Calls prog 176 #[.int .u64 x] w λe w'=>e = .returned (.int .i64 (bB x.toNat))/\w'=w:=Any.bits_Len dU x w h0 h1
def AO:ar:=⟨λ| 134=>296 | 129=>239 | n=>n,λ| 53=>264 | 3=>3 | 4=>4 | 46=>239 | 5=>5 | 9=>9 | n=>n,λ| n=>n⟩
theorem dQ:iS prog AO:=by constructor<;>intros<;>first | kernel_rfl | decide
theorem bits_LeadingZeros64(x:Int)(w:World)(h0:0<=x)(h1:x<=18446744073709551615):
  Calls prog 296 #[.int .u64 x] w λe w'=>e = .returned (.int .i64 (64-(bB x.toNat:Int)))/\w'=w:=Any.bits_LeadingZeros64 dQ x w h0 h1
def AS:ar:=⟨λ| 103=>225 | 210=>265 | 206=>249 | n=>n,λ| 9=>9 | 4=>4 | 24=>274 | 3=>3 | n=>n,λ| n=>n⟩
theorem dX:iX prog AS:=by constructor<;>intros<;>first | kernel_rfl | decide
open Go.RowKit in
theorem strings_CutPrefix(s p:ByteArray)(w:World):
  Calls prog 225 #[.string s,.string p] w λe w'=>e = .returned (.tuple #[.string ⟨(iJ s.data.toList p.data.toList).toArray⟩,.bool (ja s.data.toList p.data.toList)])/\w'=w:=Any.strings_CutPrefix dX s p w
def AR:ar:=⟨λ| 122=>178 | 215=>240 | n=>n,λ| 3=>3 | 4=>4 | n=>n,λ| n=>n⟩
theorem dV:iV prog AR:=by constructor<;>intros<;>first | kernel_rfl | decide
open Go.RowKit in
theorem cmp_Compare_int(x y:Int)(w:World):
  Calls prog 178 #[.int .i64 x,.int .i64 y] w λe w'=>e = .returned (.int .i64 (Lib.compareInt x y))/\w'=w:=Any.cmp_Compare_int dV x y w
def AM:ar:=⟨λ| 172=>196 | 244=>251 | 245=>252 | 247=>289 | 279=>290 | 280=>291 | 281=>292 | 282=>293 | 287=>311 | 316=>312 | 171=>242 | 205=>313 | 321=>321 | 322=>322 | 243=>275 | 246=>305 | 283=>314 | 284=>315 | 285=>316 | 286=>317 | 129=>239 | 317=>323 | 318=>324 | 319=>325 | 320=>326 | 337=>328 | 338=>329 | n=>n,λ| 9=>9 | 3=>3 | 75=>252 | 76=>253 | 4=>4 | 5=>5 | 167=>326 | 37=>291 | 0=>0 | 85=>327 | 2=>2 | 168=>329 | 53=>264 | 175=>347 | 46=>239 | 210=>351 | 127=>317 | 145=>362 | 143=>360 | 21=>21 | 171=>353 | 173=>355 | 212=>364 | 51=>287 | 20=>20 | 213=>365 | 232=>367 | 233=>368 | 80=>273 | n=>n,λ| 15=>1 | 16=>2 | 17=>5 | 18=>6 | 19=>7 | n=>n⟩
theorem dM:iP prog AM:=by constructor<;>intros<;>first | kernel_rfl | decide
open Go.RowKit in
theorem strconv_Atoi(s:ByteArray)(n:Int)(a:s.size<=18)(h:Lib.atoi s.data.toList=some n)(w:World):
  Calls prog 196 #[.string s] w λe w'=>e = .returned (.tuple #[.int .i64 n,.nilIface])/\∃t,w'=Lib.bytesWorld w 5 t:=Any.strconv_Atoi dM s n a h w
def AP:ar:=⟨λ| 129=>239 | n=>n,λ| 53=>264 | 3=>3 | 4=>4 | 46=>239 | 5=>5 | 9=>9 | n=>n,λ| n=>n⟩
theorem dT:iT prog AP:=by constructor<;>intros<;>first | kernel_rfl | decide
theorem bits_Len64(x:Int)(w:World)(h0:0<=x)(h1:x<=18446744073709551615):
  Calls prog 239 #[.int .u64 x] w λe w'=>e = .returned (.int .i64 (bB x.toNat))/\w'=w:=Any.bits_Len64 dT x w h0 h1
def AK:ar:=⟨λ| 283=>314 | n=>n,λ| 3=>3 | 9=>9 | 4=>4 | n=>n,λ| n=>n⟩
theorem dK:iN prog AK:=by constructor<;>intros<;>first | kernel_rfl | decide
open Go.Lib in
theorem internal_strconv_small(i:Nat)(h:i<100)(w:World):
  Calls prog 314 #[.int .i64 i] w λe w'=>e = .returned (.string ⟨(Lib.decDigits i).toArray⟩)/\w'=w:=Any.internal_strconv_small dK i h w
def TP:ar:=⟨λ| 284=>315 | 129=>239 | 317=>323 | 318=>324 | n=>n,λ| 53=>264 | 3=>3 | 212=>364 | 0=>0 | 4=>4 | 46=>239 | 5=>5 | 9=>9 | n=>n,λ| 17=>5 | n=>n⟩
theorem zu:iH prog TP:=by constructor<;>intros<;>first | kernel_rfl | decide | (constructor<;>intros<;>first | kernel_rfl | decide)
open Go.Lib in
theorem internal_strconv_numDigits(u:Nat)(h1:1<=u)(h2:u<18446744073709551616)(w:World)(a:Lib.TabIs prog w "internal/strconv.uint64pow10" .u64 jS):
  Calls prog 315 #[.int .u64 u] w λe w'=>e = .returned (.int .i64 (Lib.nDigits u))/\w'=w:=Any.internal_strconv_numDigits zu u h1 h2 w a
def AJ:ar:=⟨λ| 285=>316 | n=>n,λ| 37=>291 | 53=>264 | 3=>3 | 4=>4 | 51=>287 | 9=>9 | 5=>5 | 0=>0 | n=>n,λ| n=>n⟩
theorem dJ:iM prog AJ:=by constructor<;>intros<;>first | kernel_rfl | decide
open Go.RowKit Go.Sort Go.Lib in
theorem internal_strconv_formatBase10(ZH off cap:Nat)(u:Nat)(d:Array UInt8)(w:World)(f:Holds (λ(b:UInt8)=>bA .u8 (b.toNat:Int)) w ZH off d)(hu:u<10^d.size)(a:u<18446744073709551616)(c:d.size<4611686018427387904):
  Calls prog 316 #[.slice (some ⟨ZH,off,none⟩) d.size cap,.int .u64 u] w λe w' =>
   e = .returned (.tuple #[])/\∃(n v':Nat) (dk:Array UInt8),w'=(putRow (λ(b:UInt8)=>bA .u8 (b.toNat:Int)) w ZH off dk).drewN n/\FmtInv d.size u 0 v' dk:=Any.internal_strconv_formatBase10 dJ ZH off cap u d w f hu a c
def TQ:ar:=⟨λ| 171=>242 | 243=>275 | 246=>305 | 283=>314 | 284=>315 | 285=>316 | 286=>317 | 129=>239 | 317=>323 | 318=>324 | 319=>325 | 320=>326 | 337=>328 | 338=>329 | n=>n,λ| 3=>3 | 9=>9 | 2=>2 | 4=>4 | 171=>353 | 0=>0 | 53=>264 | 37=>291 | 5=>5 | 173=>355 | 212=>364 | 51=>287 | 20=>20 | 213=>365 | 46=>239 | 232=>367 | 233=>368 | n=>n,λ| 17=>5 | 18=>6 | 19=>7 | n=>n⟩
theorem zw:iI prog TQ:=by constructor<;>intros<;>first | kernel_rfl | decide | (constructor<;>intros<;>first | kernel_rfl | decide)
open Go.RowKit Go.Sort Go.Lib in
theorem strconv_Itoa(n:Int)(h0 : -9223372036854775808<=n)(h1:n<=9223372036854775807)(w:World)(a:Lib.TabIs prog w "internal/strconv.uint64pow10" .u64 jS):
  Calls prog 242 #[.int .i64 n] w λe w'=>e = .returned (.string ⟨(Lib.itoa n).toArray⟩)/\∃k os,w'=grow (w.drewN k) os:=Any.strconv_Itoa zw n h0 h1 w a
def AN:ar:=⟨λ| 145=>144 | 220=>193 | 219=>248 | 217=>285 | 225=>286 | 224=>287 | 267=>288 | 266=>309 | 314=>310 | n=>n,λ| 9=>9 | 4=>4 | 59=>207 | 3=>3 | 5=>5 | 46=>239 | 146=>345 | 51=>287 | n=>n,λ| 1=>0 | n=>n⟩
theorem dO:iR prog AN:=by constructor<;>intros<;>first | kernel_rfl | decide
open Go.RowKit Go.Lib in
theorem strings_Cut(s a:ByteArray)(m:Int)(w:World)(b:s.size<4294967281)(hm:w.cell? ⟨0,0,none⟩=some (.int .i64 m)):
  Calls prog 144 #[.string s,.string a] w λe w'=>e = .returned (.tuple #[.string ⟨(jT s.data.toList a.data.toList).1.toArray⟩,.string ⟨(jT s.data.toList a.data.toList).2.1.toArray⟩,.bool (jT s.data.toList a.data.toList).2.2])/\∃n,w'=w.drewN n:=Any.strings_Cut dO s a m w b hm
def Ir:ar:=⟨λ| 99=>194 | 206=>249 | n=>n,λ| 9=>9 | 4=>4 | 3=>3 | n=>n,λ| n=>n⟩
theorem QBe:iL prog Ir:=by constructor<;>intros<;>first | kernel_rfl | decide
open Go.RowKit Go.Lib in
theorem strings_HasPrefix(s p:ByteArray)(w:World):
  Calls prog 194 #[.string s,.string p] w λe w'=>e = .returned (.bool (ja s.data.toList p.data.toList))/\w'=w:=Any.strings_HasPrefix QBe s p w
def AT:ar:=⟨λ| 101=>195 | 208=>250 | 206=>249 | n=>n,λ| 9=>9 | 4=>4 | 3=>3 | n=>n,λ| n=>n⟩
theorem dY:iY prog AT:=by constructor<;>intros<;>first | kernel_rfl | decide
open Go.RowKit Go.Lib in
theorem strings_TrimPrefix(s p:ByteArray)(w:World):
  Calls prog 195 #[.string s,.string p] w λe w'=>e = .returned (.string ⟨(iJ s.data.toList p.data.toList).toArray⟩)/\w'=w:=Any.strings_TrimPrefix dY s p w
def AL:ar:=⟨λ| 264=>215 | n=>n,λ| 53=>264 | 46=>239 | n=>n,λ| n=>n⟩
theorem dL:iO prog AL:=by constructor<;>intros<;>first | kernel_rfl | decide
open Go.RowKit Go.Lib in
theorem bits_Mul64(x y:Nat)(hx:x<18446744073709551616)(hy:y<18446744073709551616)(w:World):
  Calls prog 215 #[.int .u64 x,.int .u64 y] w λe w'=>e = .returned (.tuple #[.int .u64 ((x*y/18446744073709551616:Nat):Int),.int .u64 ((x*y%18446744073709551616:Nat):Int)])/\w'=w:=Any.bits_Mul64 dL x y hx hy w
def E3:ar:=⟨λ| 105=>264 | 212=>300 | 99=>194 | 165=>301 | 166=>241 | 170=>302 | 169=>244 | 263=>318 | 264=>215 | 206=>249 | 240=>274 | 241=>319 | 276=>304 | 277=>327 | n=>n,λ| 9=>9 | 3=>3 | 4=>4 | 20=>20 | 0=>0 | 46=>239 | 109=>334 | 5=>5 | 72=>293 | 76=>253 | 51=>287 | 146=>345 | 53=>264 | 148=>265 | 70=>290 | 37=>291 | 75=>252 | 127=>317 | 164=>340 | 80=>273 | n=>n,λ| n=>n⟩
theorem dW:iW prog E3:=by constructor<;>intros<;>first | kernel_rfl | decide | (constructor<;>intros<;>first | kernel_rfl | decide)
theorem Dx:iu prog E3:=by constructor<;>intros<;>first | kernel_rfl | decide | (constructor<;>intros<;>first | kernel_rfl | decide)
open Go.RowKit Go.Lib in
theorem strings_Repeat(s:ByteArray)(c:Nat)(w:World)(hc:c<=9223372036854775807)(a:s.size*c<=140737488355328):
  Calls prog 264 #[.string s,.int .i64 c] w λe w'=>e = .returned (.string ⟨(Lib.repeatL s.data.toList c).toArray⟩)/\Below w.heap.size w w':=Any.strings_Repeat dW Dx s c w hc a
end Go.Proofs
namespace Go.Proofs.YtogkbhegfnklhaaGreatDoor
variable{w w' w0:World}{B E N b bytes i j k n off s:Nat}{a:Act}{args c cs l l' news z:List Value}{o:Obj}{ds la u:List Int}{A0 A1 A2 A3 A4 A5 A6 A7 A8 A9 α γ ι:Type}{ops:Array Oper}{Q Q':Exit->Act->World->Prop}{g:Bool}{K:Act->World->Prop}{x y:Operand}{bs bs' bs0:List (Nat×Obj)}{fr:Nat×Nat}{P:Program}{f:Obj->List (Nat×Obj)}{T' ty yT:TypeId}{fn:Func}{pos:String}{aft:Array Edge}{x1:Nat×Obj}{v1 v3 v4 v5 x2 x3 x4 x5 x6 x7 x8:Value}{ps:List (Nat×Value)}{k':IntKind}{ob:List _}{pl:List (Nat×Nat)}{h:Int}{F F0:Gs}{G:Gs->Prop}{m:Sl}
open Go.RowKit
section
variable{P:Program}{N:Nat}{m:Sl}{S:World->Prop}{ty:TypeId}{T yT:TypeId}{x y:Operand}{a b:Nat}{k:IntKind}
theorem UR(n:Int):IntKind.u64.wrap n=n%18446744073709551616:=rfl
theorem IU(hx:ev m x=some (.int .u64 (a:Int)))(hy:ev m y=some (.int k (b:Int)))(z:Nat)(h:b<=64/\a*2^b%18446744073709551616=z):Qt P N m S (.binOp .shl T x y yT) ty (.int .u64 (z:Int)):=λs w _ _ _ _ ha _=>by
 have h1:min b 64=b:=O;have h2:¬((b:Int)<0):=O;have h3:IntKind.u64.wrap ((a:Int)*2^b)=(z:Int):=by
  rw[UR,<-h.2,e9,bJ,bI];rfl
 simp[execOp,ha.ev hx,ha.ev hy,eqGuard,binOp,iZ,bW,h1,h2,h3]
theorem S6(hx:ev m x=some (.int .u64 (a:Int)))(hy:ev m y=some (.int k (b:Int)))(z:Nat)(h:b<=64/\a/2^b=z):Qt P N m S (.binOp .shr T x y yT) ty (.int .u64 (z:Int)):=λs w _ _ _ _ ha _=>by
 have h1:min b 64=b:=O;have h2:¬((b:Int)<0):=O;have h3:(a:Int)/2^b=(z:Int):=by
  grind
 simp[execOp,ha.ev hx,ha.ev hy,eqGuard,binOp,iZ,bW,h1,h2];exact h3
theorem Gy(n:Nat)(h:n<18446744073709551616):(aS 64 (n:Int)).toNat=n:=by
 simp_all
theorem xt(hx:ev m x=some (.int .u64 (a:Int)))(hy:ev m y=some (.int .u64 ((4294967295:Nat):Int)))(z:Nat)(h:a<18446744073709551616/\a%4294967296=z):Qt P N m S (.binOp .and T x y yT) ty (.int .u64 (z:Int)):=λs w _ _ _ _ ha _=>by
 have e:IntKind.u64.wrap (((aS 64 (a:Int) &&& aS 64 ((4294967295:Nat):Int)).toNat:Nat):Int)=(z:Int):=by
  rw[fZ,Gy a h.1,Gy _ wj,show(4294967295:Nat)=2^32-1 by decide,Nat.and_two_pow_sub_one_eq_mod,UR];omega
 have b:(do eqGuard .and T x y (.int .u64 (a:Int)) (.int .u64 ((4294967295:Nat):Int));binOp .and T (.int .u64 (a:Int)) (.int .u64 ((4294967295:Nat):Int)):Sem Value).run P w = .ok (.int .u64 (z:Int)) w:=by
  rw[<-e];rfl
 simp only[execOp,ha.ev hx,ha.ev hy];simp only[aq]at b ⊢;simp_all
theorem QFO(hx:ev m x=some (.int .u64 (a:Int)))(hy:ev m y=some (.int .u64 (b:Int)))(z:Nat)(h:a<18446744073709551616/\(∃c k,a=c*2^k/\b<2^k)/\b<18446744073709551616/\a+b=z):Qt P N m S (.binOp .or T x y yT) ty (.int .u64 (z:Int)):=λs w _ _ _ _ ha _=>by
 have e:IntKind.u64.wrap (((aS 64 (a:Int) ||| aS 64 (b:Int)).toNat:Nat):Int)=(z:Int):=by
  grind[aF,fq,Nat.or_lt_two_pow,BitVec.toNat_or,Gy,UR]
 have d:(do eqGuard .or T x y (.int .u64 (a:Int)) (.int .u64 (b:Int));binOp .or T (.int .u64 (a:Int)) (.int .u64 (b:Int)):Sem Value).run P w = .ok (.int .u64 (z:Int)) w:=by
  rw[<-e];rfl
 simp only[execOp,ha.ev hx,ha.ev hy];simp only[aq]at d ⊢;simp_all
theorem W2(hx:ev m x=some (.int .u64 (a:Int)))(hy:ev m y=some (.int .u64 (b:Int)))(z:Nat)(h:(a+b)%18446744073709551616=z):Qt P N m S (.binOp .add T x y yT) ty (.int .u64 (z:Int)) :=
 QM hx hy (by show some _=_;rw[UR];grind)
theorem VW(hx:ev m x=some (.int .u64 (a:Int)))(hy:ev m y=some (.int .u64 (b:Int)))(z:Nat)(h:a*b%18446744073709551616=z):Qt P N m S (.binOp .mul T x y yT) ty (.int .u64 (z:Int)) :=
 QM hx hy (by show some _=_;rw[UR,<-bJ];grind)
theorem W1(hx:ev m x=some (.int .u64 (a:Int)))(hy:ev m y=some (.int .u64 (b:Int)))(z:Nat)(h:b<18446744073709551616/\(a+18446744073709551616-b)%18446744073709551616=z):Qt P N m S (.binOp .sub T x y yT) ty (.int .u64 (z:Int)) :=
 QM hx hy (by show some _=_;rw[UR];grind)
theorem IV(hx:ev m x=some (.int .u64 (a:Int)))(hy:ev m y=some (.int .u64 (b:Int)))(z:Nat)(h:0<b/\a<18446744073709551616/\a/b=z):Qt P N m S (.binOp .quo T x y yT) ty (.int .u64 (z:Int)):=by
 have:=L1 (P:=P) (N:=N) (S:=S) (ty:=ty) (T:=T) (yT:=yT) hx hy O;have e:IntKind.u64.wrap ((a:Int).tdiv b)=(z:Int):=by
  have h1:=Nat.div_le_self a b
  grind[fB,fa,UR]
 simp_all
theorem QBB(hx:ev m x=some (.int .u64 (a:Int)))(hy:ev m y=some (.int .u64 (b:Int)))(z:Nat)(h:0<b/\a%b=z):Qt P N m S (.binOp .rem T x y yT) ty (.int .u64 (z:Int)):=by
 have:=KV (P:=P) (N:=N) (S:=S) (ty:=ty) (T:=T) (yT:=yT) hx hy O O
 grind
end
section
variable{D yn1 yn0 u un q r:Nat}
theorem yH(a:D=4294967296)(h:q*yn1+r=u)(hc:q*yn0<=D*r+un):q*(yn1*D+yn0)<=u*D+un:=by
 subst a
 grind
def pA(hy:0<yn1*D+yn0)(a:(u*D+un)/(yn1*D+yn0)<=q)(h:q*(yn1*D+yn0)<=u*D+un):q=(u*D+un)/(yn1*D+yn0) :=
 Nat.le_antisymm ((Nat.le_div_iff_mul_le hy).2 h) a
def EK(b:D=4294967296)(hy:0<yn1*D+yn0)(h:q*yn1+r=u)(a:(u*D+un)/(yn1*D+yn0)<=q)(hc:q*yn0<=D*r+un):q=(u*D+un)/(yn1*D+yn0):=pA hy a (yH b h hc)
theorem Dc(c:D=4294967296)(hy:0<yn1*D+yn0)(h0:yn0<D)(h:q*yn1+r=u)(b:(u*D+un)/(yn1*D+yn0)<=q)(a:q<=D)(hr:D<=r):q=(u*D+un)/(yn1*D+yn0):=by
 refine EK c hy h b ?_;have h1:q*yn0<=D*D:=iE a O
 grind
theorem YY(b:D=4294967296)(hy:0<yn1*D+yn0)(hu:u<yn1*D+yn0)(a:un<D)(h:q*yn1+r=u)(hc:D<=q\/D*r+un<q*yn0):(u*D+un)/(yn1*D+yn0)<q:=by
 rw[bj hy];rcases hc with hc | hc
 ·have h1:D*(yn1*D+yn0)<=q*(yn1*D+yn0):=bU _ hc
  grind
 subst b
 grind
theorem PO(b:D=4294967296)(h1:2147483648<=yn1)(a:un<D):(u*D+un)/(yn1*D+yn0)<=u/yn1:=by
 have h2:0<yn1*D:=by grind
 refine er (Nat.div_le_div_left (Nat.le_add_right _ yn0) h2) ?_;rw[aF yn1,<-Nat.div_div_eq_div_mul]
 grind
theorem E4(a:D=4294967296)(h1:2147483648<=yn1)(h0:yn0<D)(hu:u<yn1*D+yn0):u/yn1<=D+1:=by
 have:u/yn1<D+2:=by
  rw[bj O]
  grind
 omega
end
structure Sd(yn1 yn0 u un:Nat) where
 q:Nat
 r:Nat
 h:q*yn1+r=u
 le:(u*4294967296+un)/(yn1*4294967296+yn0)<=q
 up:q<=4294967297
 lo:r<4294967296
theorem YX{q a r u:Nat}(h:q*a+r=u)(b:1<=q):(q-1)*a+(r+a)=u:=by
 obtain⟨k,rfl⟩:∃k,q=k+1:=⟨q-1,O⟩;rw[aM]at h;rw[Nat.add_sub_cancel];omega
def OK{q a:Nat}(b:q<4294967296)(ha:a<4294967296):q*a<18446744073709551616:=by
 have:q*a<=4294967295*4294967295:=iE O O;omega
def L3{S:World->Prop}{src a:TypeId}{n:Nat}(hx:ev m x=some (.int k' (n:Int)))(b:(P.underlying src).isSome=true)(hk:SC P a=some .u64)(h:n<18446744073709551616):Qt P N m S (.convert src a x) ty (.int .u64 (n:Int)):=by
 have:=Rs (P:=P) (N:=N) (m:=m) (S:=S) (ty:=ty) hx b hk;rw[UR,bO O O]at this;exact this
def QU.same[Dr]{P:Program}{f:FuncId}{args:List Value}{w:World}{F:Gs}{v:Value}(he:Enters P f)(a:Fits F w)(h:Calls P f args.toArray w λe w'=>e = .returned v/\w'=w):QU P f args w F (λ(_:Unit)=>v) (λ_ _=>True) :=
 ⟨he,h.mono λe w' ⟨h1,h2⟩=>⟨(),F,h1,by rw[h2];exact RU.refl _,Gs.le_refl F,λ_ _=>rfl,by rw[h2];exact a,λ_ _=>trivial⟩⟩
theorem OD{y:Nat}(h0:0<y)(h1:y<18446744073709551616):∃s:Nat,(64-(bB y:Int))=s/\s<64/\y*2^s<18446744073709551616/\9223372036854775808<=y*2^s:=by
 obtain⟨g1,b,a⟩:=Lib.bitLenAux_bounds 64 y h1 O;have c:bB y<=64:=Lib.bitLen_le y 64 O h1;change 1<=bB y at g1;change 2^(bB y-1)<=y at b;change y<2^bB y at a;generalize bB y=n at *
 refine⟨64-n,O,O,?_,?_⟩
 ·have e:2^n*2^(64-n)=18446744073709551616:=by rw[<-fc,show n+(64-n)=64 by omega]
  rw[<-e];exact fu a (fj _)
 have e:2^(n-1)*2^(64-n)=9223372036854775808:=by rw[<-fc,show n-1+(64-n)=63 by omega]
 rw[<-e];exact bU _ b
theorem QBZ{y s:Nat}(b:Fits F w)(h1:y<18446744073709551616)(a:(64-(bB y:Int))=s):QU prog 296 [.int .u64 (y:Int)] w F (λ(_:Unit)=>.int .i64 (s:Int)) (λ_ _=>True) :=
 QU.same (enters_of func296 wm rfl) b ((bits_LeadingZeros64 (y:Int) w O O).mono λe w' ⟨h2,h3⟩=>⟨by rw[h2,eY,a],h3⟩)
def Ct{A R1 a u v v1 v0:Nat}(h1:A+R1=u*4294967296+v1)(h2:B+a=R1*4294967296+v0)(h3:v=v1*4294967296+v0):A*4294967296+B+a=u*18446744073709551616+v:=by
 subst h3;omega
def Aa{q a r:Nat}(h:((q*a:Nat):Int)>(r:Int)):1<=q:=by
 rcases ia q with h0 | h0
 ·subst h0;simp at h;omega
 exact h0
def QBw{q:Nat}(h:q<4294967296):q*4294967296%18446744073709551616=q*4294967296:=O
def QBx{q p:Nat}(h:q<4294967296)(k:p<4294967296):(q*4294967296+p)%18446744073709551616=q*4294967296+p:=O
theorem pT{h l y:Nat}(hF:Fits F w)(hh:h<y)(hl:l<18446744073709551616)(hy:y<18446744073709551616):
  QU prog 295 [.int .u64 (h:Int),.int .u64 (l:Int),.int .u64 (y:Int)] w F (λ(_:Unit)=>.tuple #[.int .u64 (((h*18446744073709551616+l)/y:Nat):Int),.int .u64 (((h*18446744073709551616+l)%y:Nat):Int)]) (λ_ _=>True):=by
 obtain⟨s,hs,hs64,hY1,hY2⟩:=OD O hy;obtain⟨Y,E⟩:∃Y,Y=y*2^s:=⟨_,rfl⟩;obtain⟨c,ha1⟩:∃c,c=Y/4294967296:=⟨_,rfl⟩;obtain⟨a0,ha0⟩:∃a0,a0=Y%4294967296:=⟨_,rfl⟩;obtain⟨u,hu⟩:∃u,u=h*2^s+l/2^(64-s):=⟨_,rfl⟩;obtain⟨v,hv⟩:∃v,v=l*2^s%18446744073709551616:=⟨_,rfl⟩;obtain⟨v1,hv1⟩:∃v1,v1=v/4294967296:=⟨_,rfl⟩;obtain⟨v0,hv0⟩:∃v0,v0=v%4294967296:=⟨_,rfl⟩;rw[<-E]at hY1 hY2;have hA1:2147483648<=c:=O;have g:a0<4294967296:=O;have X:v1<4294967296:=O;have hv0l:v0<4294967296:=O;have x:c*4294967296+a0=Y:=O;have e64:2^(64-s)*2^s=18446744073709551616:=by rw[<-fc,show 64-s+s=64 by omega]
 have hp:=fj s;have hlow:l/2^(64-s)<2^s:=by rw[bj (fj _),aF,e64];exact hl
 have hhs:h*2^s+2^s<=Y:=by have:=bU (2^s) hh;rw[Nat.succ_mul]at this;omega
 have huY:u<Y:=O;have hNv:u*18446744073709551616+v=(h*18446744073709551616+l)*2^s:=by
  have h1:l*2^s/18446744073709551616=l/2^(64-s):=by rw[<-e64,fQ _ _ hp]
  have h2:=aZ (l*2^s) 18446744073709551616;rw[h1,<-hv]at h2;rw[hu,aM,aM,hJ];omega
 obtain⟨Q1,j⟩:∃Q1,Q1=(u*4294967296+v1)/(c*4294967296+a0):=⟨_,rfl⟩;obtain⟨R1,hR1⟩:∃R1,R1=(u*4294967296+v1)%(c*4294967296+a0):=⟨_,rfl⟩;have H:0<c*4294967296+a0:=O;have hR1l:R1<Y:=by rw[hR1,<-x];exact eV _ H
 have hD1:Q1*Y+R1=u*4294967296+v1:=by rw[j,hR1,<-x,aF];exact aZ _ _
 have U:Q1<4294967296:=by rw[j,bj H,x];omega
 obtain⟨Q0,m⟩:∃Q0,Q0=(R1*4294967296+v0)/(c*4294967296+a0):=⟨_,rfl⟩;obtain⟨R0,hR0⟩:∃R0,R0=(R1*4294967296+v0)%(c*4294967296+a0):=⟨_,rfl⟩;have L:R0<Y:=by rw[hR0,<-x];exact eV _ H
 have hD0:Q0*Y+R0=R1*4294967296+v0:=by rw[m,hR0,<-x,aF];exact aZ _ _
 have hQ0l:Q0<4294967296:=by rw[m,bj H,x];omega
 have K:(Q1*4294967296+Q0)*Y+R0=(h*18446744073709551616+l)*2^s:=by
  rw[<-hNv,aM,hJ];exact Ct hD1 hD0 O
 have hq:(h*18446744073709551616+l)/y=Q1*4294967296+Q0:=by
  have:=fQ (h*18446744073709551616+l) y hp;rw[<-this,<-K,<-E,aF _ Y,Nat.mul_add_div O,Nat.div_eq_of_lt L,fK]
 have hr:(h*18446744073709551616+l)%y=R0/2^s:=by
  have:=Nat.mul_mod_mul_right (2^s) (h*18446744073709551616+l) y;rw[<-K,<-E,aF _ Y,Nat.mul_add_mod,bT L]at this;rw[this,Nat.mul_div_cancel _ hp]
 refine QU.intro (G:=λ_=>True) func295 rfl wm rfl rfl hF wy<|QNz<|QMv rfl<|wQ rfl<|QG<|wR rfl<|QA (QM rfl rfl rfl)<|QE<|QD ?_
 refine QP I (λhc=>?_) λhc=>?_
 ·exact absurd hc (by simp at hc;omega)
 refine QOn 10 I ?_;refine QP I (λhc=>?_) λhc=>?_
 ·exact absurd hc (by simp at hc;omega)
 refine QOn 9 I ?_;refine QP I (λhc=>?_) λhc=>?_
 ·refine QG<|JO QNG mixed wi<|QK (QC I)<|QK (QC I)<|QK (IV I I (l/y) (⟨O,O,rfl⟩))<|QK (QC I)<|QK (QC I)<|QK (QBB I I (l%y) (⟨O,rfl⟩))<|QK (QF I)<|QK (QF I)<|Qw<|QD<|QW ?_
  exact Xm () I (wO I I) (by have h0:h=0:=(by simp at hc;omega);subst h0;simp) wy
 refine QOn 5 I<|QL I (λ_ _ f k=>QBZ (s:=s) f O hs) λc35=>QA (L3 I QEr cU O)<|QOm 7 I<|QA (IU I I (Y) (⟨O,by rw[<-E];omega⟩))<|QOm 6 I<|QA (S6 (b:=32) rfl rfl (c) (⟨wj,ha1.symm⟩))<|QOm 6 I<|QA (xt I I (a0) (⟨O,ha0.symm⟩))<|QOm 7 I<|QA (IU I I (h*2^s) (⟨O,bT O⟩))<|wB 2 I<|QA (W1 (a:=64) rfl rfl (64-s) (⟨O,O⟩))<|QA (S6 I I (l/2^(64-s)) (⟨O,rfl⟩)) ?_
 refine QA (QFO I I (u) (⟨O,⟨h,s,rfl,hlow⟩,O,hu.symm⟩))<|QOm 7 I<|QA (IU I I (v) (⟨O,hv.symm⟩))<|QOm 6 I<|QA (S6 (b:=32) rfl rfl (v1) (⟨wj,hv1.symm⟩))<|QOm 6 I<|QA (xt I I (v0) (⟨O,hv0.symm⟩))<|QOm 7 I<|QA (IV I I (u/c) (⟨O,O,rfl⟩))<|QOm 8 I<|QA (VW I I (u/c*c) (wg<|ek u c))<|QA (W1 I I (u%c) (by have:=aZ u c;rw[aF]at this;have:=ek u c;omega)) ?_
 refine QOm 3 I ?_;refine Ha (ι:=Unit) (λ_=>[(2,.int .u64 ((Y:Nat):Int)),(8,.int .u64 ((s:Nat):Int)),(9,.int .u64 ((c:Nat):Int)),(10,.int .u64 ((a0:Nat):Int)),(11,.int .u64 ((u:Nat):Int)),(13,.int .u64 ((v1:Nat):Int)),(14,.int .u64 ((v0:Nat):Int)),(15,.int .u64 ((Q1:Nat):Int))]) (λ_=>[]) (λ_ _=>True) ?_ ?_
 ·refine QQ<|Xd (ι:=Sd c a0 u v1) (λi=>[(2,.int .u64 ((Y:Nat):Int)),(8,.int .u64 ((s:Nat):Int)),(9,.int .u64 ((c:Nat):Int)),(10,.int .u64 ((a0:Nat):Int)),(11,.int .u64 ((u:Nat):Int)),(13,.int .u64 ((v1:Nat):Int)),(14,.int .u64 ((v0:Nat):Int)),(15,.int .u64 ((i.q:Nat):Int)),(16,.int .u64 ((i.r:Nat):Int))]) (λ_=>[]) (λ_ _=>True) (λi=>i.q) ⟨u/c,u%c,by rw[aF];exact aZ u c,PO I hA1 X,E4 I hA1 g O,by have:=eV u (show c>0 by omega);omega⟩ wa QNG wy λi=>wA 6 I ?_
  refine QY (t:=69) rfl (λz=>?_) λz=>?_
  ·refine QOm 11 I ?_;refine QP I (λhc=>?_) λhc=>?_
   ·refine QOn 6 I<|QA (W1 (b:=1) rfl rfl (i.q-1) (⟨wj,by have:=i.up;have:=QOW z;omega⟩))<|QOm 7 I<|QA (W2 I I (i.r+c) (wg i.lo))<|QOm 9 I ?_
    refine QP I (λhc=>?_) λhc=>?_
    ·refine Kc ?_
     repeat first|refine XI ?_|refine XA wm ?_
     refine XJ ?_;simp only[decide_eq_true_eq]at *;have d:=YY (un:=v1) (D:=4294967296) rfl O O O i.h (.inl O);exact Xw () ⟨rfl,rfl,rfl,rfl,rfl,rfl,rfl,congrArg (λn:Nat=>some (bA .u64 (n:Int))) ((Dc I O g (YX i.h O) (by rw[<-j];rw[<-j]at d;omega) (wg i.up) O).trans j.symm),trivial⟩ QNG wy
    refine QN<|Qf ?_
    simp only[decide_eq_true_eq,decide_eq_false_iff_not]at *;have d:=YY (un:=v1) (D:=4294967296) rfl O O O i.h (.inl O);exact Qh (⟨i.q-1,i.r+c,YX i.h O,O,wg i.up,O⟩:Sd c a0 u v1) (by show i.q-1<i.q;omega) wa QNG wy
   refine Kc ?_
   repeat first|refine XI ?_|refine XA wm ?_
   refine XJ ?_;cases hc
  refine wB 5 I<|QA (VW I I (i.q*a0) (bT (OK (wg<|QOX z) g)))<|wB 3 I<|QA (VW (a:=4294967296) rfl rfl (4294967296*i.r) (wg i.lo))<|wB 3 I<|QA (W2 I I (4294967296*i.r+v1) (wg i.lo))<|QOm 5 I ?_
  refine QP I (λhc=>?_) λhc=>?_
  ·refine QOn 6 I<|QA (W1 (b:=1) rfl rfl (i.q-1) (⟨wj,by have:=i.up;have:=Aa (QOW hc);omega⟩))<|QOm 7 I<|QA (W2 I I (i.r+c) (wg i.lo))<|QOm 9 I ?_
   refine QP I (λhc=>?_) λhc=>?_
   ·refine Kc ?_
    repeat first|refine XI ?_|refine XA wm ?_
    refine XJ ?_;simp only[decide_eq_true_eq]at *;have d:=YY (un:=v1) (D:=4294967296) rfl O O O i.h (.inr O);exact Xw () ⟨rfl,rfl,rfl,rfl,rfl,rfl,rfl,congrArg (λn:Nat=>some (bA .u64 (n:Int))) ((Dc I O g (YX i.h O) (by rw[<-j];rw[<-j]at d;omega) (wg i.up) O).trans j.symm),trivial⟩ QNG wy
   refine QN<|Qf ?_
   simp only[decide_eq_true_eq,decide_eq_false_iff_not]at *;have d:=YY (un:=v1) (D:=4294967296) rfl O O O i.h (.inr O);exact Qh (⟨i.q-1,i.r+c,YX i.h O,O,wg i.up,O⟩:Sd c a0 u v1) (by show i.q-1<i.q;omega) wa QNG wy
  refine Kc ?_
  repeat first|refine XI ?_|refine XA wm ?_
  refine XJ ?_;simp only[decide_eq_false_iff_not]at *;exact Xw () ⟨rfl,rfl,rfl,rfl,rfl,rfl,rfl,congrArg (λn:Nat=>some (bA .u64 (n:Int))) ((EK I O i.h i.le O).trans j.symm),trivial⟩ QNG wy
 intro i;refine wR I<|QA (VW (b:=4294967296) rfl rfl (u*4294967296%18446744073709551616) (rfl))<|QMu I<|QA (W2 I I ((u*4294967296+v1)%18446744073709551616) O)<|wB 2 I<|QA (VW I I (Q1*Y%18446744073709551616) (rfl))<|QA (W1 I I (R1) (⟨O,by generalize Q1*Y=B at *;omega⟩))<|QOm 7 I<|QA (IV I I (R1/c) (⟨O,O,rfl⟩))<|QOm 8 I<|QA (VW I I (R1/c*c) (wg<|ek R1 c))<|QA (W1 I I (R1%c) (by have:=aZ R1 c;rw[aF]at this;have:=ek R1 c;omega))<|QOm 3 I ?_
 refine Ha (ι:=Unit) (λ_=>[(2,.int .u64 ((Y:Nat):Int)),(8,.int .u64 ((s:Nat):Int)),(14,.int .u64 ((v0:Nat):Int)),(15,.int .u64 ((Q1:Nat):Int)),(17,.int .u64 ((R1:Nat):Int)),(18,.int .u64 ((Q0:Nat):Int))]) (λ_=>[]) (λ_ _=>True) ?_ ?_
 ·refine QQ<|Xd (ι:=Sd c a0 R1 v0) (λi=>[(2,.int .u64 ((Y:Nat):Int)),(8,.int .u64 ((s:Nat):Int)),(9,.int .u64 ((c:Nat):Int)),(10,.int .u64 ((a0:Nat):Int)),(14,.int .u64 ((v0:Nat):Int)),(15,.int .u64 ((Q1:Nat):Int)),(17,.int .u64 ((R1:Nat):Int)),(18,.int .u64 ((i.q:Nat):Int)),(16,.int .u64 ((i.r:Nat):Int))]) (λ_=>[]) (λ_ _=>True) (λi=>i.q) ⟨R1/c,R1%c,by rw[aF];exact aZ R1 c,PO I hA1 hv0l,E4 I hA1 g O,by have:=eV R1 (show c>0 by omega);omega⟩ wa QNG wy λi=>wA 6 I ?_
  refine QY (t:=104) rfl (λo=>?_) λo=>?_
  ·refine QOm 11 I ?_;refine QP I (λhc=>?_) λhc=>?_
   ·refine QOn 6 I<|QA (W1 (b:=1) rfl rfl (i.q-1) (⟨wj,by have:=i.up;have:=QOW o;omega⟩))<|QOm 7 I<|QA (W2 I I (i.r+c) (wg i.lo))<|QOm 9 I ?_
    refine QP I (λhc=>?_) λhc=>?_
    ·refine Kc ?_
     repeat first|refine XI ?_|refine XA wm ?_
     refine XJ ?_;simp only[decide_eq_true_eq]at *;have d:=YY (un:=v0) (D:=4294967296) rfl O O O i.h (.inl O);exact Xw () ⟨rfl,rfl,rfl,rfl,rfl,congrArg (λn:Nat=>some (bA .u64 (n:Int))) ((Dc I O g (YX i.h O) (by rw[<-m];rw[<-m]at d;omega) (wg i.up) O).trans m.symm),trivial⟩ QNG wy
    refine QN<|Qf ?_
    simp only[decide_eq_true_eq,decide_eq_false_iff_not]at *;have d:=YY (un:=v0) (D:=4294967296) rfl O O O i.h (.inl O);exact Qh (⟨i.q-1,i.r+c,YX i.h O,O,wg i.up,O⟩:Sd c a0 R1 v0) (by show i.q-1<i.q;omega) wa QNG wy
   refine Kc ?_
   repeat first|refine XI ?_|refine XA wm ?_
   refine XJ ?_;cases hc
  refine wB 5 I<|QA (VW I I (i.q*a0) (bT (OK (wg<|QOX o) g)))<|wB 3 I<|QA (VW (a:=4294967296) rfl rfl (4294967296*i.r) (wg i.lo))<|wB 3 I<|QA (W2 I I (4294967296*i.r+v0) (wg i.lo))<|QOm 5 I ?_
  refine QP I (λhc=>?_) λhc=>?_
  ·refine QOn 6 I<|QA (W1 (b:=1) rfl rfl (i.q-1) (⟨wj,by have:=i.up;have:=Aa (QOW hc);omega⟩))<|QOm 7 I<|QA (W2 I I (i.r+c) (wg i.lo))<|QOm 9 I ?_
   refine QP I (λhc=>?_) λhc=>?_
   ·refine Kc ?_
    repeat first|refine XI ?_|refine XA wm ?_
    refine XJ ?_;simp only[decide_eq_true_eq]at *;have d:=YY (un:=v0) (D:=4294967296) rfl O O O i.h (.inr O);exact Xw () ⟨rfl,rfl,rfl,rfl,rfl,congrArg (λn:Nat=>some (bA .u64 (n:Int))) ((Dc I O g (YX i.h O) (by rw[<-m];rw[<-m]at d;omega) (wg i.up) O).trans m.symm),trivial⟩ QNG wy
   refine QN<|Qf ?_
   simp only[decide_eq_true_eq,decide_eq_false_iff_not]at *;have d:=YY (un:=v0) (D:=4294967296) rfl O O O i.h (.inr O);exact Qh (⟨i.q-1,i.r+c,YX i.h O,O,wg i.up,O⟩:Sd c a0 R1 v0) (by show i.q-1<i.q;omega) wa QNG wy
  refine Kc ?_
  repeat first|refine XI ?_|refine XA wm ?_
  refine XJ ?_;simp only[decide_eq_false_iff_not]at *;exact Xw () ⟨rfl,rfl,rfl,rfl,rfl,congrArg (λn:Nat=>some (bA .u64 (n:Int))) ((EK I O i.h i.le O).trans m.symm),trivial⟩ QNG wy
 intro i;refine wR I<|QA (VW (b:=4294967296) rfl rfl (Q1*4294967296) (QBw U))<|QMu I<|QA (W2 I I (Q1*4294967296+Q0) (QBx U hQ0l))<|QMu I<|QA (VW (b:=4294967296) rfl rfl (R1*4294967296%18446744073709551616) (rfl))<|QMu I<|QA (W2 I I ((R1*4294967296+v0)%18446744073709551616) O)<|wB 2 I<|QA (VW I I (Q0*Y%18446744073709551616) (rfl))<|QA (W1 I I (R0) (⟨O,by generalize Q0*Y=B at *;omega⟩))<|QMu I<|QA (S6 I I (R0/2^s) (⟨O,rfl⟩))<|QOm 5 I ?_
 exact Xm () I (wO I I) (by rw[hq,hr]) wy
open Go.RowKit Ig
def Xq(x y:Int):Int:=x*y/W
def J4(x y:Int):Int:=x*y%W
theorem YW(x y:Int)(w:World)(hx:0<=x/\x<W)(hy:0<=y/\y<W):
  Calls prog 215 #[.int .u64 x,.int .u64 y] w λe w'=>e = .returned (.tuple #[.int .u64 (Xq x y),.int .u64 (J4 x y)])/\w=w':=by
 obtain⟨a,rfl⟩:=aj hx.1;obtain⟨b,rfl⟩:=aj hy.1;have c:W=18446744073709551616:=rfl;refine(bits_Mul64 a b O O w).mono ?_;rintro e w' ⟨rfl,rfl⟩;refine⟨?_,rfl⟩;unfold Xq J4;rw[c];simp only[fa,e9,bJ];rfl
def I5(h l y:Int):Int:=(h*W+l)/y
def C5(h l y:Int):Int:=(h*W+l)%y
def Hu(w:World):Gs:=λb=>match w.heap[b]? with | some (.cells c T _)=>some (c,T) | _=>none
theorem B0(w:World):Fits (Hu w) w:=by
 refine⟨λb c T h=>?_,λb c fr h=>?_⟩
 ·unfold Hu at h;split at h
  ·rename_i c' T' fr e;cases h;exact⟨fr,e⟩
  cases h
 unfold Hu;rw[h]
theorem SJ(h l y:Int)(w:World)(f:0<=h/\h<y)(d:0<=l/\l<W)(hy:y<W):
  Calls prog 295 #[.int .u64 h,.int .u64 l,.int .u64 y] w λe w'=>e = .returned (.tuple #[.int .u64 (I5 h l y),.int .u64 (C5 h l y)])/\Ext w w':=by
 obtain⟨a,rfl⟩:=aj f.1;obtain⟨b,rfl⟩:=aj d.1;obtain⟨c,rfl⟩:=aj (show 0<=y by omega);have g:W=18446744073709551616:=rfl;refine(pT (B0 w) (h:=a) (l:=b) (y:=c) O O O).2.mono ?_;rintro e w' ⟨_,F',rfl,hx,_⟩;refine⟨?_,hx.toBelow⟩;unfold I5 C5;rw[g];simp only[fa,e9,bJ,Int.natCast_add];rfl
theorem zk(x:Int)(w:World)(hx:0<x/\x<W):
  Calls prog 296 #[.int .u64 x] w λe w'=>(∃s:Nat,e = .returned (.int .i64 s)/\s<64/\x*2^s<W/\9223372036854775808<=x*2^s)/\w=w':=by
 obtain⟨a,rfl⟩:=aj (show 0<=x by omega);have b:W=18446744073709551616:=rfl;obtain⟨s,h1,h2,h3,h4⟩:=OD (y:=a) O O;refine(bits_LeadingZeros64 (a:Int) w O O).mono ?_;rintro e w' ⟨rfl,rfl⟩;refine⟨⟨s,?_,h2,?_,?_⟩,rfl⟩
 ·rw[eY,h1]
 ·rw[b];have:((a*2^s:Nat):Int)<18446744073709551616:=O;simpa[bJ,bI]using this
 have:(9223372036854775808:Int)<=((a*2^s:Nat):Int):=O;simpa[bJ,bI]using this
theorem Mr{x y o c:Int}(hx:0<=x/\x<W)(hy:0<=y/\y<W)(g:0<=o/\o<W)(hc:0<=c/\c<W):
  (0<=Xq x y/\Xq x y<W)/\(0<=J4 x y/\J4 x y<W) /\
  (0<=XH (J4 x y) o 0/\XH (J4 x y) o 0<W) /\
  (0<=Xq x y+Xi (J4 x y) o 0/\Xq x y+Xi (J4 x y) o 0<W) /\
  (0<=XH (XH (J4 x y) o 0) c 0/\XH (XH (J4 x y) o 0) c 0<W) /\
  (0<=Xq x y+Xi (J4 x y) o 0+Xi (XH (J4 x y) o 0) c 0/\Xq x y+Xi (J4 x y) o 0+Xi (XH (J4 x y) o 0) c 0<W) /\
  XH (XH (J4 x y) o 0) c 0+W*(Xq x y+Xi (J4 x y) o 0+Xi (XH (J4 x y) o 0) c 0)=x*y+o+c:=by
 have b:0<=x*y:=ak hx.1 hy.1;have h:x*y<=(W-1)*(W-1):=fC O O hy.1 (by simp only[GC];omega);have i:J4 x y+W*Xq x y=x*y:=by unfold J4 Xq;rw[je];exact aC _ _
 have f:0<=J4 x y:=bK _ wj;have d:J4 x y<W:=bL _ Jj;have h0:0<=Xq x y:=bh b wj;generalize x*y=m at *
 generalize J4 x y=lo at *
 generalize Xq x y=hi at *
 have a:=GB (x:=lo) (y:=o) (c:=0) ⟨f,d⟩ g wj;generalize XH lo o 0=lo1 at *
 generalize Xi lo o 0=c1 at *
 have j:=GB (x:=lo1) (y:=c) (c:=0) a.2.1 hc wj;generalize XH lo1 c 0=lo2 at *
 generalize Xi lo1 c 0=c2 at *
 simp only[GC]at *
 omega
def Ys(la lb:List Int)(i j:Nat)(x:Int)(o:List Int)(c:Int):Prop :=
 o.length=la.length+lb.length/\DG W o/\(∀p,i+lb.length<=p->Qg o p=0)/\(0<=c/\c<W) /\
  dv W o+W^(i+j)*c=dv W (la.take i)*dv W lb+W^i*(x*dv W (lb.take j))
theorem Ys.step{lb o:List Int}{x c:Int}(h:Ys la lb i j x o c)(hx:0<=x/\x<W)(hb:DG W lb)(f:j<lb.length)(hi:i<la.length):
  Ys la lb i (j+1) x (o.set (i+j) (XH (XH (J4 x (Qg lb j)) (Qg o (i+j)) 0) c 0))
   (Xq x (Qg lb j)+Xi (J4 x (Qg lb j)) (Qg o (i+j)) 0+Xi (XH (J4 x (Qg lb j)) (Qg o (i+j)) 0) c 0):=by
 obtain⟨h1,h2,h3,h4,h5⟩:=h;obtain⟨_,_,_,_,a,d,b⟩:=Mr hx (JP hb j) (JP h2 (i+j)) h4;refine⟨by simpa using h1,h2.set _ a.1 a.2,?_,d,?_⟩
 ·intro p hp;rw[WD O,if_neg O];exact h3 p hp
 rw[G7 W O,J9,<-Nat.add_assoc,aA];generalize XH (XH (J4 x (Qg lb j)) (Qg o (i+j)) 0) c 0=lo at *
 generalize Xq x (Qg lb j)+Xi (J4 x (Qg lb j)) (Qg o (i+j)) 0+Xi (XH (J4 x (Qg lb j)) (Qg o (i+j)) 0) c 0=hi at *
 have e:W^(i+j)*(lo+W*hi)=W^(i+j)*(x*Qg lb j+Qg o (i+j)+c):=by rw[b]
 rw[fg]at *
 grind
theorem Ys.row{lb o:List Int}{x c:Int}(h:Ys la lb i lb.length x o c)(hi:i<la.length)(hx:x=Qg la i):
  Ys la lb (i+1) 0 0 (o.set (i+lb.length) c) 0:=by
 obtain⟨h1,h2,h3,h4,h5⟩:=h;refine⟨by simpa using h1,h2.set _ h4.1 h4.2,?_,⟨bV _,Jj⟩,?_⟩
 ·intro p hp;rw[WD O,if_neg O];exact h3 p O
 rw[G7 W O,h3 _ (ay _),J9,<-hx];rw[eD]at h5;simp only[eL,eu,Int.zero_mul,Int.sub_zero];rw[h5];grind
def Ys.start(la lb:List Int):Ys la lb 0 0 0 (ai (la.length+lb.length) 0) 0:=by
 refine⟨wu,DG.replicate Jj _,?_,⟨bV _,Jj⟩,by rw[Pa];simp⟩;intro p _;unfold Qg;split<;>simp
def Ys.next{lb o:List Int}{c y:Int}(h:Ys la lb i 0 0 o c)(x:Int)(hc:c=0)(hy:y=0):Ys la lb i 0 x o y:=by
 obtain⟨h1,h2,h3,h4,h5⟩:=h;subst hc hy;exact⟨h1,h2,h3,h4,by simpa using h5⟩
theorem DX(v v':Value)(la lb:List Int)(w:World)(ha:DG W la)(hb:DG W lb)(hs:SL w v JR la)(hs':SL w v' JR lb)(h1:la.length<=100000000000)(h2:lb.length<=100000000000):
  Calls prog 219 #[v,v'] w λe w'=>ZI w (λv w'=>∃l,SL w' v JR l/\DG W l/\NZ l/\dv W l=dv W la*dv W lb) e w':=by
 obtain⟨q,cap,rfl,hcap,hmax,hca⟩:=hs;obtain⟨q',cap',rfl,hcap',hmax',hcb⟩:=hs';have HA:=ae hca;clear hca;have HB:=ae hcb;clear hcb;have hmk:=λw=>Zx (la.length+lb.length) O w;have ec:((la.length+lb.length:Nat):Int)=(la.length:Int)+lb.length:=O;simp only[ec]at hmk;clear ec;go_enter func219,ntmps219
 go_wp2
 go_loopw [22] (λi wr=>∃(k:Nat) (o:List Int),k<=la.length/\i = .int .i64 k/\Ys la lb k 0 0 o 0/\YL wr w.heap.size 264 JR o/\Ext w wr)
  (λi _=>la.length-(intOf i).toNat)
 case atStart=>exact⟨0,_,eC _,rfl,Ys.start la lb,YL.made w _ JR 0 _ _ rfl,(Ext.refl _).alloc _⟩
 case round =>
  obtain⟨k,o,hk,rfl,hI,hBl,hE⟩:=hrel;rename_i wr _;obtain⟨wo,rfl⟩:∃wo:World,wo=wr:=⟨_,rfl⟩;clear hmk;by_cases hlt:k<la.length
  ·obtain⟨b,off,rfl,hbl,hc⟩:=HA.out k hlt;rw[Zk hlt]at hc;have hc:=hE.cell hc;simp only[JR]at hc;have hx:=JP ha k;have HI:=ae hI;clear hI;have HBl:=ae hBl;clear hBl;go_wp2
   go_loopw [29,8] (λj c wr=>∃(m:Nat) (o:List Int) (cc:Int),m<=lb.length/\j = .int .i64 m/\c = .int .u64 cc/\Ys la lb k m (Qg la k) o cc/\YL wr w.heap.size 264 JR o/\Ext w wr)
    (λj _ _=>lb.length-(intOf j).toNat)
   case atStart=>exact⟨0,o,0,eC _,rfl,rfl,HI.out.next _ rfl rfl,HBl.out,hE⟩
   case round =>
    clear HI HBl hE hc;obtain⟨m,o,cc,hm,rfl,rfl,hI,hBl,hE⟩:=hrel;by_cases hlt2:m<lb.length
    ·obtain⟨b2,off2,rfl,hb2,hc2⟩:=HB.out m hlt2;rw[Zk hlt2]at hc2;have hc2:=hE.cell hc2;simp only[JR]at hc2;have hst:=hI.step hx hb hlt2 hlt;obtain⟨hd1,hd2,hd3,hd4,hd5⟩:=hI;clear hd3 hd5;have hd1':=ae hd1;have hol:k+m<o.length:=O;clear hd1;have hy:=JP hb m;have ho:=JP hd2 (k+m);have hcell:=hBl.cell (i:=k+m) hol;rw[Zk hol]at hcell;simp only[JR]at hcell;have hfr:=hBl.frozen (k+m);have HBs:=ae (hBl.set (k+m) (XH (XH (J4 (Qg la k) (Qg lb m)) (Qg o (k+m)) 0) cc 0));have HS:=ae hst;clear hst hBl;obtain⟨g1,g2,g3,g4,g5,g6,_⟩:=Mr hx hy ho hd4;generalize hmy:Xq (Qg la k) (Qg lb m)=mh at *
     generalize hml:J4 (Qg la k) (Qg lb m)=ml at *
     have HMH:=ae hmy;have HML:=ae hml;clear hmy hml;have ha1:=λw=>YU ml (Qg o (k+m)) 0 g2.1 ho.1 wj wj w;have ha2:=λw=>YU (XH ml (Qg o (k+m)) 0) cc 0 g3.1 hd4.1 wj wj w;have b1:0<=mh+Xi ml (Qg o (k+m)) 0:=g4.1;have b2:mh+Xi ml (Qg o (k+m)) 0<=18446744073709551615:=by have:=g4.2;simp only[GC]at this;omega
     have b3:0<=mh+Xi ml (Qg o (k+m)) 0+Xi (XH ml (Qg o (k+m)) 0) cc 0:=g6.1;have b4:mh+Xi ml (Qg o (k+m)) 0+Xi (XH ml (Qg o (k+m)) 0) cc 0<=18446744073709551615:=by have:=g6.2;simp only[GC]at this;omega
     go_wp2_with (go_at_call 215;refine(YW _ _ _ hx hy).mono ?_;rw[HMH.out,HML.out];rintro e w' ⟨rfl,rfl⟩)
     go_roundw
     case rel=>exact⟨m+1,_,_,O,by go_num,rfl,HS.out,HBs.out,aX hE wu _⟩
     case measure=>simp[intOf];omega
    have hk':m=lb.length:=O;subst hk';have hst:=hI.row hlt rfl;obtain⟨hd1,hd2,hd3,hd4,hd5⟩:=hI;clear hd3 hd5;have hol:k+lb.length<o.length:=O;clear hd1;have hcell:=hBl.cell (i:=k+lb.length) hol;rw[Zk hol]at hcell;simp only[JR]at hcell;have hfr:=hBl.frozen (k+lb.length);have HBs:=ae (hBl.set (k+lb.length) cc);have HS:=ae hst;clear hst hBl;go_wp2
    go_roundw
    case rel=>exact⟨k+1,_,O,by go_num,HS.out,HBs.out,aX hE wu _⟩
    case measure=>simp[intOf];omega
  have hk':k=la.length:=O;subst hk';obtain⟨hd1,hd2,hd3,hd4,hd5⟩:=hI;have hSL:=SL.Gx hBl (la.length+lb.length) O O;rw[ah O,hd1]at hSL;have HSL:=ae hSL;rw[eD]at hd5;have HF:=ae hd5;clear hd5 hSL hd1 hBl;go_wp2_with (go_at_call 261;refine(KO _ _ _ HSL.out).mono ?_;rintro e w' ⟨⟨v',rfl,hv⟩,rfl⟩)
  go_ret
  exact⟨_,rfl,⟨_,hv,hd2.Q3,Xa _,by rw[XB];have:=HF.out;simpa using this⟩,hE⟩
def p2(s:Nat):Int:=2^s
def Z5(s:Nat):0<p2 s:=jW wj
theorem W3(h:s<64):p2 (64-s)*p2 s=W:=by
 unfold p2;rw[<-fg,show 64-s+s=64 from by omega];rfl
def TA:p2 0=1:=rfl
def cK(h:s<64):2*p2 s<=W:=by
 have h1:=W3 h;have h2:2<=p2 (64-s):=by
  unfold p2;rw[show 64-s=(63-s)+1 from by omega,aA];have:=Z5 (63-s);unfold p2 at this;omega
 have h3:2*p2 s<=p2 (64-s)*p2 s:=af h2 (aw (Z5 s));omega
theorem Lh{x:Int}(a:s<64):x*p2 s%W=p2 s*(x%p2 (64-s)):=by
 rw[<-W3 a,aV (p2 (64-s)) (p2 s),aV x (p2 s),Int.mul_emod_mul_of_pos _ _ (Z5 s)]
def xB{x:Int}(a:s<64):x*p2 s/W=x/p2 (64-s):=by
 rw[<-W3 a];exact Int.mul_ediv_mul_of_pos_left x _ (Z5 s)
theorem TB{x:Int}(d:s<64)(h0:0<=h)(h1:h<p2 s):bits .or .u64 h (x*p2 s%W)=h+x*p2 s%W/\h+x*p2 s%W<W:=by
 have e:=Lh (x:=x) d;have g:=Z5 (64-s);have f:0<=x%p2 (64-s):=bK _ O;have b1:x%p2 (64-s)<p2 (64-s):=bL _ g;have hb:p2 s*(x%p2 (64-s))+h<W:=by
  have:p2 s*(x%p2 (64-s)+1)<=p2 s*p2 (64-s):=aa O (aw (Z5 s));rw[aV (p2 s) (p2 (64-s)),W3 d,fh]at this;omega
 have i:0<=p2 s*(x%p2 (64-s)):=ak (aw (Z5 s)) f;rw[e];refine⟨?_,O⟩;obtain⟨a,ha⟩:=aj f;obtain⟨c,rfl⟩:=aj h0;rw[ha]at *
 have j:p2 s*(a:Int)=((2^s*a:Nat):Int):=by simp[p2]
 have b:c<2^s:=by
  have:(c:Int)<((2^s:Nat):Int):=(by simpa[p2]using h1);omega
 rw[j]at hb ⊢;have k:=GC;rw[u64_or_nat _ _ O O,Nat.or_comm,<-fq b];omega
def Ec(l:List Int)(s k:Nat)(ds:List Int)(h:Int):Prop :=
 ds.length=k/\DG W ds/\(0<=h/\h<p2 s)/\dv W ds+W^k*h=dv W (l.take k)*p2 s
theorem Ec.step{l:List Int}(hi:Ec l s k ds h)(d:s<64)(f:DG W l):
  Ec l s (k+1) (ds++[h+Qg l k*p2 s%W]) (Qg l k/p2 (64-s)):=by
 obtain⟨h1,h2,h3,h4⟩:=hi;obtain⟨_,b⟩:=TB (x:=Qg l k) d h3.1 h3.2;have hd:=JP f k;have g:0<=Qg l k*p2 s%W:=bK _ wj;have q:=aC (Qg l k*p2 s) W;have hk:0<=Qg l k/p2 (64-s)/\Qg l k/p2 (64-s)<p2 s:=by
  refine⟨bh hd.1 (aw (Z5 _)),?_⟩;refine bP (Z5 _) ?_;rw[aV,W3 d];exact hd.2
 refine⟨by simp[h1],h2.append (DG.cons O b (DG.nil _)),hk,?_⟩;rw[XO,h1,J9,aA,<-xB d];generalize Qg l k*p2 s/W=a at *
 generalize Qg l k*p2 s%W=c at *
 have e:W^k*(W*a+c)=W^k*(Qg l k*p2 s):=by rw[q]
 grind
def Ec.zero{l:List Int}(hi:Ec l 0 k ds h):h=0:=by
 have:=hi.2.2.1;rw[TA]at this;omega
def Ni(x:Int)(s:Nat):IntKind.u64.wrap (x*2^s)=x*p2 s%W:=by
 simp[iz,ic,bW,p2,GC]
def Hd(ds:List α)(x y:α)(r:List α)(k:Nat)(h:ds.length=k):(ds++x::r).set k y=ds++y::r:=by
 subst h;rw[fL _ _ (ay _),eW,List.set_cons_zero]
def xF(ds:List α)(x y z:α)(r:List α)(k:Nat)(h:ds.length=k):(ds++z::x::r).set (k+1) y=(ds++[z])++y::r:=by
 have:=Hd (ds++[z]) x y r (k+1) (by simp[h]);rw[bN]at this;exact this
set_option maxRecDepth 100000 in
theorem Ss(s:Nat)(q:Option Addr)(cap:Nat)(l:List Int)(w:World)(U:s<64)(hl:DG W l)(hc:Cells w q JR l)(hlen:l.length<=100000000000):
  Calls prog 297 #[.slice q l.length cap,.int .i64 s] w λe w' =>
   ZI w (λv w'=>∃l':List Int,v = .slice (some ⟨w.heap.size,0,none⟩) (l.length+1) (l.length+1)/\YL w' w.heap.size 264 JR l'/\l'.length=l.length+1/\DG W l'/\dv W l'=dv W l*p2 s) e w':=by
 have HC:=ae hc;clear hc;have F:=λw=>Zx (l.length+1) O w;have ec:((l.length+1:Nat):Int)=(l.length:Int)+1:=O;simp only[ec]at F;clear ec;go_enter func297,ntmps297
 go_wp2
 go_loopw [14] (λi wr=>∃(k:Nat) (ds:List Int) (h:Int),k<=l.length/\i = .int .i64 k/\Ec l s k ds h/\YL wr w.heap.size 264 JR (ds++h::ai (l.length-k) 0)/\Ext w wr)
  (λi _=>l.length-(intOf i).toNat)
 case atStart=>exact⟨0,[],0,eC _,rfl,⟨rfl,DG.nil _,⟨bV _,Z5 _⟩,wu⟩,YL.made w _ JR 0 _ _ rfl,(Ext.refl _).alloc _⟩
 case round =>
  obtain⟨k,ds,h,hk,rfl,Y,o,L⟩:=hrel;clear F;by_cases H:k<l.length
  ·obtain⟨b,off,rfl,hb,hc⟩:=HC.out k H;rw[Zk H]at hc;have hc:=L.cell hc;simp only[JR]at hc;have y:=Y.step U hl;obtain⟨a,K,m,g⟩:=Y;have E:=(TB (x:=Qg l k) U m.1 m.2).1;have HO:=ae E;clear E g;have f:k<(ds++h::ai (l.length-k) 0).length:=by simp[a]
   have d:k+1<(ds++h::ai (l.length-k) 0).length:=by simp[a];omega
   have j:=o.cell f;have c:=o.cell d;have hg:(ds++h::ai (l.length-k) 0).getD k default=h:=by subst a;simp[eE]
   rw[hg]at j;simp only[JR]at j c;have hfr:=o.frozen k;have hfr2:=o.frozen (k+1);have hx0:(0:Int)<=(k:Int):=O;have hx1:(k:Int)<(l.length:Int)+1:=O;generalize (ds++h::ai (l.length-k) 0).getD (k+1) default=z at c;have HD1:=ae a;have HB:=ae o;clear hg a o f d;by_cases hs0:0<s
   ·go_wp2
    go_still_tail 9,wi
    go_wp2
    go_roundw
    case rel =>
     refine⟨k+1,ds++[h+Qg l k*p2 s%W],Qg l k/p2 (64-s),O,by go_num,y,?_,((L.Xh wu _).Xh wu _).drew⟩;rw[Ni,HO.out];have h1:=HB.out.set k (h+Qg l k*p2 s%W);rw[Hd _ _ _ _ _ HD1.out,show l.length-k=(l.length-(k+1))+1 from by omega,eQ]at h1;have h2:=h1.set (k+1) (Qg l k/p2 (64-s));rw[xF _ _ _ _ _ _ HD1.out]at h2;exact h2.drew
    case measure=>simp[intOf];omega
   have hz:Hid (Qg l k/p2 (64-s)=0):=by
    have e:s=0:=O;subst e;exact y.zero
   go_wp2
   go_still_tail 9,wi
   go_wp2
   go_roundw
   case rel =>
    refine⟨k+1,ds++[h+Qg l k*p2 s%W],Qg l k/p2 (64-s),O,by go_num,y,?_,(L.Xh wu _).drew⟩;rw[Ni,HO.out,hz.out];have h1:=HB.out.set k (h+Qg l k*p2 s%W);rw[Hd _ _ _ _ _ HD1.out,show l.length-k=(l.length-(k+1))+1 from by omega,eQ]at h1;rw[bN];exact h1.drew
   case measure=>simp[intOf];omega
  have X:k=l.length:=O;subst X;obtain⟨a,K,m,g⟩:=Y;have HF:Hid (dv W ds+W^l.length*h=dv W l*p2 s):=by rw[eD]at g;exact g
  have HD1:=ae a;rw[eW,bY]at o;have HB:=ae o;have hh:h<W:=by have:=cK U;have:=Z5 s;omega
  clear a g o;go_wp2
  go_ret
  exact⟨_,rfl,⟨_,rfl,HB.out,by simp[HD1.out],K.append (DG.cons m.1 hh (DG.nil _)),by rw[XO,HD1.out,HF.out]⟩,L⟩
theorem Er(s:Nat)(v:Value)(l:List Int)(w:World)(b:s<64)(c:DG W l)(hv:SL w v JR l)(a:l.length<=100000000000):
  Calls prog 297 #[v,.int .i64 s] w λe w' =>
   ZI w (λv w'=>∃l':List Int,v = .slice (some ⟨w.heap.size,0,none⟩) (l.length+1) (l.length+1)/\YL w' w.heap.size 264 JR l'/\l'.length=l.length+1/\DG W l'/\dv W l'=dv W l*p2 s) e w':=by
 obtain⟨q,cap,rfl,_,_,hc⟩:=hv;exact Ss s q cap l w b c hc a
def Zv(u v:List Int)(n:Nat)(q r a:Int):Prop :=
 (0<=q/\q<W)/\(0<=r/\r<W)/\(0<=a/\a<=1)/\q*Qg v (n+1)+r+W*a=Qg u (n+2)*W+Qg u (n+1)/\dv W u<(q+1)*dv W v
abbrev WG(u v:List Int)(n:Nat):Prop:=Vk W u v n
theorem Vk.Cu{v:List Int}(h:WG u v n)(d:Qg v (n+1)<=Qg u (n+2)):
  Zv u v n (W-1) (XH (Qg u (n+1)) (Qg v (n+1)) 0) (Xi (Qg u (n+1)) (Qg v (n+1)) 0):=by
 have e:=fk (Vk.top MZ h) d;obtain⟨a,b,c⟩:=GB (JP h.hu _) (JP h.hv _) (by decide:(0:Int)<=0/\(0:Int)<=1);refine⟨wj,b,c,?_,?_⟩
 ·grind
 have:=h.lt;trivial
theorem Vk.Cv{v:List Int}(h:WG u v n)(f:Qg u (n+2)<Qg v (n+1)):
  Zv u v n (I5 (Qg u (n+2)) (Qg u (n+1)) (Qg v (n+1))) (C5 (Qg u (n+2)) (Qg u (n+1)) (Qg v (n+1))) 0:=by
 obtain⟨j,U,a3⟩:=Zt MZ h.hu h.lu;obtain⟨b1,b2,b3⟩:=KA MZ h.hv h.lv;have i:=JP h.hu (n+2);have L:=JP h.hu n;have K:=JP h.hu (n+1);have g:=JP h.hv n;have H:=JP h.hv (n+1);have hp:=pow_pos Jj n;have hz:=h.nz;have F:=Jj;unfold I5 C5;unfold Zv;rw[j,b1];generalize W^n=D at *
 generalize dv W (v.take n)=v' at *
 generalize dv W _=u' at *
 generalize Qg u _=u0 at *
 generalize Qg u (n+1)=u1 at *
 generalize Qg u n=u2 at *
 generalize Qg v (n+1)=v1 at *
 generalize Qg v n=v2 at *
 have w:0<=u0*W:=ak i.1 O;have o:(u0+1)*W<=v1*W:=af O O;have m:=aC (u0*W+u1) v1;have c:=bK (u0*W+u1) (by omega:v1≠0);have k:=bL (u0*W+u1) hz;have b:0<=(u0*W+u1)/v1:=bh O O;have a:(u0*W+u1)/v1<W:=by
  refine bP hz ?_
  grind
 generalize (u0*W+u1)/v1=q at *
 refine⟨⟨b,a⟩,⟨c,O⟩,O,by grind,?_⟩;have d:(u0*W+u1+1)<=(q+1)*v1:=by grind
 have E:(u0*W+u1+1)*(W*D)<=(q+1)*v1*(W*D):=af d (ak O O);have z:0<=(q+1)*(v2*D):=ak O (ak g.1 O);have y:0<=(q+1)*v':=ak O b2;have x:(u2+1)*D<=W*D:=af O O
 grind
theorem Zv.less{v:List Int}{q r:Int}(h:WG u v n)(g:Zv u v n q r 0)(hb:r*W+Qg u n<q*Qg v n):
  Zv u v n (q-1) (XH r (Qg v (n+1)) 0) (Xi r (Qg v (n+1)) 0):=by
 obtain⟨g1,d,m,k,j⟩:=g;obtain⟨f,w,a3⟩:=Zt MZ h.hu h.lu;obtain⟨b1,b2,b3⟩:=KA MZ h.hv h.lv;obtain⟨a,b,c⟩:=GB d (JP h.hv _) (by decide:(0:Int)<=0/\(0:Int)<=1);have hp:=pow_pos Jj n;have o:=JP h.hu n;have i:1<=q:=by
  refine Int.not_lt.1 λhc=>?_;have:q=0:=O;subst this;have:0<=r*W:=ak d.1 wj;omega
 refine⟨O,b,c,?_,?_⟩
 ·grind
 rw[show q-1+1=q from by omega,f,b1];refine PJ b2 a3 hp O ?_;generalize Qg u _=u0 at *
 generalize Qg v _=v1 at *
 generalize Qg v n=v2 at *
 have e:q*(v1*W+v2)=(q*v1+r)*W-r*W+q*v2:=by grind
 grind
theorem Zv.fin{v:List Int}{q r a:Int}(h:WG u v n)(g:Zv u v n q r a)(hb:a=0->q*Qg v n<=r*W+Qg u n):
  (q-1)*dv W v<=dv W u/\dv W u<(q+1)*dv W v:=by
 obtain⟨g1,f,w,d,c⟩:=g;refine⟨?_,c⟩;obtain⟨k,j,a3⟩:=Zt MZ h.hu h.lu;obtain⟨b1,b2,b3⟩:=KA MZ h.hv h.lv;have hp:=pow_pos Jj n;have x:=JP h.hu n;have i:=JP h.hv n;have hz:=h.nz;rw[k,b1];have o:q*Qg v n<=(r+W*a)*W+Qg u n:=by
  have:a=0\/a=1:=O;rcases this with rfl | rfl
  ·simp_all
  have b:q*Qg v n<=W*W:=fC O O i.1 wj;have m:0<=r*W:=ak f.1 wj
  grind
 refine AU hp b3 j g1.1 ?_ ?_ b2
 ·rw[<-d]
  grind
 have b:1*W<=Qg v (n+1)*W:=af O wj;omega
def Dq(u v:List Int)(q:Int)(k:Nat)(ds:List Int)(b c:Int):Prop :=
 ds.length=k/\DG W ds/\(0<=b/\b<=1)/\(0<=c/\c<W)/\dv W ds-W^k*(b+c)=dv W (u.take k)-q*dv W (v.take k)
def Dq.start(u v:List Int)(q:Int):Dq u v q 0 [] 0 0:=⟨rfl,DG.nil _,wj,wj,wu⟩
theorem Dq.step{v:List Int}{q b c:Int}(h:Dq u v q k ds b c)(hu:DG W u)(hv:DG W v)(j:0<=q/\q<W):
  Dq u v q (k+1) (ds++[Zh (Qg u k) (XH (J4 q (Qg v k)) c 0) b]) (V4 (Qg u k) (XH (J4 q (Qg v k)) c 0) b)
   (Xq q (Qg v k)+Xi (J4 q (Qg v k)) c 0):=by
 obtain⟨h1,h2,h3,h4,h5⟩:=h;obtain⟨_,i,g,f,o,_,_⟩:=Mr j (JP hv k) h4 (by decide:(0:Int)<=0/\(0:Int)<W);obtain⟨x,_,_⟩:=GB i h4 (by decide:(0:Int)<=0/\(0:Int)<=1);obtain⟨m,a,d⟩:=DE (JP hu k) g h3;have w:J4 q (Qg v k)+W*Xq q (Qg v k)=q*Qg v k:=by grind[J4,Xq,je,aC]
 refine⟨by grind,h2.append (DG.cons a.1 a.2 (DG.nil _)),d,f,?_⟩;rw[XO,h1,J9,J9,aA]
 grind
theorem zX{v:List Int}{q b c:Int}(h:WG u v n)(m:Dq u v q (n+2) ds b c)(j:(q-1)*dv W v<=dv W u/\dv W u<(q+1)*dv W v)
  (hb:V4 (Qg u (n+2)) c b=0) :
  DG W (ds++[Zh (Qg u (n+2)) c b])/\q=dv W u/dv W v/\dv W (ds++[Zh (Qg u (n+2)) c b])=dv W u%dv W v:=by
 obtain⟨h1,h2,h3,h4,h5⟩:=m;obtain⟨i,a,g⟩:=DE (JP h.hu (n+2)) h4 h3;rw[ah (by have:=h.lv;omega:v.length<=n+2)]at h5;have e:=J9 u (n+2);rw[ah (by have:=h.lu;omega:u.length<=n+2+1)]at e;have f:=h2.append (DG.cons a.1 a.2 (DG.nil _));have h0:=Qp Jj f;have d:0<dv W v:=by
  grind
 have hv:dv W (ds++[Zh (Qg u (n+2)) c b])=dv W u-q*dv W v:=by
  grind[XO,Zh,Qg]
 rw[hv]at h0 ⊢
 grind[ZQ,Zo]
theorem gq{v es:List Int}{q b c k:Int}(h:WG u v n)(m:Dq u v q (n+2) ds b c)(L:(q-1)*dv W v<=dv W u/\dv W u<(q+1)*dv W v)
  (hb:V4 (Qg u (n+2)) c b=1) (ha:Eh ds v (n+2) es k) :
  q-1=dv W u/dv W v/\dv W es=dv W u%dv W v/\Zh (Qg u (n+2)) c b+k=W:=by
 obtain⟨h1,h2,h3,h4,h5⟩:=m;obtain⟨F,i,a3,a4⟩:=ha;obtain⟨j,K,H⟩:=DE (JP h.hu (n+2)) h4 h3;rw[ah (by have:=h.lv;omega:v.length<=n+2)]at h5 a4;rw[ah (by omega:ds.length<=n+2)]at a4;have e:=J9 u (n+2);rw[ah (by have:=h.lu;omega:u.length<=n+2+1)]at e;have d:0<dv W v:=by
  grind
 have E:=Zu Jj i;have X:=Qp Jj i;have z:=Qp Jj h2;have f:=Zu Jj h2;have v1:=Zu Jj h.hv;rw[h.lv]at v1;rw[F]at E;rw[h1]at f;rw[hb]at j;have hp:=pow_pos Jj (n+2);generalize Zh (Qg u (n+2)) c b=sl at *
 have key:dv W ds+W^(n+2)*(sl-W)=dv W u-q*dv W v:=by
  grind
 have a:dv W u<q*dv W v:=by
  have:W^(n+2)*(sl-W)<=W^(n+2)*(-1):=aa O O;omega
 have U:(q-1)*dv W v=q*dv W v-dv W v:=by grind
 have y:(q-1+1)*dv W v=q*dv W v:=wu;have x:dv W u-(q-1)*dv W v=dv W es+W^(n+2)*(sl+k-W):=by
  have e3:W^(n+2)*(sl+k-W)=W^(n+2)*(sl-W)+W^(n+2)*k:=by rw[<-fh];congr 1;omega
  omega
 have hk:sl+k=W:=by
  have w:0<=dv W u-(q-1)*dv W v:=O;have o:dv W u-(q-1)*dv W v<W^(n+2):=O;rw[x]at w o;rcases eZ (sl+k) W with g | g | g
  ·have:W^(n+2)*(sl+k-W)<=W^(n+2)*(-1):=aa O O;omega
  ·exact g
  have:W^(n+2)*1<=W^(n+2)*(sl+k-W):=aa O O;omega
 refine⟨(ZQ d O (by rw[y];exact a)).symm,?_,hk⟩
 grind[Zo]
structure BL(B:Nat)(w w':World):Prop where
 os:w'.os=w.os
 tape:w'.tape=w.tape
 output:w'.output=w.output
 size:w.heap.size<=w'.heap.size
 block:∀k,k<w.heap.size->k≠B->w'.heap[k]?=w.heap[k]?
def BL.refl(B:Nat)(w:World):BL B w w:=⟨rfl,rfl,rfl,ay _,λ_ _ _=>rfl⟩
theorem BL.QBR(B:Nat)(h:Ext w w'):BL B w w':=⟨h.os,h.tape,h.output,h.size,λk hk _=>h.block k hk⟩
theorem BL.trans{a b c:World}(h:BL B a b)(k:BL B b c):BL B a c :=
 ⟨k.os.trans h.os,k.tape.trans h.tape,k.output.trans h.output,er h.size k.size,λi hi d=>(k.block i (aT hi h.size) d).trans (h.block i hi d)⟩
def BL.ext{a b c:World}(h:BL B a b)(k:Ext b c):BL B a c:=h.trans (BL.QBR B k)
def BL.drew{a b:World}(h:BL B a b):BL B a b.drew:=⟨h.os,h.tape,h.output,h.size,h.block⟩
def BL.setCell{a b:World}(h:BL B a b)(off:Nat)(v:Value):BL B a (b.setCell ⟨B,off,none⟩ v) :=
 h.trans ⟨rfl,rfl,rfl,wu,λk _ c=>eT _ _ _ _ c⟩
theorem BL.QAs{a b c:World}(h:BL B b c)(k:Ext a b)(d:a.heap.size<=B):Ext a c :=
 ⟨h.os.trans k.os,h.tape.trans k.tape,h.output.trans k.output,er k.size h.size,λi hi=>(h.block i (aT hi k.size) O).trans (k.block i hi)⟩
def BL.cell(h:BL B w w'){p:Addr}{v:Value}(hp:p.block≠B)(hv:w.cell? p=some v):w'.cell? p=some v:=by
 rw[World.cell?_of_block (h.block _ (World.block_lt_of_cell? w p hv) hp)];exact hv
theorem BL.cells[Inhabited α]{B:Nat}{w w':World}(h:BL B w w'){q:Option Addr}{enc:D1 α}{l:List α}(d:∀a,q=some a->a.block≠B)(hc:Cells w q enc l):Cells w' q enc l:=by
 intro i hi;obtain⟨b,off,h1,h2,h3⟩:=hc i hi;exact⟨b,off,h1,(by obtain⟨c,fr,e⟩:=id h2;exact⟨c,fr,by rw[h.block b h2.lt (show b≠B from d ⟨b,off,none⟩ h1)];exact e⟩),h.cell (show b≠B from d ⟨b,off,none⟩ h1) h3⟩
def BL.ZH(h:BL B w w'){enc:D1 α}{l:List α}(hb:b≠B)(k:YL w b E enc l):YL w' b E enc l:=by
 unfold YL;rw[h.block b k.lt hb];exact k
theorem Ij{pre post r:List Int}{x:Int}(a:pre.length=j)(hk:ds.length=k):(pre++((ds++x::r)++post)).getD (j+k) default=x:=by
 simp_all
theorem Ii{pre post r:List Int}{x:Int}(a:pre.length=j)(hk:ds.length=k):j+k<(pre++((ds++x::r)++post)).length:=by
 simp_all
theorem Mt{pre post r:List Int}{x:Int}(a:pre.length=j)(hk:ds.length=k)(y:Int):(pre++((ds++x::r)++post)).set (j+k) y=pre++((ds++y::r)++post):=by
 simp_all
theorem Iq{l:List Int}(h:DG W l)(c:NZ l)(h1:W^n<=dv W l)(h2:dv W l<W^(n+1)):l.length=n+1:=by
 have a:=Zu Jj h;have d:l≠[]:=by rintro rfl;have:=pow_pos Jj n;simp at h1;omega
 have b:=De Jj h c d;rcases eX l.length (n+1)with g | g | g
 ·have:=YD (b:=W) wj (m:=l.length) (n:=n) O;omega
 ·exact g
 have:=YD (b:=W) wj (m:=n+1) (n:=l.length-1) O;omega
def uO(la:List Int)(y:Int)(k:Nat)(a:List Int)(r:Int):Prop :=
 a.length+k=la.length/\DG W a/\(0<=r/\r<y)/\dv W (la.drop k)=y*dv W a+r
theorem uO.step{a:List Int}{y r:Int}(h:uO la y (k+1) a r)(ha:DG W la)(hy:0<y/\y<W):
  uO la y k (I5 r (Qg la k) y::a) (C5 r (Qg la k) y):=by
 obtain⟨h1,h2,h3,h4⟩:=h;have hd:=JP ha k;have j:0<=r*W:=ak h3.1 wj;have i:(r+1)*W<=y*W:=af O wj;have g:=aC (r*W+Qg la k) y;have f:=bK (r*W+Qg la k) (by omega:y≠0);have d:=bL (r*W+Qg la k) hy.1;have c:0<=(r*W+Qg la k)/y:=bh O O;have b:(r*W+Qg la k)/y<W:=by
  refine bP hy.1 ?_
  grind
 refine⟨by grind,DG.cons c b h2,⟨f,d⟩,?_⟩
 grind[XC,Yp,I5,C5,Qg]
def Vn(U V:Int)(n k m:Nat)(o a:List Int):Prop :=
 o.length=m+1/\DG W o/\a.length+k=m-(n+2)+1/\DG W a/\U=V*(W^k*dv W a)+dv W o/\dv W o<W^k*V
theorem Vn.start{o:List Int}{m:Nat}{A B:Int}(c:o.length=m+1)(hd:DG W o)(hv:dv W o=A*p2 s)(b:s<64)(f:A<W^m)
  (d:W^(n+1)*9223372036854775808<=B*p2 s) (hm:n+2<=m):Vn (A*p2 s) (B*p2 s) n (m-(n+2)+1) m o []:=by
 refine⟨c,hd,wu,DG.nil _,by simp[hv],?_⟩;have hp:=cK b;have a:=Z5 s;have i:=Int.mul_lt_mul_of_pos_right f a;have h:W^m*p2 s<=W^m*9223372036854775808:=aa (by grind[GC]) (aw (pow_pos Jj m));have g:W^(m-(n+2)+1)*(W^(n+1)*9223372036854775808)<=W^(m-(n+2)+1)*(B*p2 s):=aa d (aw (pow_pos Jj _));have e:W^(m-(n+2)+1)*(W^(n+1)*9223372036854775808)=W^m*9223372036854775808:=by
  rw[<-Int.mul_assoc,<-fg,show m-(n+2)+1+(n+1)=m from by omega]
 omega
theorem Vn.QAk{U V:Int}{m:Nat}{o d v:List Int}(h:Vn U V n (j+1) m o d)(hv:DG W v)(lv:v.length=n+2)(nz:0<Qg v (n+1))(x:dv W v=V)(F:n+2<=m):
  ∃pre u post,o=pre++(u++post)/\pre.length=j/\WG u v n/\dv W post=0/\post.length=m-(j+n+2)/\j+n+2<=m:=by
 obtain⟨h1,h2,h3,h4,h5,h6⟩:=h;have w:j+n+2<=m:=O;have y:o=o.take j++((o.drop j).take (n+3)++(o.drop j).drop (n+3)):=by grind[eM]
 have k:(o.take j).length=j:=by grind
 have i:((o.drop j).take (n+3)).length=n+3:=by rw[ao,iq];omega
 have g:((o.drop j).drop (n+3)).length=m-(j+n+2):=by grind
 have E:=h2.take j;have c:DG W ((o.drop j).take (n+3)):=(h2.drop j).take _;have z:DG W ((o.drop j).drop (n+3)):=(h2.drop j).drop _;have Y:dv W o=dv W (o.take j)+W^j*(dv W ((o.drop j).take (n+3))+W^(n+3)*dv W ((o.drop j).drop (n+3))):=by
  rw[KX W o j O,KX W (o.drop j) (n+3) (by grind)]
 generalize o.take j=pre at *
 generalize (o.drop j).take (n+3)=u at *
 generalize (o.drop j).drop (n+3)=post at *
 have n1:=Qp Jj E;have H:=Qp Jj c;have f:=Qp Jj z;have hp:=pow_pos Jj j;have b:=Zu Jj hv;rw[lv,x]at b;have e3:W^(j+1)*V=W^j*(W*V):=by grind
 have X:dv W u+W^(n+3)*dv W post<W*V:=by
  refine Int.not_le.1 λhc=>?_;have:=aa hc (aw hp);omega
 have a:dv W post=0:=by
  refine fk (Int.not_lt.1 λhc=>?_) f;have L:W^(n+3)*1<=W^(n+3)*dv W post:=aa O (aw (pow_pos Jj _));have K:W*V<=W*W^(n+2):=aa O wj
  grind[aA]
 refine⟨pre,u,post,y,k,⟨c,hv,i,lv,nz,?_⟩,a,g,w⟩;simp_all
theorem Vn.step{U V:Int}{m:Nat}{pre u post w v f:List Int}(h:Vn U V n (j+1) m (pre++(u++post)) w)(g:pre.length=j)(lu:u.length=n+3)
  (k:DG W f) (y:f.length=n+3) (E:dv W v=V) (o:0<V) (a:dv W post=0) (z:dv W u/dv W v<W) (i:0<=dv W u) (b:dv W f=dv W u%dv W v) :
  Vn U V n j m (pre++(f++post)) (dv W u/dv W v::w):=by
 obtain⟨h1,h2,h3,h4,h5,h6⟩:=h;rw[E]at *
 have x:0<=dv W u/V:=bh i O;have H:=aC (dv W u) V;have F:=bL (dv W u) o;have c:=h2.left;have d:=h2.right.right;have K:=Zu Jj c;have hp:=pow_pos Jj j;rw[ZP,ZP,g,a]at h5 h6;refine⟨by simp_all,c.append (k.append d),by grind,DG.cons x z h4,?_,?_⟩
 ·rw[ZP,ZP,g,a,Yp,b,h5,aA]
  grind
 rw[ZP,ZP,g,a,b];have L:W^j*(dv W u%V+1)<=W^j*V:=aa O O
 grind
def Kr(o:List Int)(s k:Nat)(ds:List Int):Prop :=
 ds.length=k/\DG W ds/\dv W ds*p2 s+Qg o 0%p2 s=dv W (o.take k)+W^k*(Qg o k%p2 s)
def Kr.start(o:List Int)(s:Nat):Kr o s 0 []:=⟨rfl,DG.nil _,wu⟩
theorem Lg{x:Int}(a:s<64)(hx:0<=x/\x<W):0<=x/p2 s/\x/p2 s<p2 (64-s):=by
 simp_all[bh,aw,Z5,bP,W3]
theorem Kr.step{o:List Int}(h:Kr o s k ds)(f:DG W o)(d:s<64)(a:0<s):
  Kr o s (k+1) (ds++[Qg o k/p2 s+Qg o (k+1)*p2 (64-s)%W]):=by
 obtain⟨h1,h2,h3⟩:=h;have hx:=JP f k;have b:=Lg d hx;obtain⟨_,c⟩:=TB O b.1 b.2;have hy:0<=Qg o (k+1)*p2 (64-s)%W:=bK _ wj;refine⟨by grind,h2.append (DG.cons O c (DG.nil _)),?_⟩;rw[XO,h1,J9,aA];have g:Qg o (k+1)*p2 (64-s)%W=p2 (64-s)*(Qg o (k+1)%p2 s):=by
  grind[Lh,Qg]
 grind[aC,Qg,p2,W3]
theorem Kr.j7{o:List Int}(h:Kr o 0 k ds)(a:DG W o):Kr o 0 (k+1) (ds++[Qg o k/p2 0]):=by
 obtain⟨h1,h2,h3⟩:=h;have hx:=JP a k;simp[TA,jd,Int.ediv_one,jY,eL,eu]at *
 exact⟨by grind,h2.append (DG.cons hx.1 hx.2 (DG.nil _)),by simp[TA,jd,jY,eL,eu];grind[XO,J9]⟩
theorem pS{o a:List Int}{m:Nat}{A B:Int}(h:Vn (A*p2 s) (B*p2 s) n 0 m o a)(H:s<64)(K:0<B)(x:B*p2 s<W^(n+2))(hm:n+2<=m)
  (hr:Kr o s (n+2) ds):dv W a=A/B/\dv W ds=A%B:=by
 obtain⟨h1,h2,h3,h4,h5,h6⟩:=h;obtain⟨E,i,c⟩:=hr;simp only[Int.pow_zero,jX]at h5 h6;have hp:=Z5 s;have n0:=Qp Jj h2;have d:=KX W o (n+2) O;have t0:=Qp Jj (h2.take (n+2));have g:=Qp Jj (h2.drop (n+2));have z:dv W (o.drop (n+2))=0:=by
  refine fk (Int.not_lt.1 λhc=>?_) g;have F:W^(n+2)*1<=W^(n+2)*dv W (o.drop (n+2)):=aa O (aw (pow_pos Jj _));omega
 have f:Qg o (n+2)=0:=by
  have e3:=XC (l:=o) (k:=n+2) O;rw[e3,Yp]at z;have d0:=JP h2 (n+2);have y:=Qp Jj (h2.drop (n+2+1));have Y:0<=W*dv W (o.drop (n+2+1)):=ak wj y;omega
 rw[f,Int.zero_emod,eL,eu]at c;rw[z,eL,eu]at d;have b:Qg o 0%p2 s=0:=by
  have X:dv W o=Qg o 0+W*dv W (o.drop 1):=by
   have:=XC (l:=o) (k:=0) O;rw[iD]at this;rw[congrArg (dv W) this,Yp]
  have U:dv W o=p2 s*(A-B*dv W a):=by grind
  have L:Qg o 0=p2 s*(A-B*dv W a-p2 (64-s)*dv W (o.drop 1)):=by
   grind[W3,Qg,p2,dv]
  simp_all
 rw[b,eu,<-d]at c;have key:A=B*dv W a+dv W ds:=by
  have:p2 s*A=p2 s*(B*dv W a+dv W ds):=by grind
  grind[fF]
 have j:dv W ds<B:=by
  refine Int.not_le.1 λhc=>?_;have:=af hc (aw hp);omega
 have w:=Qp Jj i;have g1:dv W a*B<=A:=by grind
 grind[dv,jZ,aV,ZQ,Zo]
def UB(A B:Int)(r:Value)(w':World):Prop :=
 ∃p p' lq lr,r = .tuple #[p,p']/\SL w' p JR lq/\SL w' p' JR lr/\(DG W lq/\NZ lq)/\(DG W lr/\NZ lr)/\dv W lq=A/B/\dv W lr=A%B
theorem HH{x y:Int}(h:y<=x):0<=ZS x y:=by grind[ZS]
theorem Aq(v c:Value)(la lb:List Int)(w:World)(ha:DG W la)(hb:DG W lb)(d:NZ la)(nb:NZ lb)(f:SL w v JR la)(b:SL w c JR lb)(a:dv W la<dv W lb):
  Calls prog 262 #[v,c] w λe w'=>ZI w (UB (dv W la) (dv W lb)) e w':=by
 have H3:=ae (WE a);have H0:=ae (Qp Jj ha);have HL:=ae a;go_enter func262,ntmps262
 go_wp2_with (refine(ZR _ _ _ _ _ ha hb d nb f b).mono ?_;rw[H3.out];rintro e w' ⟨rfl,hx⟩)
 go_ret2
 exact⟨_,rfl,⟨_,_,[],la,rfl,SL.nil _ _,f.ext hx,⟨DG.nil _,by simp[NZ]⟩,⟨ha,d⟩,(fM H0.out HL.out).symm,(bO H0.out HL.out).symm⟩,hx⟩
def Uj(x z:α)(k:Nat)(a:List α):(ai (k+1) z++a).set k x=ai k z++x::a:=by
 simp[fS,bN,fL]
set_option maxRecDepth 100000 in
set_option maxHeartbeats 800000 in
theorem I3(v:Value)(q':Option Addr)(o:Nat)(la:List Int)(y:Int)(w:World)(ha:DG W la)(hy:0<y/\y<W)(na:NZ la)(hs:SL w v JR la)(U:SL w (.slice q' 1 o) JR [y])(hge:y<=dv W la)(h1:la.length<=100000000000):
  Calls prog 262 #[v,.slice q' 1 o] w λe w'=>ZI w (UB (dv W la) y) e w':=by
 have H3:0<=ZS (dv W la) y:=HH hge;have hb:DG W [y]:=DG.cons O hy.2 (DG.nil _);have nb:NZ [y]:=by grind[NZ]
 have HS:=ae hs;obtain⟨q,cap,rfl,hcap,hmax,hca⟩:=hs;have HA:=ae hca;have HS':=ae U;obtain⟨q2,cap2,e2,hcap2,hmax2,hcb⟩:=U;obtain⟨E,oy,hq,hby,Y⟩:=hcb 0 wu;simp only[bD,ix,Value.slice.injEq]at e2;obtain⟨rfl,_,rfl⟩:=e2;subst hq;have Y:w.cell? ⟨E,oy,none⟩=some (.int .u64 y):=by trivial
 have hmk:=λw=>Zx la.length O w;clear hca hcb;go_enter func262,ntmps262
 go_wp2_with (go_at_call 254;refine(ZR _ _ _ _ _ ha hb na nb HS.out HS'.out).mono ?_;rintro e F ⟨rfl,g⟩)
 go_loopw [8,7] (λi r wr=>∃(k:Nat) (d:List Int) (f:Int),k<=la.length/\i = .int .i64 ((k:Int)-1)/\r = .int .u64 f/\uO la y k d f/\YL wr F.heap.size 264 JR (ai k 0++d)/\Ext F wr)
  (λi _ _=>(intOf i+1).toNat)
 case atStart=>exact⟨la.length,[],0,ay _,rfl,rfl,⟨wu,DG.nil _,⟨bV _,hy.1⟩,wu⟩,by rw[ff];exact YL.made F _ JR 0 _ _ I,(Ext.refl _).alloc _⟩
 case round =>
  obtain⟨k,d,f,hk,rfl,rfl,hI,m,hE⟩:=hrel;clear hmk;cases k with
  |zero =>
   obtain⟨i1,i2,i3,i4⟩:=hI;have hW:=GC;have hdr:DG W [f]:=DG.cons i3.1 O (DG.nil _);simp only[bY,eK]at m;have x:=SL.Gx m la.length O O;rw[ah O,show d.length=la.length from by omega]at x;have HSL:=ae x;have HB:=ae m;have HF:Hid (dv W d=dv W la/y/\f=dv W la%y):=by
    rw[iD]at i4;have g1:dv W d*y<=dv W la:=by rw[aV];omega
    have g2:dv W la<(dv W d+1)*y:=by rw[jZ,aV (dv W d)];omega
    exact⟨(ZQ hy.1 g1 g2).symm,by rw[Zo g1 g2,aV (dv W d)];omega⟩
   clear x m i1 i4 hW;go_wp2_with fail
   refine(KO _ _ _ HSL.out).mono ?_;rintro e w' ⟨⟨v1,rfl,hv1⟩,rfl⟩;go_wp2_with fail
   refine(KO _ [f] _ ⟨_,1,rfl,ay _,wj,(YL.new _ 264 JR [f] _ I).row.cells (YL.new _ 264 JR [f] _ I).PM⟩).mono ?_;rintro e w' ⟨⟨v2,rfl,hv2⟩,rfl⟩;go_wp2
   go_ret2
   refine⟨_,rfl,⟨_,_,_,_,rfl,hv1.ext ((Ext.refl _).alloc _),hv2,⟨i2.Q3,Xa _⟩,⟨hdr.Q3,Xa _⟩,by rw[XB];exact HF.out.1,by rw[XB];simpa using HF.out.2⟩,(g.trans hE).alloc _⟩
  |succ k =>
   have X:k<la.length:=O;have L:=hI.step ha hy;obtain⟨i1,i2,i3,i4⟩:=hI;obtain⟨b,off,rfl,hba,hc⟩:=HA.out k X;rw[Zk X]at hc;simp only[JR]at hc;have K:=g.trans hE;have hc:=K.cell hc;have j:=K.cell Y;have hx:=JP ha k;have h:k<(ai (k+1) 0++d).length:=wv;have c:=m.cell h;have hz:(ai (k+1) (0:Int)++d).getD k default=0:=by simp[eE,List.getElem?_append_left]
   rw[hz]at c;simp only[JR]at c;have hfr:=m.frozen k;have HB:=ae m;have HST:=ae L;have e1:((k+1:Nat):Int)-1=(k:Int):=O;have hk0:(0:Int)<=(k:Int):=O;have hk1:(k:Int)<(la.length:Int):=O;have hbne:b≠F.heap.size:=wg<|aT hba.lt g.size
   have H:E≠F.heap.size:=wg<|aT hby.lt g.size
   clear m h hz L i4 i1;rw[e1];clear e1;go_wp2
   go_region_held3 (λw'=>w'.cell? ⟨b,off+k,none⟩=some (.int .u64 (Qg la k))/\w'.cell? ⟨E,oy,none⟩=some (.int .u64 y))
    (first | exact⟨a.cell hc,a.cell j⟩ | exact⟨XZ hbne (a.cell hc),XZ H (a.cell j)⟩ | go_keep)
    (first | (go_at_call 295;refine(SJ _ _ _ _ i3 hx hy.2).mono ?_;rintro e w' ⟨rfl,a⟩;have hcell':=a.cell c;have hfr':=(HB.out.ext (((Ext.refl _).drewN _).trans a)).frozen k))
   have z:=(HB.out.ext (((Ext.refl _).drewN _).trans a)).set k (I5 f (Qg la k) y);rw[Uj]at z;have HBs:=ae z;clear z;go_wp2
   go_roundw
   case rel=>exact⟨k,_,_,O,by go_num,rfl,HST.out,HBs.out,(hE.trans (((Ext.refl _).drewN _).trans a)).Xh (ay _) _⟩
   case measure=>simp[intOf]
end Go.Proofs.YtogkbhegfnklhaaGreatDoor
