/- Steps of the proof of the theorem in the last file. -/
import Derived.Test.YtphlgddkpboamaaGreatDoorV2
import Derived.WalkKit
import Derived.WalkSpells
import Derived.WalkLawsBesides
import Derived.Lib.Hide
import Derived.Deep.RegionHeld3
import Derived.StillTail
import Derived.Deep.LoopGhost
import Derived.IntWalk
import Derived.Test.YtphlgddkpboamaaGreatDoorProg
import Derived.KernelRfl
import Derived.Deep.QuietTactic
import Derived.BigQuiet
import Derived.Laws.Externs
import Derived.Shelf.Strings.Builder1
import Derived.Shelf.Strings.Builder2
import Derived.Shelf.Small.Bits
import Derived.Shelf.Small.Wraps
import Derived.Shelf.Strconv.Atoi
import Derived.Shelf.Strconv.Itoa0
import Derived.Shelf.Strconv.Itoa1
import Derived.Shelf.LaysM
import Derived.Shelf.Strconv.Itoa2
import Derived.Shelf.Strconv.Itoa3
import Derived.Shelf.Strings.Search1
import Derived.Shelf.Strings.Search2
import Derived.Shelf.Strings.Cut
import Derived.Shelf.Strings.Prefix
import Derived.Shelf.Bits.Mul64
import Derived.Shelf.Strings.Repeat
import Derived.Ground.Names2Prog
import Derived.Shelf.Slices.Clone
import Derived.Shelf.Slices.SearchI
import Derived.Ground.SlgnProg
import Derived.Shelf.SlicesE.Clone
import Derived.Laws.BitsAllLaws
import Derived.StillTailTactics
import Derived.BigRegion
import Derived.Deep.DeepCutAuto
import Derived.Deep.CutBlock
set_option linter.all false
set_option maxHeartbeats 4000000
open Go.Proofs.Tryz
open Go.Lib renaming hid -> aa,bitLen -> bW,run_eql_slice_nil -> eX,trimPrefix -> iX,hasPrefix -> lG,cut -> lM
open Int renaming mul_le_mul_of_nonneg_left -> ae,mul_le_mul_of_nonneg_right -> af,eq_ofNat_of_zero_le -> aj,mul_nonneg -> ak,le_of_lt -> au,mul_ediv_add_emod -> aA,pow_succ -> aC,ediv_nonneg -> aK,mul_comm -> aV,emod_lt_of_pos -> aW,emod_nonneg -> bg,natCast_pow -> bH,natCast_mul -> bI,le_refl -> bK,emod_eq_of_lt -> bO,ediv_lt_of_lt_mul -> bS,add_zero -> ey,lt_trichotomy -> eE,mul_zero -> eT,toNat_natCast -> fm,natCast_emod -> fq,natCast_ediv -> fu,pow_add -> fz,mul_add -> fA,le_antisymm -> fD,tdiv_eq_ediv_of_nonneg -> fO,mul_le_mul -> fP,add_mul_emod_self_left -> fQ,eq_of_mul_eq_mul_left -> fS,ediv_eq_zero_of_lt -> ia,add_comm -> ib,emod_one -> lK,pow_pos -> lP,one_mul -> lQ,mul_one -> lR,add_mul -> lS
open List renaming take_of_length_le -> ah,replicate -> ai,length_take -> ao,length_append -> aH,length_cons -> bA,drop_eq_nil_of_le -> bL,append_assoc -> bN,replicate_zero -> ee,Sublist -> er,getD -> ew,drop_eq_getElem_cons -> eB,take_length -> eF,nil_sublist -> eG,sublist_cons_self -> eP,nil_append -> eR,take_append_drop -> eU,getElem?_append -> eY,replicate_succ -> eZ,append_nil -> fy,range -> fJ,mapM_cons -> fK,getElem?_append_left -> fM,set_append_right -> fY,getElem?_eq_none -> fZ,replicate_succ' -> ir,erase_cons_head -> iv,getElem?_drop -> iz,zipIdx_cons -> iI,length_drop -> iJ,getElem_mem -> iK,append_cons -> iL,length_nil -> iO,foldl_cons -> iP,drop_zero -> iT,map_cons -> iV
open Go.Sem renaming run_bind -> aq,run_pure -> aX
open Go.Region renaming wanted -> ar,ready -> aB,binds -> aE,Mode -> bm,waitsFor -> bF,chainB -> fL,sinkB -> fU,waitsFor_spec -> fW,seqB -> iW
open Go.Result renaming andThen_ok -> ax,ok -> lL
open Nat renaming le_refl -> ay,mul_comm -> aF,lt_or_ge -> aM,add_mul -> aQ,lt_of_lt_of_le -> aT,min_eq_left -> aZ,div_add_mod -> ba,div_lt_iff_lt_mul -> bh,beq -> bD,mod_eq_of_lt -> bV,mul_le_mul_right -> bY,div_mul_le_self -> ep,le_trans -> eu,zero_le -> eD,zero_add -> eQ,mod_lt -> fh,sub_self -> fj,lt_trichotomy -> fk,pow_add -> fw,two_pow_pos -> fC,two_pow_add_eq_or_of_lt -> fH,mul_lt_mul_of_pos_right -> fI,add_sub_cancel_left -> fV,add_zero -> fX,mul_div_mul_right -> im,le_of_ble_eq_true -> iq,mul_right_comm -> iD,eq_zero_or_pos -> iE,add_right_comm -> iF,strongRecOn -> iS,mul_le_mul -> iU,sub_zero -> lI,ble -> lJ
open Go.Builtin renaming zeroCells -> aD,append_ -> eH,lenOf -> fG,firstCells -> ig,len_ -> iR
open Option.some renaming injEq -> aG,inj -> bz
open BitVec renaming ofInt -> aR,toNat_and -> iC
open Array renaming getElem?_eq_none -> aS,getElem?_modify -> bP,foldl_toList -> ff,ext_getElem? -> fg,getElem?_setIfInBounds_ne -> fi,replicate -> fv,range -> il,ext' -> lN,ext -> lT
open Go.RowKit.Below renaming setCell -> aY,heap_setCell -> fe,heap_alloc -> fp
open Go.IntWalk renaming i64_in -> bj
open Go.Instr renaming sureAddr -> bw,loadAt -> eM,fill -> eN,buildSlice -> iH,makeSlice -> iM,slice -> lH
open Go.Exit renaming inBlock -> bB
open Go.Shelf renaming Ren -> bJ
open Go.Value renaming int -> bQ
open Go.Oper renaming upon -> bT,wp -> eC,apart_spec -> fB
open Bool renaming and_eq_true -> bU,false_or -> iY
open Go.IntKind renaming bits -> bZ,signed -> iG,wrap -> iQ
open Option renaming map_some -> eI
open Go.Ending renaming returned -> eO
open Go.Extern.MathBitsCarry renaming m64 -> eV,three -> iA,pair -> iB
open Go.World renaming cell? -> eW,setCell -> fb,frozen? -> fR,block_lt_of_cell? -> fT,cell?_of_block -> ic
open Go.Calls renaming mono -> fF
open List.Sublist renaming refl -> fN
open Go.Act renaming put_comm -> ij,eval -> iy,put -> iN
open Go.Code renaming region -> iw
open Go.Addr renaming add -> ix
open Go.Proofs.Lays renaming n99 -> iZ,n264 -> lz,n172 -> lA,n145 -> lB,n134 -> lC,n103 -> lD,n101 -> lE
open Go.Op renaming shift -> lF
open Ne renaming symm -> lO
def I{α:Sort _}{a:α}:a=a:=.refl a
def O{p:Prop}(h:p:=by omega):p:=h
def wj{p:Prop}(h:p:=by kernel_rfl):p:=h
def wi{p q:Prop}(h:p)(k:p->q:=by intro;omega):q:=k h
def wk{p:Prop}(h:p:=by decide):p:=h
def wm{p:Prop}(h:p:=by decide +kernel):p:=h
def wu{p:Prop}(h:p:=by rfl):p:=h
def wv{p:Prop}(h:p:=by simp):p:=h
def wy{p:Prop}(h:p:=by simp;omega):p:=h
def wz{α:Sort _}{G:α->Prop}(a:α)(_:G a):True:=trivial
def w7{α:Sort _}{G:α->Prop}(a:α)(h:G a):G a:=h
def w8{α:Sort _}{G H:α->Prop}(a:α)(h:G a/\H a):G a:=h.1
def w9{α:Sort _}{G H:α->Prop}(a:α)(h:G a/\H a):H a:=h.2
def tA{α:Type _}{l:List α}:er l l:=.refl l
def tB{α:Type _}{l:List α}:er [] l:=eG l
def tC{α:Type _}{a:α}{l:List α}:er [a] (a::l):=.cons_cons _ (eG _)
def tD{α:Type _}{a b:α}{l:List α}:er [a,b] (a::b::l):=.cons_cons _ (.cons_cons _ (eG _))
def tE{α:Type _}{a b c:α}{l:List α}:er [a,b,c] (a::b::c::l):=.cons_cons _ (.cons_cons _ (.cons_cons _ (eG _)))
def tF{α:Type _}{a b:α}(h:a=b:=by kernel_rfl):some a=some b:=congrArg some h
namespace Go.Proofs.YtphlgddkpboamaaGreatDoor
variable{w w' w0:World}{B E N b bytes i j k off s:Nat}{a:Act}{args c cs l' news vs z:List Value}{o:Obj}{ds la post u:List Int}{A0 A1 A2 A3 A4 A5 A6 A7 A8 A9 α γ ι:Type}{T T' e t ty yT:TypeId}{ops:Array Oper}{Q Q':Exit->Act->World->Prop}{g:Bool}{K:Act->World->Prop}{x y:Operand}{bs bs' bs0:List (Nat×Obj)}{q:Option Addr}{P:Program}{f:Obj->List (Nat×Obj)}{fn:Func}{aft:Array Edge}{x1:Nat×Obj}{v1 v3 v4 v5 x2 x3 x4 x5 x6 x7 x8:Value}{ps:List (Nat×Value)}{rs:List ResultVar}{k':IntKind}{pl:List (Nat×Nat)}{h:Int}
open Go.RowKit
structure BA(α:Type) where
 val:α->Value
 ty:TypeId
instance{α:Type}:CoeFun (BA α) (λ_=>α->Value):=⟨BA.val⟩
def JM:BA Int:=⟨λx=>.int .u64 x,283⟩
def Yy(w:World)(b:Nat)(E:TypeId):Prop:=∃c fr,w.heap[b]?=some (.cells c E fr)
theorem Yy.lt(h:Yy w b E):b<w.heap.size:=by
 obtain⟨c,fr,h⟩:=h;rcases aM b w.heap.size with g | g
 ·exact g
 rw[aS g]at h;cases h
theorem Yy.uniq{E':Nat}(h:Yy w b E)(h':Yy w b E'):E=E':=by
 obtain⟨c,fr,h⟩:=h;obtain⟨c',fr',h'⟩:=h';rw[h]at h';cases h';rfl
def Row{α:Type}[Inhabited α](w:World)(b off:Nat)(enc:BA α)(l:List α):Prop:=∀i,i<l.length->w.cell? ⟨b,off+i,none⟩=some (enc (l.getD i default))
abbrev Ext(w w':World):Prop:=Below w.heap.size w w'
theorem Ext.refl(w:World):Ext w w:=Below.refl _ _
def Ext.trans{a b c:World}(h:Ext a b)(k:Ext b c):Ext a c:=Below.trans h (Below.mono k h.size)
def Ext.vD{a:World}(h:Ext a w)(h1:w'.os=w.os)(h2:w'.tape=w.tape)(h3:w'.output=w.output)(h4:w.heap.size<=w'.heap.size)(h5:∀i,i<a.heap.size->w'.heap[i]?=w.heap[i]?):Ext a w' :=
 ⟨h1.trans h.os,h2.trans h.tape,h3.trans h.output,eu h.size h4,λi hi=>(h5 i hi).trans (h.block i hi)⟩
def Ext.alloc{a:World}(h:Ext a w)(o:Obj):Ext a (w.alloc o):=Below.alloc h h.size o
def Ext.drew{a:World}(h:Ext a w):Ext a w.drew:=Below.drew h
def Ext.drewN{a:World}(h:Ext a w)(n:Nat):Ext a (w.drewN n):=⟨h.os,h.tape,h.output,h.size,h.block⟩
def Ext.cell(h:Ext w w'){p:Addr}{v:Value}(hv:w.cell? p=some v):w'.cell? p=some v:=by
 rw[Below.cell h (fT w p hv)];exact hv
def Ext.XR{a:World}(h:Ext a w){p:Addr}(hp:a.heap.size<=p.block)(u:Value):Ext a (w.setCell p u):=aY h hp u
theorem Yy.ext(h:Yy w b E)(k:Below w.heap.size w w'):Yy w' b E:=by
 obtain⟨c,fr,e⟩:=id h;exact⟨c,fr,by rw[k.block b h.lt];exact e⟩
def Cells{α:Type}[Inhabited α](w:World)(q:Option Addr)(enc:BA α)(l:List α):Prop :=
 ∀i,i<l.length->∃b off,q=some ⟨b,off,none⟩/\Yy w b enc.ty/\w.cell? ⟨b,off+i,none⟩=some (enc (l.getD i default))
theorem XM{o b' o':Nat}{v u:Value}(h:b≠b')(hc:w.cell? ⟨b,o,none⟩=some u):(w.setCell ⟨b',o',none⟩ v).cell? ⟨b,o,none⟩=some u:=by
 rw[World.cell?_setCell_other _ _ _ _ (λe=>h (congrArg Addr.block e).symm)];exact hc
def SL{α:Type}[Inhabited α](w:World)(v:Value)(enc:BA α)(l:List α):Prop :=
 ∃q cap,v = .slice q l.length cap/\l.length<=cap/\(cap:Int)<=9223372036854775807/\Cells w q enc l
theorem Cells.ext[Inhabited α]{w w':World}(h:Ext w w'){q:Option Addr}{enc:BA α}{l:List α}(hr:Cells w q enc l):Cells w' q enc l:=by
 intro i hi;obtain⟨b,off,h1,h2,h3⟩:=hr i hi;exact⟨b,off,h1,h2.ext h,h.cell h3⟩
theorem SL.ext[Inhabited α]{w w':World}(h:Ext w w'){v:Value}{enc:BA α}{l:List α}(hs:SL w v enc l):SL w' v enc l:=by
 obtain⟨q,cap,h1,h2,h3,h4⟩:=hs;exact⟨q,cap,h1,h2,h3,h4.ext h⟩
def SL.nil[Inhabited α](w:World)(enc:BA α):SL w (.slice none 0 0) enc ([]:List α) :=
 ⟨none,0,rfl,ay _,wk,λi hi=>by cases hi⟩
theorem Cells.take[Inhabited α]{w:World}{q:Option Addr}{enc:BA α}{l:List α}(hr:Cells w q enc l)(n:Nat):Cells w q enc (l.take n):=by
 intro i hi;have h1:i<l.length:=by rw[ao]at hi;omega
 have h2:i<n:=by rw[ao]at hi;omega
 have e:(l.take n).getD i default=l.getD i default:=by simp[ew,h2]
 rw[e];exact hr i h1
theorem Row.cells[Inhabited α]{w:World}{b off:Nat}{enc:BA α}{l:List α}(hr:Row w b off enc l)(hb:Yy w b enc.ty):Cells w (some ⟨b,off,none⟩) enc l :=
 λi hi=>⟨b,off,rfl,hb,hr i hi⟩
def Zy{α:Type}(w:World)(b:Nat)(E:TypeId)(enc:BA α)(l:List α):Prop:=w.heap[b]?=some (.cells (l.map enc.val).toArray E (0,0))
def Zy.cell[Inhabited α]{w:World}{b E:Nat}{enc:BA α}{l:List α}(h:Zy w b E enc l){i:Nat}(hi:i<l.length):w.cell? ⟨b,i,none⟩=some (enc (l.getD i default)):=by
 have h':w.heap[b]?=some (.cells (l.map enc.val).toArray E (0,0)):=h;simp[eW,h',hi,ew]
def Zy.frozen{enc:BA α}{l:List α}(h:Zy w b E enc l)(i:Nat):w.frozen? ⟨b,i,none⟩=false:=by
 have h':w.heap[b]?=some (.cells (l.map enc.val).toArray E (0,0)):=h;simp[fR,h']
theorem Zy.lt{enc:BA α}{l:List α}(h:Zy w b E enc l):b<w.heap.size:=by
 have h':w.heap[b]?=some (.cells (l.map enc.val).toArray E (0,0)):=h;rcases aM b w.heap.size with g | g
 ·exact g
 rw[aS g]at h';cases h'
def Zy.set{enc:BA α}{l:List α}(h:Zy w b E enc l)(i:Nat)(x:α):Zy (w.setCell ⟨b,i,none⟩ (enc x)) b E enc (l.set i x):=by
 have h':w.heap[b]?=some (.cells (l.map enc.val).toArray E (0,0)):=h;have hs:(l.set i x).map enc.val=(l.map enc.val).set i (enc x):=List.map_set;unfold Zy fb;simp[bP,h',hs]
def Zy.ext{enc:BA α}{l:List α}(h:Zy w b E enc l)(k:Ext w w'):Zy w' b E enc l:=by
 have:=k.block b h.lt;unfold Zy;rw[this];exact h
theorem Zy.row[Inhabited α]{w:World}{b E:Nat}{enc:BA α}{l:List α}(h:Zy w b E enc l):Row w b 0 enc l:=by
 intro i hi;rw[eQ];exact h.cell hi
def Zy.new(w:World)(E:Nat)(enc:BA α)(l:List α)(c:Array Value)(hc:c=(l.map enc.val).toArray):Zy (w.alloc (.cells c E)) w.heap.size E enc l:=by
 subst hc;show(w.heap.push _)[w.heap.size]?=_;simp
def Zy.QGO(w:World)(b E:Nat)(enc:BA α)(l:List α)(c:Array Value)(hc:c=(l.map enc.val).toArray)(hb:b=w.heap.size):Zy (w.alloc (.cells c E)) b E enc l:=by
 subst hb;exact Zy.new w E enc l c hc
def Zy.drew{enc:BA α}{l:List α}(h:Zy w b E enc l):Zy w.drew b E enc l:=h
theorem Zy.made(w:World)(E:Nat)(enc:BA α)(x:α)(n:Nat)(z:Value)(hz:z=enc x):Zy (w.alloc (.cells (madeCells #[z] n) E)) w.heap.size E enc (ai n x):=by
 refine Zy.new w E enc _ _ ?_;subst hz;apply lT
 ·simp[madeCells]
 intro i h1 h2;simp[madeCells,Nat.mod_one]
def Zy.E4{enc:BA α}{l:List α}(h:Zy w b E enc l):Yy w b E:=⟨_,_,h⟩
def SL.Wn[Inhabited α]{w:World}{b:Nat}{enc:BA α}{l:List α}(h:Zy w b enc.ty enc l)(n:Nat)(hn:n<=l.length)(hm:(l.length:Int)<=9223372036854775807):
  SL w (.slice (some ⟨b,0,none⟩) n l.length) enc (l.take n) :=
 ⟨_,l.length,by rw[ao,aZ hn],by rw[ao];omega,hm,(h.row.cells h.E4).take n⟩
def Bx(w:World)(b:Nat)(T:TypeId)(cs:List Value):Prop:=w.heap[b]?=some (.cells cs.toArray T (0,0))
def Bx.new(w:World)(T:TypeId)(c:Array Value):Bx (w.alloc (.cells c T)) w.heap.size T c.toList:=by
 show(w.heap.push _)[w.heap.size]?=_;simp
theorem Bx.lt{T:Nat}(h:Bx w b T cs):b<w.heap.size:=by
 have h':w.heap[b]?=some (.cells cs.toArray T (0,0)):=h;rcases aM b w.heap.size with g | g
 ·exact g
 rw[aS g]at h';cases h'
def Bx.ext{T:Nat}(h:Bx w b T cs)(k:Ext w w'):Bx w' b T cs:=by
 unfold Bx;rw[k.block b h.lt];exact h
def Bx.alloc{T:Nat}(h:Bx w b T cs)(o:Obj):Bx (w.alloc o) b T cs:=h.ext ((Ext.refl w).alloc o)
def Bx.drew{T:Nat}(h:Bx w b T cs):Bx w.drew b T cs:=h
def Bx.at{T:Nat}(h:Bx w b T cs)(i:Nat)(c:Value)(hi:cs[i]?=some c):w.cell? ⟨b,i,none⟩=some c:=by
 have h':w.heap[b]?=some (.cells cs.toArray T (0,0)):=h;simp[eW,h',hi]
def Bx.free{T:Nat}(h:Bx w b T cs)(i:Nat):w.frozen? ⟨b,i,none⟩=false:=by
 have h':w.heap[b]?=some (.cells cs.toArray T (0,0)):=h;simp[fR,h']
def Bx.two{T:Nat}{c0 c1:Value}(h:Bx w b T [c0,c1]):w.cell? ⟨b,0,none⟩=some c0/\w.cell? ⟨b,1,none⟩=some c1/\w.frozen? ⟨b,0,none⟩=false/\w.frozen? ⟨b,1,none⟩=false :=
 ⟨h.at 0 c0 rfl,h.at 1 c1 rfl,h.free 0,h.free 1⟩
def Bx.E4{T:Nat}(h:Bx w b T cs):Yy w b T:=⟨_,_,h⟩
def DT(E:TypeId):Prop:=E=283\/E=3
instance(E:TypeId):Decidable (DT E):=by unfold DT;infer_instance
structure Kp(w w':World):Prop where
 size:w.heap.size<=w'.heap.size
 block:∀b E,Yy w b E->DT E->w'.heap[b]?=w.heap[b]?
def Kp.refl(w:World):Kp w w:=⟨ay _,λ_ _ _ _=>rfl⟩
theorem Kp.trans{a b c:World}(h:Kp a b)(k:Kp b c):Kp a c :=
 ⟨eu h.size k.size,λi E hi hE=>by
  have e:=h.block i E hi hE;have hi':Yy b i E:=by obtain⟨x,fr,hx⟩:=hi;exact⟨x,fr,by rw[e];exact hx⟩
  exact(k.block i E hi' hE).trans e⟩
theorem Kp.set{a:World}(h:Kp a w){R T:Nat}(hT:Yy w R T)(hD:¬DT T)(i:Nat)(v:Value):Kp a (w.setCell ⟨R,i,none⟩ v) :=
 h.trans ⟨by simp[fb],λb E hb hE=>fe _ _ _ _ (by rintro rfl;exact hD ((hb.uniq hT) ▸ hE))⟩
theorem Yy.set{T:Nat}(h:Yy w b T)(R i:Nat)(v:Value):Yy (w.setCell ⟨R,i,none⟩ v) b T:=by
 obtain⟨c,fr,h⟩:=h;by_cases e:b=R
 ·subst e;exact⟨_,_,by unfold fb;simp[bP,h];exact⟨rfl,rfl⟩⟩
 exact⟨c,fr,by rw[fe _ _ _ _ e];exact h⟩
theorem Yy.kp(h:Yy w b E)(k:Kp w w')(hE:DT E):Yy w' b E:=by
 obtain⟨c,fr,e⟩:=id h;exact⟨c,fr,by rw[k.block b E h hE];exact e⟩
theorem Cells.kp[Inhabited α]{w w':World}(k:Kp w w'){q:Option Addr}{enc:BA α}(hE:DT enc.ty){l:List α}(hr:Cells w q enc l):Cells w' q enc l:=by
 intro i hi;obtain⟨b,off,h1,h2,h3⟩:=hr i hi;exact⟨b,off,h1,h2.kp k hE,by rw[ic (w:=w) (k.block b _ h2 hE)];exact h3⟩
open Go
section
variable{P:Program}{md:bm}
def Kl(md:bm)(ops:Array Oper)(n:Nat):Bool :=
 (fJ n).all λi=>match ops[i]? with
  |some o=>o.after.all λe=>!Region.binds md e||decide (e.on<i)
  |none=>false
theorem Xa{n:Nat}(h:Kl md ops n=true){i:Nat}(hi:i<n):∃o,ops[i]?=some o/\∀e∈o.after,aE md e=true->e.on<i:=by
 have h1:=List.all_eq_true.1 h i (List.mem_range.2 hi);cases ho:ops[i]? with
 |none=>simp_all
 |some o =>
  rw[ho]at h1;refine⟨o,rfl,λe he hb=>?_⟩;have h2:=Array.all_eq_true_iff_forall_mem.1 h1 e he;simp_all
def Kr(n m:Nat):Array Bool:=(il m).map λi=>decide (i<n)
theorem SV{n m:Nat}{listed:Array Bool}(hs:listed.size=m)(h1:∀i,i<n->i<m->listed.getD i false=true)(h2:∀i,n<=i->i<m->listed.getD i false=false):listed=Kr n m:=by
 apply lT
 ·grind[Kr]
 intro i hi hj;have him:i<m:=O;by_cases h:i<n
 all_goals simp_all[Kr]
def Lu(P:Program)(ops:Array Oper)(Q:Exit->Act->World->Prop)(tl:List Oper):Exit->Act->World->Prop
 |.normal,a,w=>wpList P ops Q tl a w
 |e,a,w=>Q e a w
theorem Hr{l:List Oper}{n:Nat}(hi:i<n):(l.take n).toArray[i]?=l.toArray[i]?:=by
 grind
theorem Ek{l:List Oper}{n:Nat}{lh la:Array Bool}(hn:n<l.length)(hs:fU md l.toArray n=true)(hc:fL md l.toArray n=true)(ho:Kl md l.toArray n=true)
  (inv:HeadInv md l.toArray n la) (hsz:lh.size=n) (hrel:∀i,i<n->la.getD i true=lh.getD i true) {k:Nat} (hk:k<n) (hun:lh.getD k true=false) :
  (∀i,i∈aB md l.toArray la↔i∈aB md (l.take n).toArray lh)/\aB md (l.take n).toArray lh≠[]:=by
 have hrel2:∀i,i<n->la.getD i false=lh.getD i false:=by
  intro i hi;have h:=hrel i hi;have h1:i<la.size:=by rw[inv.size];grind
  simp_all
 have hhead:∀i,i<n->(i∈aB md l.toArray la↔i∈aB md (l.take n).toArray lh):=by
  intro i hi;rw[mem_ready,mem_ready,hrel i hi,Hr hi];refine and_congr_right λ_=>exists_congr λo=>and_congr_right λhoi=>?_;obtain⟨o',ho',hed⟩:=Xa ho hi
  grind
 have hex:∃i,i<n/\lh.getD i true=false/\∀j,j<i->lh.getD j true=true:=by
  clear hhead hrel hrel2
  induction k using iS<;>grind
 refine⟨λi=>?_,?_⟩
 ·by_cases hi:i<n
  ·simp_all
  constructor
  ·intro h;exact absurd h (tail_waits hs hc O inv _ k rfl hk (by simp_all) i O)
  intro h;obtain⟨_,o,ho',_⟩:=mem_ready.1 h;simp_all
 obtain⟨i,hi,h1,h2⟩:=hex
 grind[aB,mem_ready,Xa,Hr]
theorem EV:∀(f:Nat) (listed:Array Bool) (a:Act) (w:World),wpAny P md ops Q f listed a w->wpAny P md ops Q (f+1) listed a w
 |0,listed,a,w,h=>⟨λ_=>h.2,λi hi=>(by rw[h.1]at hi;cases hi)⟩
 |f+1,listed,a,w,h=>⟨h.1,λi hi=>wpOp_mono (λa' w' h'=>EV f _ a' w' h') (h.2 i hi)⟩
theorem RO(f:Nat)(listed:Array Bool)(a:Act)(w:World)(g:Nat)(h:wpAny P md ops Q g listed a w):wpAny P md ops Q (f+g) listed a w:=by
 induction f with
 |zero=>simp_all
 |succ f ih=>grind[EV]
def Pj(ops:Array Oper)(n:Nat):Bool :=
 (fJ n).all λi=>match ops[i]? with
  |some o=>(match o.guard with | none=>true | some (g,_)=>decide (g<n))
  |none=>false
theorem N6{l:List Oper}{n g:Nat}(hg:g<n)(t:Array Value):yielded (l.take n).toArray t g=yielded l.toArray t g:=by
 grind[yielded,Hr]
theorem FC{l:List Oper}{n:Nat}{tl:List Oper}(hi:i<n)(hgd:Pj l.toArray n=true)
  (h:wpOp P (l.take n).toArray (Lu P l.toArray Q tl) i K a w):wpOp P l.toArray Q i K a w:=by
 unfold wpOp at *
 rw[Hr hi]at h;cases ho:l.toArray[i]? with
 |none=>simp_all
 |some o =>
  simp_all;have hw:ar o (yielded (l.take n).toArray a.tmps)=ar o (yielded l.toArray a.tmps):=by
   have h1:=List.all_eq_true.1 hgd i (List.mem_range.2 hi);unfold ar;cases hg:o.guard with
   |none=>rfl
   |some gw =>
    grind[N6]
  rw[hw]at h;trivial
theorem RN{l:List Oper}{n:Nat}(hn:n<l.length)(hs:fU md l.toArray n=true)(hc:fL md l.toArray n=true)(ho:Kl md l.toArray n=true)
  (hgd:Pj l.toArray n=true) (hseq:iW md l.toArray (l.length-n) n (Kr n l.length)=true) :
  ∀(f:Nat) (lh la:Array Bool) (a:Act) (w:World),HeadInv md l.toArray n la->lh.size=n->(∀i,i<n->la.getD i true=lh.getD i true) ->
   wpAny P md (l.take n).toArray (Lu P l.toArray Q (l.drop n)) f lh a w->wpAny P md l.toArray Q (f+(l.length-n)) la a w:=by
 have fin:∀(f:Nat) (lh la:Array Bool) (a:Act) (w:World),HeadInv md l.toArray n la->lh.size=n->(∀i,i<n->la.getD i true=lh.getD i true) ->
   aB md (l.take n).toArray lh=[]->wpList P l.toArray Q (l.drop n) a w->wpAny P md l.toArray Q (f+(l.length-n)) la a w:=by
  intro f lh la a w inv hsz hrel hr h;have hall:∀i,i<n->lh.getD i true=true:=by
   intro i hi;cases hv:lh.getD i true with
   |true=>rfl
   |false=>grind[absurd,Ek]
  have hla:la=Kr n l.length:=by
   refine SV (by simpa using inv.size) (λi hi hi2=>?_) λi hi hi2=>?_
   ·have h1:=(hrel i hi).trans (hall i hi);have h2:i<la.size:=by rw[inv.size];omega
    simp_all
   exact getD_both (inv.tail i hi O)
  subst hla;refine RO f _ _ _ _ ?_;have:=wpAny_of_seq (l.drop n) n (Kr n l.length) a w (λj=>wv) (by simpa using hseq) h;simp_all
 intro f
 induction f with
 |zero=>intro lh la a w inv hsz hrel h;exact fin 0 lh la a w inv hsz hrel h.1 h.2
 |succ f ih =>
  intro lh la a w inv hsz hrel h;by_cases hr:aB md (l.take n).toArray lh=[]
  ·exact fin (f+1) lh la a w inv hsz hrel hr (h.1 hr)
  obtain⟨k,hk⟩:=List.exists_mem_of_ne_nil _ hr;have hk2:=(mem_ready.1 hk);have hkn:k<n:=by
   grind
  have hiff:=(Ek hn hs hc ho inv hsz hrel hkn hk2.1).1;rw[show f+1+(l.length-n)=(f+(l.length-n))+1 by omega];refine⟨λh0=>absurd ((hiff k).2 hk) (by simp_all),λi hi=>?_⟩;have hi':=(hiff i).1 hi;have hin:i<n:=by
   obtain⟨_,o,ho',_⟩:=mem_ready.1 hi'
   grind
  have h2:=FC hin hgd (h.2 i hi');refine wpOp_mono (λa' w' h3=>ih _ _ a' w' (inv.set hi hin) (by simp_all) (λj hj=>?_) h3) h2;by_cases hij:i=j
  ·simp_all
  simp_all
def Ec(l:List Oper)(n:Nat):Bool :=
 decide (n<l.length)&&fU .any l.toArray n&&fL .any l.toArray n&&Kl .any l.toArray n&&Pj l.toArray n&&iW .any l.toArray (l.length-n) n (Kr n l.length)
theorem DF{id:Nat}{l:List Oper}(n:Nat)(hm:P.follows .mixedOrders=true)(hB:Ec l n=true)
  (h:wpAny P .any (l.take n).toArray (Lu P l.toArray Q (l.drop n)) n (fv n false) a { w with drawn:=w.drawn+1 }):(iw id l.toArray true).wp P Q a w:=by
 simp[Ec,bU,decide_eq_true_eq]at hB;obtain⟨⟨⟨⟨⟨hn,hs⟩,hc⟩,ho⟩,hg⟩,hseq⟩:=hB;refine wp_region_any hm ?_;have QBs:HeadInv .any l.toArray n (fv l.toArray.size false) :=
  ⟨wv,λj oj _ hl=>(by grind[getD_replicate_false]),λt _ ht=>getD_in (by simp_all) (getD_replicate_false _ _)⟩
 have:=RN hn hs hc ho hg hseq n _ _ a { w with drawn:=w.drawn+1 } QBs wv
  (λi hi=>by
   have h1:i<l.length:=O;simp_all) h
 grind
def Jb:Op->Bool
 |.move _ | .assign _ | .pick .. | .nilCheck _ | .binOp .. | .unOp .. | .convert .. | .fieldAddr .. | .field .. | .indexAddr .. | .index .. | .extract .. | .slice .. | .build .. | .load .. | .makeFunc .. | .lookup ..=>true
 |.call { callee:=.builtin b,.. }=>match b with | .len | .cap | .min | .max=>true | _=>false
 |_=>false
section
variable{ops:Array Oper}{Q:Exit->Act->World->Prop}{S:World->Prop}
def Ml(P:Program)(ops:Array Oper)(Q:Exit->Act->World->Prop)(S:World->Prop):List Nat->Act->World->Prop
  | [],a,w=>Q .normal a w
  | i::r,a,w=>∃o,ops[i]?=some o /\
      ((Jb o.op=true/\∃v,YieldsIf P ops S o v a/\Ml P ops Q S r (a.put o.dst v) w) \/
       (Jb o.op=false/\wpOp P ops (λ_ _ _=>False) i (λa' w'=>S w'/\Ml P ops Q S r a' w') a w))
theorem jA{o:Oper}(hi:ops[i]?=some o)(h:wpOp P ops (λ_ _ _=>False) i K a w):
  ∃u w' d,K ({ a with defers:=d }.put o.dst u) w':=by
 unfold wpOp at h;simp_all;split at h
 ·rcases h with h | ⟨_,_,_,h⟩
  ·unfold eC at h;generalize (execOp _ o).run P w=r at *
   cases r with
   |ok n w' =>
    cases n<;>simp[bT]at h
    case value u=>exact⟨u,w',a.defers,h⟩
    case skip=>exact⟨undef,w',a.defers,h⟩
    case defer d=>grind
    case enter f args =>
     obtain⟨e,w'',fr,hR,_⟩:=h [];cases e with
     |returned u=>exact⟨u,w'',a.defers,hR⟩
     |panicked c=>trivial
     |outgrown=>obtain⟨_,_,h⟩:=hR;trivial
    case row row args =>
     obtain⟨u,w'',hR,_⟩:=h default [];exact⟨u,w'',a.defers,hR⟩
   |halt x w'=>cases x<;>simp[bT]at h<;>exact h.elim
  trivial
 exact⟨undef,w,a.defers,h⟩
theorem RL{oi oj:Oper}{v:Value}(hj:ops[j]?=some oj)(hap:oi.apart ops oj=true)(hsj:∀cs b,oj.op≠.select cs b)
  {K:Act->World->Prop} {a:Act} {w:World} (h:wpOp P ops (λ_ _ _=>False) j (λa' w'=>K (a'.put oi.dst v) w') a w) :
  wpOp P ops (λ_ _ _=>False) j K (a.put oi.dst v) w:=by
 obtain⟨h1,h2,h3⟩:=fB hap;unfold wpOp at *
 simp only[hj]at *
 rw[wanted_put oj a _ v h1];split
 ·rename_i hw;simp[hw,if_true]at h;rcases h with h | ⟨hasks,hlets⟩
  case inr=>exact .inr ⟨by unfold Oper.asks at *;rw[execOp_put oj hsj a _ v h1];omega,hlets⟩
  refine .inl ?_;unfold eC at *
  rw[execOp_put oj hsj a _ v h1];generalize (execOp _ oj).run P w=r at *
  cases r with
  |ok n w' =>
   cases n<;>simp[bT]at h ⊢
   all_goals grind[ij,undef,Act.put_defers,fF,Rows.mono]
  |halt x w'=>cases x<;>simp[bT]at h ⊢
 grind[ij,undef]
theorem YieldsIf.uniq{o:Oper}{v v':Value}(hS:S w)(h:YieldsIf P ops S o v a)(h':YieldsIf P ops S o v' a):v=v':=by
 rcases h with ⟨h1,h2⟩ | ⟨h1,h2⟩<;>rcases h' with ⟨g1,g2⟩ | ⟨g1,g2⟩
 all_goals grind
theorem BR{x y:Oper}(h:x.apart ops y=true):y.apart ops x=true:=by
 obtain⟨h1,h2,h3⟩:=fB h;unfold Oper.apart
 grind
theorem Gx{j:Nat}{oj:Oper}{post:List Nat}(hoj:ops[j]?=some oj)(hq:Jb oj.op=true)(hsel:∀(j:Nat) (o:Oper) cs b,ops[j]?=some o->o.op≠.select cs b):
  ∀(pre:List Nat) (a:Act) (w:World),(∀k∈pre,∀ok,ops[k]?=some ok->oj.apart ops ok=true)->Ml P ops Q S (pre++j::post) a w ->
   ∃v,YieldsIf P ops S oj v a/\Ml P ops Q S (pre++post) (a.put oj.dst v) w
 |[],a,w,_,h=>by
  obtain⟨o,ho,h⟩:=h;simp_all
 |k::pre,a,w,hap,h=>by
  obtain⟨ok,hok,h⟩:=h;have hk:=hap k wv ok hok;obtain⟨p1,p2,p3⟩:=fB hk;rcases h with ⟨hqk,vk,hyk,h⟩ | ⟨hqk,h⟩
  ·obtain⟨v,hy,h⟩:=Gx hoj hq hsel pre _ w (λi hi=>hap i (by grind)) h;have hy':YieldsIf P ops S oj v a:=by
    refine hy.of_same ?_ ?_
    ·exact(execOp_put oj (λcs b=>hsel j oj cs b hoj) a _ vk p3).symm
    grind[wanted_put]
   refine⟨v,hy',ok,hok,.inl ⟨hqk,vk,?_,?_⟩⟩
   ·refine hyk.of_same ?_ ?_
    ·exact execOp_put ok (λcs b=>hsel k ok cs b hok) a _ v p1
    grind[wanted_put]
   rw[ij a v vk p2];exact h
  have h2:=wpOp_mono (λa' w' (h:S w'/\Ml P ops Q S _ a' w')=>(⟨h.1,Gx hoj hq hsel pre a' w' (λi hi=>hap i (by grind)) h.2⟩ :
   S w'/\∃v,YieldsIf P ops S oj v a'/\Ml P ops Q S _ _ w')) h
  obtain⟨u,w1,d,hS1,v0,hy0,_⟩:=jA hok h2;have back:∀(d:List _) (u v:Value),YieldsIf P ops S oj v ({ a with defers:=d }.put ok.dst u)->YieldsIf P ops S oj v a:=λd u v hy=>by
   refine hy.of_same ?_ ?_
   ·rw[execOp_put oj (λcs b=>hsel j oj cs b hoj) _ _ u p3];rfl
   grind[wanted_put]
  have hya:=back d u v0 hy0;refine⟨v0,hya,ok,hok,.inr ⟨hqk,?_⟩⟩;refine RL hok hk (λcs b=>hsel k ok cs b hok) ?_;have h3:wpOp P ops (λ_ _ _=>False) k (λa' w'=>(YieldsIf P ops S oj v0 a')/\(S w'/\∃v,YieldsIf P ops S oj v a'/\Ml P ops Q S (pre++post) (a'.put oj.dst v) w')) a w:=by
   have TN:∀(u:Value),YieldsIf P ops S oj v0 _:=λu=>by
    refine hya.of_same ?_ ?_
    ·exact execOp_put oj (λcs b=>hsel j oj cs b hoj) a ok.dst u p3
    grind[wanted_put]
   have keepd:∀(d:Deferred) (u:Value),YieldsIf P ops S oj v0 ({ a with defers:=d::a.defers }.put ok.dst u):=λd u=>by
    refine hya.of_same ?_ ?_
    ·rw[execOp_put oj (λcs b=>hsel j oj cs b hoj) _ ok.dst u p3];rfl
    grind[wanted_put]
   clear h;unfold wpOp at h2 ⊢;simp only[hok]at h2 ⊢;split
   ·rename_i hw;simp only[hw,if_true]at h2;rcases h2 with h2 | h2
    case inr=>simp_all
    refine .inl ?_;unfold eC at *
    generalize (execOp a.eval ok).run P w=r at *
    simp_all[bT,fF,Rows.mono]
   simp_all
  refine wpOp_mono (λa' w' h=>?_) h3;obtain⟨hy,hS,v,hy2,hl⟩:=h;have:v=v0:=YieldsIf.uniq hS hy2 hy;simp_all
end
section
variable{ops:Array Oper}{Q:Exit->Act->World->Prop}{S:World->Prop}
theorem Mw(h:wpOp P ops (λ_ _ _=>False) i K a w):wpOp P ops Q i K a w:=by
 unfold wpOp at *
 cases ho:ops[i]? with
 |none=>simp_all
 |some o =>
  simp_all;split
  ·rename_i hw;rw[if_pos hw]at h;rcases h with h | ⟨_,_,_,h⟩
   ·refine .inl ?_;unfold eC at *
    generalize (execOp _ o).run P w=r at *
    cases r with
    |ok n w' =>
     cases n<;>simp[bT]at h ⊢
     all_goals first
      |exact h
      |exact fF h λe w'' he=>by
        cases e with
        |returned u=>exact he
        |panicked c=>trivial
        |outgrown=>obtain⟨_,_,h⟩:=he;trivial
    |halt x w'=>cases x<;>simp[bT]at h ⊢
   trivial
  simp_all
def Gw(md:bm)(acc:List Nat)(o:Oper):Nat:=o.after.foldl (λs e=>if aE md e then s ||| 2^e.on ||| acc.getD e.on 0 else s) 0
def NT(md:bm)(ops:List Oper):List Nat:=ops.foldl (λacc o=>acc++[Gw md acc o]) []
theorem E7{md:bm}{acc:List Nat}:∀(l:List Edge) (s:Nat),(l.foldl (λs e=>if aE md e then s ||| 2^e.on ||| acc.getD e.on 0 else s) s).testBit i=true ->
  s.testBit i=true\/∃e∈l,aE md e=true/\(i=e.on\/(acc.getD e.on 0).testBit i=true)
 |[],s,h=>.inl h
 |e::l,s,h=>by
  rcases E7 l _ h with h | ⟨e',he',h⟩
  all_goals grind
theorem SB{md:bm}{acc:List Nat}{o:Oper}(h:(Gw md acc o).testBit i=true):∃e∈o.after,aE md e=true/\(i=e.on\/(acc.getD e.on 0).testBit i=true):=by
 unfold Gw at h;rw[<-ff]at h;rcases E7 _ _ h with h | ⟨e,he,h⟩
 all_goals grind
theorem NS(md:bm):∀(l:List Oper) (acc:List Nat),∃r,l.foldl (λacc o=>acc++[Gw md acc o]) acc=acc++r/\r.length=l.length /\
  ∀k o,l[k]?=some o->r[k]?=some (Gw md (acc++r.take k) o)
 |[],acc=>⟨[],wv,rfl,λk o h=>by grind⟩
 |o::l,acc=>by
  obtain⟨r,h1,h2,h3⟩:=NS md l (acc++[Gw md acc o]);refine⟨Gw md acc o::r,by grind,by grind,λk o' h=>?_⟩;cases k<;>simp_all
theorem T8{md:bm}{l:List Oper}{o:Oper}(ho:l[k]?=some o)(hord:∀e∈o.after,aE md e=true->e.on<k)(h:((NT md l).getD k 0).testBit i=true):
  ∃e∈o.after,aE md e=true/\(i=e.on\/((NT md l).getD e.on 0).testBit i=true):=by
 obtain⟨r,h1,h2,h3⟩:=NS md l []
 grind[NT,ew,SB,id,aM]
def lexB(md:bm)(l:List Oper):Bool :=
 let ms:=NT md l
 Region.noSelect l.toArray&&Kl md l.toArray l.length&&(fJ l.length).all λj=>match l[j]? with
  |none=>false
  |some oj=>(fJ j).all λi=>match l[i]? with
   |none=>false
   |some oi=>if Jb oi.op||Jb oj.op then(bF md l.toArray j i||oi.apart l.toArray oj)else(ms.getD j 0).testBit i
theorem BJ{l:List Oper}(h:lexB md l=true){i j:Nat}(hij:i<j){oi oj:Oper}(hi:l[i]?=some oi)(hj:l[j]?=some oj):
  if Jb oi.op||Jb oj.op then(bF md l.toArray j i||oi.apart l.toArray oj)=true else((NT md l).getD j 0).testBit i=true:=by
 simp[lexB,bU]at h
 grind
theorem SA{l:List Oper}{listed:Array Bool}(hord:Kl md l.toArray l.length=true)(hcl:∀j oj,l.toArray[j]?=some oj->listed.getD j false=true->∀e∈oj.after,aE md e=true->listed.getD e.on false=true):
  ∀(k:Nat) (o:Oper),l[k]?=some o->(∀e∈o.after,aE md e=true->listed.getD e.on false=true)->∀i,((NT md l).getD k 0).testBit i=true->listed.getD i false=true:=by
 intro k
 induction k using iS with
 |_ k ih =>
  intro o ho hd i hi;have hk:k<l.length:=by grind
  obtain⟨o',ho',hed⟩:=Xa hord hk;have:o'=o:=bz (ho'.symm.trans (by simp_all));subst this;obtain⟨e,he,hb,h⟩:=T8 ho hed hi
  grind
theorem jn{l:List Oper}(hB:lexB md l=true)(hQ:∀c a d v w,Q (.panic c) (iN a d v) w->Q (.panic c) a w):
  ∀(m:Nat) (r:List Nat) (listed:Array Bool) (a:Act) (w:World),r.length=m->r.Pairwise (·<·)->(∀i,i∈r↔i<l.length/\listed.getD i true=false)->listed.size=l.length ->
   (∀j oj,l.toArray[j]?=some oj->listed.getD j false=true->∀e∈oj.after,aE md e=true->listed.getD e.on false=true)->S w->Ml P l.toArray Q S r a w->wpAnyH P md l.toArray Q S m listed a w:=by
 have hB':=hB;simp only[lexB,bU]at hB';obtain⟨⟨hns,hord⟩,_⟩:=hB';have hsel:=Region.noSelect_spec hns;intro m
 induction m with
 |zero =>
  intro r listed a w hm hs hr hsz hcl hS h;have:r=[]:=List.length_eq_zero_iff.1 hm;subst this;refine⟨?_,h⟩;rw[List.eq_nil_iff_forall_not_mem];intro i hi;obtain⟨h1,o,ho,_⟩:=mem_ready.1 hi
  grind
 |succ m ih =>
  intro r listed a w hm hs hr hsz hcl hS h
  match r,hm,hs,hr,h with
  |i::r,hm,hs,hr,h =>
  have hil:=(hr i).1 wv;have hmin:∀j,j<i->listed.getD j false=true:=by
   intro j hj;cases hv:listed.getD j false with
   |true=>rfl
   |false =>
    have hjl:j<l.length:=O;have:=(hr j).2 ⟨hjl,getD_in O hv⟩;rcases List.mem_cons.1 this with e | e
    ·omega
    have:=(List.pairwise_cons.1 hs).1 j e;omega
  obtain⟨oi,hoi,hed⟩:=Xa hord hil.1;have hri:i∈aB md l.toArray listed:=mem_ready.2 ⟨hil.2,oi,hoi,λe he hb=>hmin _ (hed e he hb)⟩;have next:∀j,j∈aB md l.toArray listed->j∈(i::r)->∀a' w',S w'->Ml P l.toArray Q S ((i::r).erase j) a' w'->wpAnyH P md l.toArray Q S m (listed.setIfInBounds j true) a' w':=by
   intro j hj hjr a' w' hS' h';have hjsz:j<listed.size:=by grind
   refine ih ((i::r).erase j) _ a' w' (by grind) (hs.sublist List.erase_sublist) (λk=>?_) (by grind) (λk ok hk hl e he hb=>?_) hS' h'
   ·rw[List.Nodup.mem_erase_iff (hs.imp λh=>Nat.ne_of_lt h),hr k];by_cases hjk:j=k
    ·subst hjk;simp
    rw[getD_set_ne true hjk];grind
   by_cases hjk:j=k
   ·subst hjk;obtain⟨_,oj,hoj,hall⟩:=mem_ready.1 hj
    grind[bz,getD_set_true]
   rw[getD_set_ne false hjk]at hl;exact getD_set_true (hcl k ok hk hl e he hb)
  have take:∀j oj,j∈aB md l.toArray listed->l.toArray[j]?=some oj->Jb oj.op=true->j∈(i::r)->wpAnyH P md l.toArray Q S (m+1) listed a w:=by
   intro j oj hj hoj hq hjr;obtain⟨pre,post,hpp⟩:=List.append_of_mem hjr;have hjs:=mem_ready.1 hj;have happ:∀k ok,l.toArray[k]?=some ok->k≠j->listed.getD k true=false->(∀e∈ok.after,aE md e=true->e.on≠j)->oj.apart l.toArray ok=true:=by
    intro k ok hok hkj hun hno;have hnw:bF md l.toArray k j=false:=by
     cases hv:bF md l.toArray k j with
     |false=>rfl
     |true =>
      obtain⟨o',ho',e,he,hb,hon⟩:=fW hv;have:o'=ok:=bz (ho'.symm.trans hok);subst this;exact absurd hon (hno e he hb)
    have hnw2:bF md l.toArray j k=false:=by
     cases hv:bF md l.toArray j k with
     |false=>rfl
     |true =>
      obtain⟨o',ho',e,he,hb,hon⟩:=fW hv;obtain⟨_,o2,ho2,hall⟩:=hjs;have:o'=o2:=bz (ho'.symm.trans ho2);subst this;have:=hall e he hb;rw[hon,getD_both hun]at this;cases this
    rcases Nat.lt_or_gt_of_ne hkj with hlt | hgt
    ·have:=BJ hB hlt (by simpa using hok) (by simpa using hoj);rw[if_pos (by simp[hq]),hnw2]at this;exact BR (by simpa using this)
    have:=BJ hB hgt (by simpa using hoj) (by simpa using hok);rw[if_pos (by simp[hq]),hnw]at this;simpa using this
   have hfront:=Gx (P:=P) (Q:=Q) (S:=S) hoj hq hsel pre a w (post:=post) (λk hk ok hok=>by
    have hkr:k∈(i::r):=by rw[hpp];simp[hk]
    have hkj:k<j:=by
     rw[hpp]at hs;exact(List.pairwise_append.1 hs).2.2 k hk j wv
    refine happ k ok hok O ((hr k).1 hkr).2 (λe he hb heq=>?_);obtain⟨o',ho',hed'⟩:=Xa hord ((hr k).1 hkr).1;have:o'=ok:=bz (ho'.symm.trans hok);subst this;have:=hed' e he hb;omega) (by rw[<-hpp];exact h)
   obtain⟨v,hy,h'⟩:=hfront;have herase:(i::r).erase j=pre++post:=by
    rw[hpp,List.erase_append_right,iv];intro hmem;rw[hpp]at hs;have:=(List.pairwise_append.1 hs).2.2 j hmem j wv;omega
   exact wpAnyH_first hoj hsel (λc a w h=>hQ c a _ v w h) m listed a w happ hj hy hS (next j hj hjr _ w hS (by rw[herase];exact h'))
  by_cases hex:∃j oj,j∈aB md l.toArray listed/\l.toArray[j]?=some oj/\Jb oj.op=true
  ·obtain⟨j,oj,hj,hoj,hq⟩:=hex;have hjl:j<l.length:=by have:=(Array.getElem?_eq_some_iff.1 hoj).1;simpa using this
   exact take j oj hj hoj hq ((hr j).2 ⟨hjl,(mem_ready.1 hj).1⟩)
  have hone:∀j∈aB md l.toArray listed,j=i:=by
   intro j hj;obtain⟨hjun,oj,hoj,hall⟩:=mem_ready.1 hj;have hjl:j<l.length:=by have:=(Array.getElem?_eq_some_iff.1 hoj).1;simpa using this
   have hjr:=(hr j).2 ⟨hjl,hjun⟩;rcases List.mem_cons.1 hjr with e | e
   ·exact e
   have hlt:=(List.pairwise_cons.1 hs).1 j e;have hqj:Jb oj.op=false:=by
    cases hv:Jb oj.op with
    |false=>rfl
    |true=>exact absurd ⟨j,oj,hj,hoj,hv⟩ hex
   have hqi:Jb oi.op=false:=by
    cases hv:Jb oi.op with
    |false=>rfl
    |true=>exact absurd ⟨i,oi,hri,hoi,hv⟩ hex
   have:=BJ hB hlt (by simpa using hoi) (by simpa using hoj);rw[if_neg (by simp[hqi,hqj])]at this;have:=SA hord hcl j oj (by simpa using hoj) hall i this;rw[getD_both hil.2]at this;cases this
  refine⟨λh0=>(by rw[h0]at hri;cases hri),λj hj=>?_⟩;have:=hone j hj;subst this;obtain⟨o,ho,h⟩:=h;have:o=oi:=bz (ho.symm.trans hoi);subst this;rcases h with ⟨hq,_⟩ | ⟨_,h⟩
  ·exact absurd ⟨j,o,hri,ho,hq⟩ hex
  refine Mw (wpOp_mono (λa' w' h=>⟨h.1,?_⟩) h);exact next j hri wv a' w' h.1 (by rw[iv];exact h.2)
end
section
variable{Q:Exit->Act->World->Prop}{S:World->Prop}
def SF(P:Program)(ops:Array Oper)(Q:Exit->Act->World->Prop)(S:World->Prop):List Oper->Act->World->Prop
  | [],a,w=>Q .normal a w
  | o::r,a,w =>
      (Jb o.op=true/\∃v,YieldsIf P ops S o v a/\SF P ops Q S r (a.put o.dst v) w) \/
       (Jb o.op=false/\if ar o (yielded ops a.tmps)then o.wp P a w (λa' w'=>S w'/\SF P ops Q S r a' w') (λ_ _ _=>False)else S w/\SF P ops Q S r (a.put o.dst undef) w)
theorem KJ:∀(l:List Oper) (k:Nat) (a:Act) (w:World),(∀j,j<l.length->l[j]?=ops[k+j]?)->SF P ops Q S l a w->Ml P ops Q S (List.range' k l.length) a w
 |[],k,a,w,_,h=>h
 |o::l,k,a,w,hl,h=>by
  have h0:ops[k]?=some o:=by simpa using(hl 0 wv).symm
  have hl':∀j,j<l.length->l[j]?=ops[k+1+j]?:=λj hj=>by
   have:=hl (j+1) (by grind)
   grind
  refine⟨o,h0,?_⟩;rcases h with ⟨h1,v,h2,h3⟩ | ⟨h1,h2⟩
  ·exact .inl ⟨h1,v,h2,KJ l _ _ w hl' h3⟩
  refine .inr ⟨h1,?_⟩;unfold wpOp;simp[h0];split
  ·rename_i hw;rw[if_pos hw]at h2;exact .inl (Oper.wp_mono (λa' w' h=>⟨h.1,KJ l _ a' w' hl' h.2⟩) h2)
  simp_all[if_neg,KJ]
theorem GU{l:List Oper}(hB:lexB .any l=true)(hQ:∀c a w,¬Q' (.panic c) a w){a:Act}{w:World}(hS:S w)(h:SF P l.toArray Q' S l a w):
  wpAny P .any l.toArray Q' l.length (fv l.length false) a w:=by
 refine wpAny_of_held _ _ _ _ (jn hB (λc a d v w h=>absurd h (hQ c _ w)) _ _ _ a w wv List.pairwise_lt_range' (λi=>?_) wv (λj oj _ hl=>(by grind[getD_replicate_false])) hS (KJ l 0 a w (λj _=>wv) h));simp_all
def XW(K:Act->World->Prop):Exit->Act->World->Prop
 |.normal,a,w=>K a w
 |_,_,_=>False
theorem Oper.Lh{o:Oper}{Q:Exit->Act->World->Prop}(hq:∀e a w,Q e a w->Q' e a w)(h:o.wp P a w K Q):o.wp P a w K Q':=by
 unfold eC at *
 generalize (execOp _ o).run P w=r at *
 cases r with
 |ok n w' =>
  cases n<;>simp[bT]at h ⊢
  all_goals first
   |exact h
   |exact fF h λe w'' he=>by
     cases e with
     |returned u=>exact he
     |panicked c=>simp_all
     |outgrown=>obtain⟨a,w,h⟩:=he;exact⟨a,w,hq _ _ _ h⟩
 |halt x w'=>cases x<;>simp[bT]at h ⊢;simp_all
theorem TY{Q:Exit->Act->World->Prop}(hq:∀e a w,Q e a w->Q' e a w)(h:wpOp P ops Q i K a w):wpOp P ops Q' i K a w:=by
 unfold wpOp at *
 cases ho:ops[i]? with
 |none=>simp_all
 |some o =>
  simp_all;split
  ·rename_i hw;rw[if_pos hw]at h;exact h.imp (Oper.Lh hq) λ⟨h1,a,w,h2⟩=>⟨h1,a,w,hq _ _ _ h2⟩
  simp_all
theorem Kc{Q:Exit->Act->World->Prop}(hq:∀e a w,Q e a w->Q' e a w):∀(f:Nat) (listed:Array Bool) (a:Act) (w:World),wpAny P md ops Q f listed a w->wpAny P md ops Q' f listed a w
 |0,_,_,_,h=>⟨h.1,hq _ _ _ h.2⟩
 |f+1,_,_,_,h=>⟨λh0=>hq _ _ _ (h.1 h0),λi hi=>TY hq (wpOp_mono (λa' w' h'=>Kc hq f _ a' w' h') (h.2 i hi))⟩
theorem Mb{id:Nat}{l:List Oper}(hm:P.follows .mixedOrders=true)(hB:lexB .any l=true)(hS:S { w with drawn:=w.drawn+1 })
  (h:SF P l.toArray (XW (Q .normal)) S l a { w with drawn:=w.drawn+1 }):(iw id l.toArray true).wp P Q a w:=by
 refine wp_region_any hm ?_;have:=GU hB (λc a w h=>h) hS h;simpa using Kc (λe a w h=>by cases e<;>first | exact h | trivial) _ _ _ _ this
theorem GJ{id:Nat}{l:List Oper}(n:Nat)(hm:P.follows .mixedOrders=true)(hB:Ec l n=true)(zH:lexB .any (l.take n)=true)(hS:S { w with drawn:=w.drawn+1 })
  (h:SF P (l.take n).toArray (XW λa w=>wpList P l.toArray Q (l.drop n) a w) S (l.take n) a { w with drawn:=w.drawn+1 }):(iw id l.toArray true).wp P Q a w:=by
 refine DF n hm hB ?_;have hn:n<l.length:=by simp_all[Ec,bU,decide_eq_true_eq]
 have:=GU zH (λc a w h=>h) hS h;have e:(l.take n).length=n:=by grind
 rw[e]at this;exact Kc (λe a w h=>by cases e<;>first | exact h | trivial) _ _ _ _ this
end
end
abbrev Gs:=Nat->Option (Array Value×TypeId)
variable{F F0:Gs}{G:Gs->Prop}
def Gs.le(F F':Gs):Prop:=∀b x,F b=some x->F' b=some x
theorem Gs.le_refl(F:Gs):Gs.le F F:=λ_ _ h=>h
theorem Gs.le_trans{F' F'':Gs}(h:Gs.le F F')(k:Gs.le F' F''):Gs.le F F'':=λb x hx=>k b x (h b x hx)
class Up(A:Gs->Prop):Prop where
 up:∀ {F F':Gs},Gs.le F F'->A F->A F'
instance :Up (λ_=>True):=⟨λ_ _=>trivial⟩
instance{A B:Gs->Prop}[a:Up A][b:Up B]:Up (λF=>A F/\B F):=⟨λk h=>⟨a.up k h.1,b.up k h.2⟩⟩
class Dr where
 on:Prop
instance(priority:=10) QKY:Dr:=⟨False⟩
class Df where
 ds:List Deferred
instance(priority:=10) Y0:Df:=⟨[]⟩
structure N1[Dr](w w':World):Prop extends Below w.heap.size w w' where
 dr:Dr.on->w.drawn<=w'.drawn
section
variable[Dr]
theorem N1.refl(w:World):N1 w w:=⟨Ext.refl w,λ_=>ay _⟩
theorem N1.trans{a b c:World}(h:N1 a b)(k:N1 b c):N1 a c:=⟨Ext.trans h.toBelow k.toBelow,λd=>eu (h.dr d) (k.dr d)⟩
theorem N1.alloc{a:World}(h:N1 a w)(o:Obj):N1 a (w.alloc o):=⟨Ext.alloc h.toBelow o,h.dr⟩
theorem N1.drew{a:World}(h:N1 a w):N1 a w.drew:=⟨Ext.drew h.toBelow,λd=>Nat.le_succ_of_le (h.dr d)⟩
end
def N1.of(h:Ext w w'):N1 w w':=⟨h,λd=>d.elim⟩
section
variable[Dr][df:Df]
structure Fits(F:Gs)(w:World):Prop where
 row:∀b c T,F b=some (c,T)->∃fr,w.heap[b]?=some (.cells c T fr)
 all:∀b c fr,w.heap[b]?=some (.cells c 283 fr)->F b=some (c,283)
theorem Fits.drew(h:Fits F w):Fits F w.drew:=⟨h.row,h.all⟩
theorem Fits.lt(h:Fits F w){b:Nat}{x:Array Value×TypeId}(hb:F b=some x):b<w.heap.size:=by
 obtain⟨fr,h⟩:=h.row b x.1 x.2 hb
 grind
theorem Fits.none(h:Fits F w){b:Nat}(hb:w.heap.size<=b):F b=none:=by
 cases hv:F b with
 |none=>rfl
 |some x=>have:=h.lt hv;omega
abbrev Sl:=List (Nat×Value)
def look:Sl->Nat->Option Value
 |[],_=>none
 |(k,v)::r,t=>bif bD k t then some v else look r t
def upd(m:Sl):Option Tmp->Value->Sl
 |some d,v=>(d,v)::m
 |none,_=>m
def ev(m:Sl):Operand->Option Value
 |.tmp t=>look m t
 |.const v=>some v
 |.global g=>some (.pointer (some ⟨g,0,none⟩))
 |.func f=>some (.func (.func f) #[] #[])
def HM(m:Sl):List Operand->Option (List Value)
 |[]=>some []
 |x::r=>match ev m x,HM m r with
  |some v,some l=>some (v::l)
  |_,_=>none
def J1(N:Nat)(d:Option Tmp):Bool:=match d with | some d=>Nat.blt d N | none=>true
structure JY(N:Nat)(m:Sl)(a:Act):Prop where
 size:a.tmps.size=N
 df:a.defers=Df.ds
 get:∀t v,look m t=some v->a.tmps[t]?=some v
theorem JY.ev{m:Sl}(h:JY N m a){x:Operand}{v:Value}(hx:ev m x=some v):a.eval x=v:=by
 cases x with
 |tmp t=>have:=h.get t v hx;simp[iy,this]
 |const v'=>grind[YtphlgddkpboamaaGreatDoor.ev,iy]
 |global g=>grind[YtphlgddkpboamaaGreatDoor.ev,iy]
 |func f=>grind[YtphlgddkpboamaaGreatDoor.ev,iy]
theorem JY.HM{m:Sl}(h:JY N m a):∀ {l:List _} {vs:List Value},HM m l=some vs->l.map a.eval=vs
 |[],vs,e=>by grind[YtphlgddkpboamaaGreatDoor.HM]
 |x::l,vs,e=>by
  unfold YtphlgddkpboamaaGreatDoor.HM at e;cases hx:YtphlgddkpboamaaGreatDoor.ev m x with
  |none=>simp_all
  |some v =>
   cases hl:YtphlgddkpboamaaGreatDoor.HM m l with
   |none=>simp_all
   |some r =>
    rw[hx,hl]at e;simp at e;subst e;rw[iV,h.ev hx,h.HM hl]
theorem JY.put{m:Sl}(h:JY N m a){d:Option Tmp}(hd:J1 N d=true)(v:Value):JY N (upd m d v) (a.put d v):=by
 cases d with
 |none=>exact h
 |some d =>
  have hd':d<N:=by simp_all[J1]
  refine⟨by simp[iN,h.size],h.df,λt u ht=>?_⟩;simp[upd,look]at ht;cases hb:bD d t with
  |true =>
   have:d=t:=by simp_all
   subst this;have:v=u:=by simp_all
   subst this;simp[iN,h.size,hd']
  |false =>
   rw[hb]at ht;have hne:d≠t:=by intro e;simp_all
   have:=h.get t u (by trivial)
   grind[iN]
def YZ(m:Sl):Sl->Prop
 |[]=>True
 |(t,v)::r=>look m t=some v/\YZ m r
theorem JY.sub{m:Sl}(h:JY N m a):∀ {m':Sl},YZ m m'->JY N m' a
 |[],_=>⟨h.size,h.df,λt v e=>by trivial⟩
 |(k,u)::r,⟨h1,h2⟩=>by
  refine⟨h.size,h.df,λt v e=>?_⟩;simp[look]at e;cases hb:bD k t with
  |true =>
   have:k=t:=by simp_all
   subst this;have:u=v:=by simp_all
   subst this;exact h.get _ _ h1
  |false=>rw[hb]at e;exact(h.sub h2).get t v (by trivial)
structure Env where
 w0:World
 F0:Gs
 bs:List (Nat×Obj)
 G:Gs->Prop
structure Al(E:Env)(w:World)(F:Gs):Prop where
 le:Gs.le E.F0 F
 old:∀b,b<E.w0.heap.size->F b=E.F0 b
 fits:Fits F w
 ext:N1 E.w0 w
 bx:∀k∈E.bs,w.heap[k.1]?=some k.2/\E.w0.heap.size<=k.1/\F k.1=none
 nd:(E.bs.map (·.1)).Nodup
 g:∀F',Gs.le F F'->E.G F'
def St(E:Env)(w:World):Prop:=∃F,Al E w F
theorem Al.drew{E:Env}(h:Al E w F):Al E w.drew F:=⟨h.le,h.old,h.fits.drew,h.ext.drew,h.bx,h.nd,h.g⟩
theorem St.drew{E:Env}(h:St E w):St E w.drew:=h.imp λ_ h=>h.drew
theorem Al.hG{E:Env}(h:Al E w F):E.G F:=h.g F (Gs.le_refl F)
theorem St.start(hf:Fits F w){G:Gs->Prop}(hg:∀F',Gs.le F F'->G F'):St ⟨w,F,[],G⟩ w :=
 ⟨F,Gs.le_refl F,λ_ _=>rfl,hf,N1.refl w,λ_ h=>(by cases h),List.nodup_nil,hg⟩
theorem St.imp{bs bs':List _}{G':Gs->Prop}(h:St ⟨w0,F0,bs,G⟩ w)(hb:bs'.Sublist bs)(hg:∀F,G F->G' F):St ⟨w0,F0,bs',G'⟩ w:=by
 obtain⟨F,h⟩:=h;exact⟨F,h.le,h.old,h.fits,h.ext,λk hk=>h.bx k (hb.subset hk),(hb.map _).nodup h.nd,λF' hF'=>hg F' (h.g F' hF')⟩
theorem St.TO{bs:List _}{G':Gs->Prop}(h:St ⟨w0,F0,bs,G⟩ w)(hg:∀F,G F->G' F):St ⟨w0,F0,bs,G'⟩ w:=h.imp (fN _) hg
theorem Fa{x:α}{l r:List α}(h:(l++x::r).Nodup):x∉l++r/\(l++r).Nodup:=by
 grind
theorem St.alloc{bs:List _}(h:St ⟨w0,F0,bs,G⟩ w)(o:Obj)(ho:∀c fr,o≠.cells c 283 fr):St ⟨w0,F0,(w.heap.size,o)::bs,G⟩ (w.alloc o):=by
 obtain⟨F,h⟩:=h;have hne:∀k∈bs,k.1≠w.heap.size:=λk hk e=>by
  have:=(h.bx k hk).1;simp_all
 refine⟨F,⟨h.le,h.old,⟨λb c T hb=>?_,λb c fr hb=>?_⟩,h.ext.alloc o,λk hk=>?_,?_,h.g⟩⟩
 ·obtain⟨fr,e⟩:=h.fits.row b c T hb
  grind[fp]
 ·rcases aM b _ with g | g
  ·rw[fp _ _ _ g]at hb;exact h.fits.all b c fr hb
  have hb':(w.heap.push o)[b]?=some _:=hb
  grind
 ·rcases List.mem_cons.1 hk with rfl | hk
  ·exact⟨by show(w.heap.push o)[w.heap.size]?=_;simp,h.ext.size,h.fits.none (ay _)⟩
  obtain⟨h1,h2,h3⟩:=h.bx k hk
  grind[aM,fp]
 refine List.nodup_cons.2 ⟨λhm=>?_,h.nd⟩
 grind
theorem Al.freeze{pre post:List _}{c:Array Value}{fr:Nat×Nat}(h:Al ⟨w0,F0,pre++(b,.cells c T fr)::post,G⟩ w F):
  Al ⟨w0,F0,pre++post,G⟩ w (λi=>if i=b then some (c,T)else F i)/\Gs.le F (λi=>if i=b then some (c,T)else F i):=by
 obtain⟨h1,h2,h3⟩:=h.bx (b,.cells c T fr) wv;have hle:Gs.le F (λi=>if i=b then some (c,T)else F i):=λi x hx=>by
  grind
 have hnd:=h.nd;simp at hnd;have hnd2:=(Fa hnd);refine⟨⟨Gs.le_trans h.le hle,λi hi=>?_,⟨λi c' T' hi=>?_,λi c' fr' hi=>?_⟩,h.ext,λk hk=>?_,?_,λF' hF'=>h.g F' (Gs.le_trans hle hF')⟩,hle⟩
 ·have:i≠b:=by grind
  rw[if_neg this];exact h.old i hi
 ·by_cases e:i=b
  ·simp_all
  rw[if_neg e]at hi;exact h.fits.row i c' T' hi
 ·by_cases e:i=b
  ·simp_all
  rw[if_neg e];exact h.fits.all i c' fr' hi
 ·obtain⟨g1,g2,g3⟩:=h.bx k (by
   grind)
  grind
 simp_all
theorem St.freeze(pre:List _){post:List _}{b:Nat}{c:Array Value}{T:TypeId}{fr:Nat×Nat}{G:Gs->Prop}{w:World}(h:St ⟨w0,F0,pre++(b,.cells c T fr)::post,G⟩ w):
  St ⟨w0,F0,pre++post,λF=>G F/\F b=some (c,T)⟩ w:=by
 obtain⟨F,h⟩:=h;obtain⟨h1,hle⟩:=h.freeze;exact⟨_,h1.le,h1.old,h1.fits,h1.ext,h1.bx,h1.nd,λF' hF'=>⟨h1.g F' hF',hF' b _ wv⟩⟩
theorem St.write(pre:List _){post:List _}{b:Nat}{o o':Obj}{G:Gs->Prop}{w w':World}(h:St ⟨w0,F0,pre++(b,o)::post,G⟩ w)
  (hw:w'.heap=w.heap.setIfInBounds b o'/\w'.os=w.os/\w'.tape=w.tape/\w'.output=w.output/\w'.drawn=w.drawn) (ho:∀c fr,o'≠.cells c 283 fr):St ⟨w0,F0,pre++(b,o')::post,G⟩ w':=by
 obtain⟨F,h⟩:=h;obtain⟨h1,h2,h3⟩:=h.bx (b,o) wv;have hlt:b<w.heap.size:=by
  grind
 have hne:∀i,i≠b->w'.heap[i]?=w.heap[i]?:=λi hi=>by grind
 have heq:w'.heap[b]?=some o':=by simp_all
 have hsz:w'.heap.size=w.heap.size:=by simp_all
 have hnd:=h.nd;refine⟨F,⟨h.le,h.old,⟨λi c T hi=>?_,λi c fr hi=>?_⟩,⟨Ext.vD h.ext.toBelow ?_ ?_ ?_ ?_ ?_,λd=>by rw[hw.2.2.2.2];exact h.ext.dr d⟩,λk hk=>?_,?_,h.g⟩⟩
 ·have:i≠b:=by grind
  rw[hne i this];exact h.fits.row i c T hi
 ·by_cases e:i=b
  ·simp_all
  rw[hne i e]at hi;exact h.fits.all i c fr hi
 ·simp_all
 ·simp_all
 ·simp_all
 ·omega
 ·grind
 ·have key:k=(b,o')\/k∈pre++post:=by
   grind
  rcases key with rfl | hk'
  ·trivial
  obtain⟨g1,g2,g3⟩:=h.bx k (by
   grind)
  grind
 simp_all
end
variable{m:Sl}
section
variable[Dr][df:Df]
section
variable{P:Program}{Q:Exit->Act->World->Prop}{N:Nat}{m:Sl}{E:Env}
def Fin(Q:Exit->Act->World->Prop)(e:Exit)(N:Nat)(m:Sl)(E:Env):Prop:=∀a w,JY N m a->St E w->Q e a w
def J(P:Program)(c:Code)(Q:Exit->Act->World->Prop)(N:Nat)(m:Sl)(E:Env):Prop:=∀a w,JY N m a->St E w->c.wp P Q a w
def JS(P:Program)(ops:Array Oper)(Q:Exit->Act->World->Prop)(l:List Oper)(N:Nat)(m:Sl)(E:Env):Prop:=∀a w,JY N m a->St E w->wpList P ops Q l a w
def JD(P:Program)(ops:Array Oper)(Q:Exit->Act->World->Prop)(E0:Env)(l:List Oper)(N:Nat)(m:Sl)(E:Env):Prop:=(∀w,St E w->St E0 w)->∀a w,JY N m a->St E w->SF P ops Q (St E0) l a w
theorem QG{x y:Code}(h:J P x (Exit.then (y.wp P Q) Q) N m E):J P (.seq x y) Q N m E:=λa w ha hw=>wp_seq (h a w ha hw)
theorem QQ{id:Nat}{c:Code}(h:J P c (bB id Q) N m E):J P (.block id c) Q N m E:=λa w ha hw=>wp_block (h a w ha hw)
theorem QN(h:Fin Q .normal N m E):J P .skip Q N m E:=λa w ha hw=>wp_skip (h a w ha hw)
theorem Yh{id:Nat}(h:Fin Q (.exit id) N m E):J P (.exit id) Q N m E:=λa w ha hw=>wp_exit (h a w ha hw)
theorem QU(h:Fin Q .ret N m E):J P .ret Q N m E:=λa w ha hw=>wp_ret (h a w ha hw)
theorem QO{c:Operand}{x y:Code}{t:Bool}(hc:ev m c=some (.bool t))(ht:t=true->J P x Q N m E)(hf:t=false->J P y Q N m E):J P (.cond c x y) Q N m E :=
 λa w ha hw=>wp_cond_split (ha.ev hc) (λh=>ht h a w ha hw) λh=>hf h a w ha hw
theorem Jv{c:Operand}{x y:Code}(hc:ev m c=some (.bool true))(h:J P x Q N m E):J P (.cond c x y) Q N m E:=QO hc (λ_=>h) λh=>by cases h
theorem Zg{c:Operand}{x y:Code}(hc:ev m c=some (.bool false))(h:J P y Q N m E):J P (.cond c x y) Q N m E:=QO hc (λh=>by cases h) λ_=>h
theorem QD{y:Code}(h:J P y Q N m E):Fin (Exit.then (y.wp P Q) Q) .normal N m E:=h
theorem Jy{id:Nat}(h:Fin Q (.exit id) N m E):Fin (Exit.then K Q) (.exit id) N m E:=h
theorem P8(h:Fin Q .ret N m E):Fin (Exit.then K Q) .ret N m E:=h
theorem Qg{id:Nat}(h:Fin Q .normal N m E):Fin (bB id Q) .normal N m E:=h
theorem DD{id:Nat}(h:Fin Q .ret N m E):Fin (bB id Q) .ret N m E:=h
theorem Jz{id:Nat}(h:Fin Q .normal N m E):Fin (bB id Q) (.exit id) N m E:=λa w ha hw=>by simp only[bB,if_true];exact h a w ha hw
theorem Jp{id id':Nat}(hid:bD id' id=false)(h:Fin Q (.exit id') N m E):Fin (bB id Q) (.exit id') N m E:=λa w ha hw=>by
 have:id'≠id:=by rintro rfl;simp at hid
 simp only[bB,if_neg this];exact h a w ha hw
theorem JK{id:Nat}{q:Prop}(k:q)(h:q->J P (.exit id) Q N m E:=by intro x;refine Yh ?_;(repeat first|refine Jy ?_|refine Jp wu ?_);refine Jz ?_;(try refine Qg ?_);refine QD ?_;exact x):J P (.exit id) Q N m E:=h k
theorem ZS{q:Prop}(k:q)(h:q->J P .ret Q N m E:=by intro x;refine QU ?_;(repeat first|refine P8 ?_|refine DD ?_);exact x):J P .ret Q N m E:=h k
def Au{ι:Type}(N:Nat)(w0:World)(F0:Gs)(M:ι->Sl)(B:ι->List (Nat×Obj))(H:ι->Gs->Prop)(μ:ι->Nat)(i:ι)(a:Act)(w:World):Prop :=
 ∃j,μ j<μ i/\JY N (M j) a/\St ⟨w0,F0,B j,H j⟩ w
theorem Xr{c:Code}(M:ι->Sl)(B:ι->List (Nat×Obj))(H:ι->Gs->Prop)(μ:ι->Nat)(i0:ι)
  (hm:YZ m (M i0)) (hb:(B i0).Sublist bs) (hg:∀F,G F->H i0 F)
  (round:∀i,J P c (Exit.then (Au N w0 F0 M B H μ i) Q) N (M i) ⟨w0,F0,B i,H i⟩):J P (.loop c) Q N m ⟨w0,F0,bs,G⟩:=by
 intro a w ha hw;refine wp_loop_ghost (λn a w=>∃i,μ i=n/\JY N (M i) a/\St ⟨w0,F0,B i,H i⟩ w) (μ i0) ⟨i0,rfl,ha.sub hm,hw.imp hb hg⟩ ?_;rintro n a w ⟨i,rfl,ha,hw⟩;refine wp_mono (round i a w ha hw) ?_;intro e a' w' h;cases e with
 |normal=>obtain⟨j,h1,h2,h3⟩:=h;exact⟨μ j,h1,j,rfl,h2,h3⟩
 |_=>exact h
theorem Qj{M:ι->Sl}{B:ι->List (Nat×Obj)}{H:ι->Gs->Prop}{μ:ι->Nat}{i:ι}(j:ι)(hμ:μ j<μ i)
  (hm:YZ m (M j)) (hb:(B j).Sublist bs) (hg:∀F,G F->H j F):Fin (Exit.then (Au N w0 F0 M B H μ i) Q) .normal N m ⟨w0,F0,bs,G⟩ :=
 λa w ha hw=>⟨j,hμ,ha.sub hm,hw.imp hb hg⟩
theorem QB{id:Nat}{l:List Oper}(h:JS P l.toArray Q l N m E):J P (.region id l.toArray false) Q N m E:=λa w ha hw=>wp_region_lit (h a w ha hw)
variable{ops:Array Oper}{l:List Oper}{E0:Env}
theorem QF(h:Fin Q .normal N m E):JS P ops Q [] N m E:=h
def Qt(P:Program)(N:Nat)(m:Sl)(S:World->Prop)(o:Op)(ty:TypeId)(v:Value):Prop:=∀a w d pos aft g,JY N m a->S w->(execOp a.eval ⟨d,o,ty,pos,aft,g⟩).run P w = .ok (.value v) w
variable{d:Nat}{o:Op}{ty:TypeId}{pos:String}{aft:Array Edge}{v:Value}
theorem QA(h:Qt P N m (St E) o ty v)(k:JS P ops Q l N ((d,v)::m) E)(hd:J1 N (some d)=true:=by rfl):JS P ops Q (⟨some d,o,ty,pos,aft,none⟩::l) N m E:=by
 intro a w ha hw;refine wpList_plain rfl λK hK=>?_;unfold eC;rw[h a w _ _ _ _ ha hw];exact hK _ _ (k _ w (ha.put hd v) hw)
theorem QJ(h:Qt P N m (St E0) o ty v)(k:JD P ops Q E0 l N ((d,v)::m) E)(hq:Jb o=true:=by rfl)(hd:J1 N (some d)=true:=by rfl):JD P ops Q E0 (⟨some d,o,ty,pos,aft,none⟩::l) N m E:=by
 intro hE a w ha hw;exact .inl ⟨hq,v,.inl ⟨rfl,λw' hw'=>h a w' _ _ _ _ ha hw'⟩,k hE _ w (ha.put hd v) hw⟩
theorem W1(ha:JY N m a){g t:Nat}{b:Bool}(hg:(ops[g]?).bind (·.dst)=some t)(hb:look m t=some (.bool b)):yielded ops a.tmps g=some b:=by
 unfold yielded;rw[hg];have:=ha.get t _ hb;simp[this]
theorem de{d:Option Tmp}{g t:Nat}{b want:Bool}(hg:(ops[g]?).bind (·.dst)=some t)(hb:look m t=some (.bool b))(ht:b=want->JS P ops Q (⟨d,o,ty,pos,aft,none⟩::l) N m E)(hf:b=!want->JS P ops Q l N (upd m d undef) E)
  (hd:J1 N d=true:=by rfl):JS P ops Q (⟨d,o,ty,pos,aft,some (g,want)⟩::l) N m E:=by
 intro a w ha hw;unfold wpList;have hy:=W1 ha hg hb;by_cases e:b=want
 ·have:=ht e a w ha hw;unfold wpList at this;rw[if_pos (by simp[ar])]at this;rw[if_pos (by simp[ar,hy,e])];exact this
 rw[if_neg (by simp[ar,hy,e])];exact hf (by cases b<;>cases want<;>simp_all) _ w (ha.put hd undef) hw
theorem QCv{d:Option Tmp}{g t:Nat}{b want:Bool}(hg:(ops[g]?).bind (·.dst)=some t)(hb:look m t=some (.bool b))(ht:b=want->JD P ops Q E0 (⟨d,o,ty,pos,aft,none⟩::l) N m E)(hf:b=!want->JD P ops Q E0 l N (upd m d undef) E)
  (hd:J1 N d=true:=by rfl):JD P ops Q E0 (⟨d,o,ty,pos,aft,some (g,want)⟩::l) N m E:=by
 intro hE a w ha hw;have hy:=W1 ha hg hb;by_cases e:b=want
 ·rcases ht e hE a w ha hw with ⟨h1,v,h2,h3⟩ | ⟨h1,h2⟩
  ·refine .inl ⟨h1,v,?_,h3⟩;rcases h2 with ⟨_,h2⟩ | ⟨h2,_⟩
   ·exact .inl ⟨by simp[ar,hy,e],h2⟩
   simp[ar]at h2
  refine .inr ⟨h1,?_⟩;rw[if_pos (by simp[ar])]at h2;rw[if_pos (by simp[ar,hy,e])];exact h2
 have hr:=hf (by cases b<;>cases want<;>simp_all) hE _ w (ha.put hd undef) hw;cases hq:Jb o with
 |true=>exact .inl ⟨hq,undef,.inr ⟨by simp[ar,hy,e],rfl⟩,hr⟩
 |false =>
  refine .inr ⟨hq,?_⟩;rw[if_neg (by simp[ar,hy,e])];exact⟨hE w hw,hr⟩
end
end
section
variable[Dr][df:Df]
def kK(d:TypeDesc):Bool:=match d with | .struct _ | .array _ _=>true | _=>false
def ZZ(P:Program)(T:TypeId):Option (Bool×Nat):=match P.underlying T,P.info? T with
 |some d,some i=>some (kK d,i.size)
 |_,_=>none
theorem S7{n:Nat}(h:ZZ P T=some (g,n))(w:World):(isAgg T).run P w = .ok g w:=by
 unfold ZZ at h;split at h
 ·rename_i d i hd hi;cases h;unfold isAgg;rw[aq,run_underlying hd w];cases d<;>rfl
 grind
theorem Ym{n:Nat}(h:ZZ P T=some (g,n))(w:World):(sizeOf T).run P w = .ok n w:=by
 unfold ZZ at h;split at h
 all_goals simp_all[sizeOf,typeInfo]
def Z9(P:Program)(T:TypeId)(f:Nat):Option (Nat×TypeId):=match P.underlying T with
 |some (.struct fs)=>match fs[f]? with
  |some x=>some (x.offset,x.type)
  |none=>none
 |_=>none
inductive DE:List Value->Nat->List Value->Prop
 |nil {l:List Value}:DE l 0 []
 |here {x:Value} {l vs:List Value}:DE l 0 vs->DE (x::l) 0 (x::vs)
 |skip {x:Value} {l vs:List Value} {n:Nat}:DE l n vs->DE (x::l) (n+1) vs
theorem DE.at{l:List Value}{n:Nat}(h:DE l n vs):∀(j:Nat) (v:Value),vs[j]?=some v->l[n+j]?=some v:=by
 induction h<;>grind
inductive Yz:List Value->Nat->List Value->List Value->Prop
 |nil {l:List Value}:Yz l 0 [] l
 |here {x v:Value} {l vs l':List Value}:Yz l 0 vs l'->Yz (x::l) 0 (v::vs) (v::l')
 |skip {x:Value} {l vs l':List Value} {n:Nat}:Yz l n vs l'->Yz (x::l) (n+1) vs (x::l')
theorem Yz.le{l:List Value}{n:Nat}(h:Yz l n vs l'):n+vs.length<=l.length:=by
 induction h<;>simp_all<;>omega
theorem Yz.eq{l:List Value}{n:Nat}(h:Yz l n vs l'):l'=l.take n++vs++l.drop (n+vs.length):=by
 induction h<;>simp_all[iF]
inductive Own:List (Nat×Obj)->Nat->Obj->(Obj->List (Nat×Obj))->Prop
 |here {b:Nat} {o:Obj} {r:List (Nat×Obj)}:Own ((b,o)::r) b o λo'=>(b,o')::r
 |there {x:Nat×Obj} {l:List (Nat×Obj)} {b:Nat} {o:Obj} {f:Obj->List (Nat×Obj)}:Own l b o f->Own (x::l) b o λo'=>x::f o'
theorem Own.split{l:List _}{f:Obj->List _}(h:Own l b o f):∃pre post,l=pre++(b,o)::post/\∀o',f o'=pre++(b,o')::post:=by
 induction h with
 |here=>exact⟨[],_,rfl,λ_=>rfl⟩
 |there h ih =>
  grind
theorem Own.mem{l:List _}{f:Obj->List _}(h:Own l b o f):(b,o)∈l:=by
 obtain⟨pre,post,h1,_⟩:=h.split;simp_all
inductive IG:List (Nat×Obj)->Nat->Obj->List (Nat×Obj)->Prop
 |here {b:Nat} {o:Obj} {r:List (Nat×Obj)}:IG ((b,o)::r) b o r
 |there {x:Nat×Obj} {l l':List (Nat×Obj)} {b:Nat} {o:Obj}:IG l b o l'->IG (x::l) b o (x::l')
theorem IG.split{l l':List _}(h:IG l b o l'):∃pre post,l=pre++(b,o)::post/\l'=pre++post:=by
 induction h with
 |here=>exact⟨[],_,rfl,rfl⟩
 |there h ih =>
  grind
section
variable{P:Program}{Q:Exit->Act->World->Prop}{N:Nat}{m:Sl}{E E0:Env}{ops:Array Oper}{l:List Oper}{w0:World}{F0:Gs}{bs:List (Nat×Obj)}{G:Gs->Prop}
theorem St.own(h:St ⟨w0,F0,bs,G⟩ w){b:Nat}{o:Obj}{f:Obj->List _}(ho:Own bs b o f):w.heap[b]?=some o:=by
 obtain⟨F,h⟩:=h;exact(h.bx (b,o) ho.mem).1
section
variable{ty:TypeId}{v:Value}{S:World->Prop}
theorem QC(h:ev m x=some v):Qt P N m S (.move x) ty v:=λa w _ _ _ _ ha _=>by
 show(lL _ w)=_;rw[ha.ev h]
theorem QE(h:ev m x=some v):Qt P N m S (.assign x) ty v:=λa w _ _ _ _ ha _=>by
 show(lL _ w)=_;rw[ha.ev h]
theorem OO{c:Operand}{b:Bool}{u:Value}(hc:ev m c=some (.bool b))(hx:ev m x=some v)(hy:ev m y=some u):Qt P N m S (.pick c x y) ty (if b then v else u):=λa w _ _ _ _ ha _=>by
 simp[execOp,ha.ev hc,ha.ev hx,ha.ev hy,asBool,pure_bind,aX]
theorem Qe{vs:Array Value}(h:ev m x=some (.tuple vs))(hi:vs[i]?=some v):Qt P N m S (.extract x i) ty v:=λa w _ _ _ _ ha _=>by
 simp[execOp,ha.ev h,Instr.extract,hi]
theorem QH{f:Nat}{fo n:Nat}{ft:TypeId}(h:ev m x=some (.pointer (some ⟨b,off,none⟩)))(hf:Z9 P T f=some (fo,ft))(hs:ZZ P ft=some (g,n+1)):
  Qt P N m S (.fieldAddr T x f) ty (.pointer (some ⟨b,off+fo,none⟩)):=λa w _ _ _ _ ha _=>by
 unfold Z9 at hf;split at hf
 ·rename_i fs hu;split at hf
  ·rename_i fx hx;obtain⟨rfl,rfl⟩:=hf;have hadd:(⟨b,off,none⟩:Addr).add fx.offset=⟨b,off+fx.offset,none⟩:=by simp[ix]
   simp[execOp,ha.ev h,Instr.fieldAt,run_underlying hu,hx,bw,fieldPlace,Ym hs,hadd]
  trivial
 trivial
theorem YG{n:Nat}(ht:ZZ P T=some (false,n)){w:World}{a:Addr}{v:Value}(h:w.cell? a=some v):(loadVar T a).run P w = .ok v w:=by
 simp[loadVar,S7 ht,h]
theorem KI{n:Nat}(ht:ZZ P T=some (true,n))(hn:vs.length=n){w:World}{b off:Nat}(h:∀j v,vs[j]?=some v->w.cell? ⟨b,off+j,none⟩=some v):(loadVar T ⟨b,off,none⟩).run P w = .ok (.agg vs.toArray) w:=by
 have hl:=run_loadCells_list (P:=P) w ⟨b,off,none⟩ vs (λj v hv=>by
  grind[ix])
 subst hn;simp[loadVar,S7 ht,Ym ht,hl]
theorem Zm{o:Nat}{fr:Nat×Nat}(h:w.heap[b]?=some (.cells c.toArray T fr)):w.cell? ⟨b,o,none⟩=c[o]?:=by
 simp[eW,h]
theorem Qp{n:Nat}{fr:Nat×Nat}{f:Obj->List _}(h:ev m x=some (.pointer (some ⟨b,off,none⟩)))(ht:ZZ P T=some (false,n))(ho:Own bs b (.cells c.toArray T' fr) f)(hg:DE c off [v]):
  Qt P N m (St ⟨w0,F0,bs,G⟩) (.load T x) ty v:=λa w _ _ _ _ ha hw=>by
 have hc:w.cell? ⟨b,off,none⟩=some v:=by rw[Zm (hw.own ho)];exact hg.at 0 v I
 simp[execOp,ha.ev h,eM,bw,YG ht hc]
theorem Qh{n:Nat}{fr:Nat×Nat}{f:Obj->List _}(h:ev m x=some (.pointer (some ⟨b,off,none⟩)))(ht:ZZ P T=some (true,n))(ho:Own bs b (.cells c.toArray T' fr) f)(hg:DE c off vs)(hn:vs.length=n):
  Qt P N m (St ⟨w0,F0,bs,G⟩) (.load T x) ty (.agg vs.toArray):=λa w _ _ _ _ ha hw=>by
 have:=KI ht hn (λj v hv=>by rw[Zm (hw.own ho)];exact hg.at j v hv);simp[execOp,ha.ev h,eM,bw,this]
theorem cell_of_row(h:St ⟨w0,F0,bs,G⟩ w){b o:Nat}{c:Array Value}{T:TypeId}{v:Value}(hr:∀F,G F->F b=some (c,T))(hv:c[o]?=some v):w.cell? ⟨b,o,none⟩=some v:=by
 obtain⟨F,h⟩:=h;obtain⟨fr,e⟩:=h.fits.row b c T (hr F h.hG);simp[eW,e,hv]
theorem Eu{n:Nat}{c:Array Value}(h:ev m x=some (.pointer (some ⟨b,off,none⟩)))(ht:ZZ P T=some (false,n))(hr:∀F,G F->F b=some (c,T'))(hv:c[off]?=some v):
  Qt P N m (St ⟨w0,F0,bs,G⟩) (.load T x) ty v:=λa w _ _ _ _ ha hw=>by
 simp[execOp,ha.ev h,eM,bw,YG ht (cell_of_row hw hr hv)]
theorem Rx{n:Nat}{c:Array Value}(h:ev m x=some (.pointer (some ⟨b,off,none⟩)))(ht:ZZ P T=some (true,n))(hr:∀F,G F->F b=some (c,T'))(hn:vs.length=n)(hv:∀j v,vs[j]?=some v->c[off+j]?=some v):
  Qt P N m (St ⟨w0,F0,bs,G⟩) (.load T x) ty (.agg vs.toArray):=λa w _ _ _ _ ha hw=>by
 have:=KI ht hn (λj v h=>cell_of_row hw hr (hv j v h));simp[execOp,ha.ev h,eM,bw,this]
end
def Enters(P:Program)(f:FuncId):Prop:=∀(args:Array Value) (w:World),(callFunc f args).run P w = .ok (.enter f args) w
theorem enters_of{f:FuncId}(h:P.funcs[f]?=some fn)(hn:(fn.name == "runtime.NumGoroutine")=false)(hb:fn.body.isNone=false):Enters P f:=λargs w=>by
 have hb':fn.body≠none:=by grind
 simp_all[callFunc]
def Dc(w:World)(F:Gs){γ:Type}(val:γ->Value)(fact:γ->Gs->Prop)(e:Ending)(w':World):Prop :=
 ∃c F',e = .returned (val c)/\N1 w w'/\Gs.le F F'/\(∀b,b<w.heap.size->F' b=F b)/\Fits F' w'/\∀F'',Gs.le F' F''->fact c F''
def QS(P:Program)(f:FuncId)(args:List Value)(w:World)(F:Gs){γ:Type}(val:γ->Value)(fact:γ->Gs->Prop):Prop :=
 Enters P f/\Calls P f args.toArray w (Dc w F val fact)
theorem QS.imp{f:FuncId}{γ':Type}{val:γ->Value}{fact:γ->Gs->Prop}{val':γ'->Value}{fact':γ'->Gs->Prop}(h:QS P f args w F val fact)
  (k:∀c F',fact c F'->∃c',val c=val' c'/\∀F'',Gs.le F' F''->fact' c' F''):QS P f args w F val' fact':=by
 refine⟨h.1,h.2.mono ?_⟩;rintro e w' ⟨c,F',rfl,h1,h2,h3,h4,h5⟩;obtain⟨c',e,k'⟩:=k c F' (h5 F' (Gs.le_refl _));exact⟨c',F',by rw[e],h1,h2,h3,h4,k'⟩
theorem Al.call{F':Gs}(h:Al ⟨w0,F0,bs,G⟩ w F){f:Gs->Prop}(h1:N1 w w')(h2:Gs.le F F')(h3:∀b,b<w.heap.size->F' b=F b)(h4:Fits F' w')(h5:∀F'',Gs.le F' F''->f F''):Al ⟨w0,F0,bs,λF=>G F/\f F⟩ w' F':=by
 refine⟨Gs.le_trans h.le h2,λb hb=>?_,h4,h.ext.trans h1,λk hk=>?_,h.nd,λF'' hF=>⟨h.g F'' (Gs.le_trans h2 hF),h5 F'' hF⟩⟩
 ·rw[h3 b (aT hb h.ext.size)];exact h.old b hb
 obtain⟨g1,g2,g3⟩:=h.bx k hk;have hlt:k.1<w.heap.size:=by
  grind
 exact⟨by rw[h1.block _ hlt];exact g1,g2,by simp_all⟩
theorem VS{d:Option Tmp}{args:Array _}{tys:Array _}{pos:String}{gd:Option _}{f:FuncId}{c1 c2:Array Value}(he:Enters P f)(hx:a.eval x = .func (.func f) c1 c2):
  (execOp a.eval ⟨d,.call ⟨.value x,args,tys⟩,ty,pos,aft,gd⟩).run P w = .ok (.enter f (c1++args.map a.eval++c2)) w:=by
 simp[execOp,resolve,hx,Deferred.ofValue,aq,aX,ax,invoke];exact he _ w
section
variable{d:Nat}{ty:TypeId}{pos:String}{aft:Array Edge}{f:FuncId}{args:Array Operand}{tys:Array TypeId}{vs:List Value}{γ:Type}{val:γ->Value}{fact:γ->Gs->Prop}
theorem Ao{c1 c2:List Value}(hx:ev m x=some (.func (.func f) c1.toArray c2.toArray))(hv:HM m args.toList=some vs)(hc:∀w F,Fits F w->G F->QS P f (c1++vs++c2) w F val fact)
  (k:∀c,JS P ops Q l N ((d,val c)::m) ⟨w0,F0,bs,λF=>G F/\fact c F⟩) (hd:J1 N (some d)=true:=by rfl):JS P ops Q (⟨some d,.call ⟨.value x,args,tys⟩,ty,pos,aft,none⟩::l) N m ⟨w0,F0,bs,G⟩:=by
 intro a w ha hw;obtain⟨F,hF⟩:=hw;have hcg:=hc w F hF.fits hF.hG;refine wpList_plain rfl λK hK=>?_;unfold eC;rw[VS hcg.1 (ha.ev hx)];have e:c1.toArray++args.map a.eval++c2.toArray=(c1++vs++c2).toArray:=by
  have:=ha.HM hv;simp_all
 rw[e];refine hcg.2.mono ?_;rintro e w' ⟨c,F',rfl,h1,h2,h3,h4,h5⟩;exact hK _ _ (k c _ w' (ha.put hd _) ⟨F',hF.call h1 h2 h3 h4 h5⟩)
theorem QL(hv:HM m args.toList=some vs)(hc:∀w F,Fits F w->G F->QS P f vs w F val fact)
  (k:∀c,JS P ops Q l N ((d,val c)::m) ⟨w0,F0,bs,λF=>G F/\fact c F⟩) (hd:J1 N (some d)=true:=by rfl):JS P ops Q (⟨some d,.call ⟨.value (.func f),args,tys⟩,ty,pos,aft,none⟩::l) N m ⟨w0,F0,bs,G⟩ :=
 Ao I hv (by simpa using hc) k hd
theorem Aq{c1 c2:List Value}(hx:ev m x=some (.func (.func f) c1.toArray c2.toArray))(hv:HM m args.toList=some vs)(hc:∀w F,Fits F w->G F->QS P f (c1++vs++c2) w F val fact)
  (k:∀c,JD P ops Q E0 l N ((d,val c)::m) ⟨w0,F0,bs,λF=>G F/\fact c F⟩) (hd:J1 N (some d)=true:=by rfl):JD P ops Q E0 (⟨some d,.call ⟨.value x,args,tys⟩,ty,pos,aft,none⟩::l) N m ⟨w0,F0,bs,G⟩:=by
 intro hE a w ha hw;obtain⟨F,hF⟩:=hw;have hcg:=hc w F hF.fits hF.hG;refine .inr ⟨rfl,?_⟩;unfold eC;rw[VS hcg.1 (ha.ev hx)];have e:c1.toArray++args.map a.eval++c2.toArray=(c1++vs++c2).toArray:=by
  have:=ha.HM hv;simp_all
 rw[e];refine hcg.2.mono ?_;rintro e w' ⟨c,F',rfl,h1,h2,h3,h4,h5⟩;have hS:St ⟨w0,F0,bs,λF=>G F/\fact c F⟩ w':=⟨F',hF.call h1 h2 h3 h4 h5⟩;exact⟨hE w' (hS.TO λ_ h=>h.1),k c (λw h=>hE w (h.TO λ_ h=>h.1)) _ w' (ha.put hd _) hS⟩
theorem QZ(hv:HM m args.toList=some vs)(hc:∀w F,Fits F w->G F->QS P f vs w F val fact)
  (k:∀c,JD P ops Q E0 l N ((d,val c)::m) ⟨w0,F0,bs,λF=>G F/\fact c F⟩) (hd:J1 N (some d)=true:=by rfl):JD P ops Q E0 (⟨some d,.call ⟨.value (.func f),args,tys⟩,ty,pos,aft,none⟩::l) N m ⟨w0,F0,bs,G⟩ :=
 Aq I hv (by simpa using hc) k hd
end
end
end
section
variable[Dr][df:Df]{P:Program}{Q:Exit->Act->World->Prop}{ops:Array Oper}{l:List Oper}{N:Nat}{m:Sl}{E:Env}{d:Nat}{v:Value}{ty:TypeId}{pos:String}{aft:Array Edge}
theorem QJm(h:ev m x=some v)(k:JS P ops Q l N ((d,v)::m) E)(hd:J1 N (some d)=true:=by rfl):JS P ops Q (⟨some d,.move x,ty,pos,aft,none⟩::l) N m E:=QA (QC h) k hd
theorem QJn(h:ev m x=some v)(k:JS P ops Q l N ((d,v)::m) E)(hd:J1 N (some d)=true:=by rfl):JS P ops Q (⟨some d,.assign x,ty,pos,aft,none⟩::l) N m E:=QA (QE h) k hd
theorem QJl{y:Code}(h:J P y Q N m E):JS P ops (Exit.then (y.wp P Q) Q) [] N m E:=QF (QD h)
theorem QLF{y:Code}{id:Nat}(h:JS P l.toArray (Exit.then (y.wp P Q) Q) l N m E):J P (.seq (.region id l.toArray false) y) Q N m E:=QG (QB h)
end
def QKK{l:List α}:er l l:=fN l
def QLr{p:Prop}[Decidable p](h:decide p=true):p:=of_decide_eq_true h
def QLs{p:Prop}[Decidable p](h:decide p=false):¬p:=of_decide_eq_false h
def wR[Dr][df:Df]{P:Program}{Q:Exit->Act->World->Prop}{ops:Array Oper}{N:Nat}{m:Sl}{E:Env}{d:Nat}{v:Value}{ty:TypeId}{pos:String}{aft:Array Edge}{x:Operand}{y:Code}(h:ev m x=some v)(k:J P y Q N ((d,v)::m) E)(hd:J1 N (some d)=true:=by rfl):JS P ops (Exit.then (y.wp P Q) Q) [⟨some d,.assign x,ty,pos,aft,none⟩] N m E:=QJn h (QJl k) hd
def wS[Dr][df:Df]{P:Program}{Q:Exit->Act->World->Prop}{l:List Oper}{N:Nat}{m:Sl}{E:Env}{d:Nat}{v:Value}{ty:TypeId}{pos:String}{aft:Array Edge}{x:Operand}{y:Code}{id:Nat}(h:ev m x=some v)(k:JS P (⟨some d,.move x,ty,pos,aft,none⟩::l).toArray (Exit.then (y.wp P Q) Q) l N ((d,v)::m) E)(hd:J1 N (some d)=true:=by rfl):J P (.seq (.region id (⟨some d,.move x,ty,pos,aft,none⟩::l).toArray false) y) Q N m E:=QLF (QJm h k hd)
def DE.h1{x0:Value}{l:List Value}:DE (x0::l) 0 [x0]:=.here (.nil)
def Yz.h1{x0 v0:Value}{l:List Value}:Yz (x0::l) 0 [v0] (v0::l):=.here (.nil)
def DE.h2{x0 x1:Value}{l:List Value}:DE (x0::x1::l) 0 [x0,x1]:=.here (.here (.nil))
def Yz.h2{x0 x1 v0:Value}{l:List Value}:Yz (x0::x1::l) 0 [v0,v1] (v0::v1::l):=.here (.here (.nil))
def DE.h3{x0 x1:Value}{l:List Value}:DE (x0::x1::x2::l) 0 [x0,x1,x2]:=.here (.here (.here (.nil)))
def Yz.h3{x0 x1 v0 v2:Value}{l:List Value}:Yz (x0::x1::x2::l) 0 [v0,v1,v2] (v0::v1::v2::l):=.here (.here (.here (.nil)))
def DE.h4{x0 x1:Value}{l:List Value}:DE (x0::x1::x2::x3::l) 0 [x0,x1,x2,x3]:=.here (.here (.here (.here (.nil))))
def Yz.h4{x0 x1 v0 v2:Value}{l:List Value}:Yz (x0::x1::x2::x3::l) 0 [v0,v1,v2,v3] (v0::v1::v2::v3::l):=.here (.here (.here (.here (.nil))))
def DE.h5{x0 x1:Value}{l:List Value}:DE (x0::x1::x2::x3::x4::l) 0 [x0,x1,x2,x3,x4]:=.here (.here (.here (.here (.here (.nil)))))
def Yz.h5{x0 x1 v0 v2:Value}{l:List Value}:Yz (x0::x1::x2::x3::x4::l) 0 [v0,v1,v2,v3,v4] (v0::v1::v2::v3::v4::l):=.here (.here (.here (.here (.here (.nil)))))
def DE.h6{x0 x1:Value}{l:List Value}:DE (x0::x1::x2::x3::x4::x5::l) 0 [x0,x1,x2,x3,x4,x5]:=.here (.here (.here (.here (.here (.here (.nil))))))
def Yz.h6{x0 x1 v0 v2:Value}{l:List Value}:Yz (x0::x1::x2::x3::x4::x5::l) 0 [v0,v1,v2,v3,v4,v5] (v0::v1::v2::v3::v4::v5::l):=.here (.here (.here (.here (.here (.here (.nil))))))
def DE.h7{x0 x1:Value}{l:List Value}:DE (x0::x1::x2::x3::x4::x5::x6::l) 0 [x0,x1,x2,x3,x4,x5,x6]:=.here (.here (.here (.here (.here (.here (.here (.nil)))))))
def Yz.h7{x0 x1 v0 v2 v6:Value}{l:List Value}:Yz (x0::x1::x2::x3::x4::x5::x6::l) 0 [v0,v1,v2,v3,v4,v5,v6] (v0::v1::v2::v3::v4::v5::v6::l):=.here (.here (.here (.here (.here (.here (.here (.nil)))))))
def DE.h8{x0 x1:Value}{l:List Value}:DE (x0::x1::x2::x3::x4::x5::x6::x7::l) 0 [x0,x1,x2,x3,x4,x5,x6,x7]:=.here (.here (.here (.here (.here (.here (.here (.here (.nil))))))))
def Yz.h8{x0 x1 v0 v2 v6 v7:Value}{l:List Value}:Yz (x0::x1::x2::x3::x4::x5::x6::x7::l) 0 [v0,v1,v2,v3,v4,v5,v6,v7] (v0::v1::v2::v3::v4::v5::v6::v7::l):=.here (.here (.here (.here (.here (.here (.here (.here (.nil))))))))
def DE.h9{x0 x1:Value}{l:List Value}:DE (x0::x1::x2::x3::x4::x5::x6::x7::x8::l) 0 [x0,x1,x2,x3,x4,x5,x6,x7,x8]:=.here (.here (.here (.here (.here (.here (.here (.here (.here (.nil)))))))))
def Yz.h9{x0 x1 v0 v2 v6 v7 v8:Value}{l:List Value}:Yz (x0::x1::x2::x3::x4::x5::x6::x7::x8::l) 0 [v0,v1,v2,v3,v4,v5,v6,v7,v8] (v0::v1::v2::v3::v4::v5::v6::v7::v8::l):=.here (.here (.here (.here (.here (.here (.here (.here (.here (.nil)))))))))
def DE.h10{x0 x1 x9:Value}{l:List Value}:DE (x0::x1::x2::x3::x4::x5::x6::x7::x8::x9::l) 0 [x0,x1,x2,x3,x4,x5,x6,x7,x8,x9]:=.here (.here (.here (.here (.here (.here (.here (.here (.here (.here (.nil))))))))))
def Yz.h10{x0 x1 x9 v0 v2 v6 v7 v8 v9:Value}{l:List Value}:Yz (x0::x1::x2::x3::x4::x5::x6::x7::x8::x9::l) 0 [v0,v1,v2,v3,v4,v5,v6,v7,v8,v9] (v0::v1::v2::v3::v4::v5::v6::v7::v8::v9::l):=.here (.here (.here (.here (.here (.here (.here (.here (.here (.here (.nil))))))))))
def DE.h11{x0 x1 x9 x10:Value}{l:List Value}:DE (x0::x1::x2::x3::x4::x5::x6::x7::x8::x9::x10::l) 0 [x0,x1,x2,x3,x4,x5,x6,x7,x8,x9,x10]:=.here (.here (.here (.here (.here (.here (.here (.here (.here (.here (.here (.nil)))))))))))
def Yz.h11{x0 x1 x9 x10 v0 v2 v6 v7 v8 v9 v10:Value}{l:List Value}:Yz (x0::x1::x2::x3::x4::x5::x6::x7::x8::x9::x10::l) 0 [v0,v1,v2,v3,v4,v5,v6,v7,v8,v9,v10] (v0::v1::v2::v3::v4::v5::v6::v7::v8::v9::v10::l):=.here (.here (.here (.here (.here (.here (.here (.here (.here (.here (.here (.nil)))))))))))
def DE.h12{x0 x1 x9 x10 x11:Value}{l:List Value}:DE (x0::x1::x2::x3::x4::x5::x6::x7::x8::x9::x10::x11::l) 0 [x0,x1,x2,x3,x4,x5,x6,x7,x8,x9,x10,x11]:=.here (.here (.here (.here (.here (.here (.here (.here (.here (.here (.here (.here (.nil))))))))))))
def Yz.h12{x0 x1 x9 x10 x11 v0 v2 v6 v7 v8 v9 v10 v11:Value}{l:List Value}:Yz (x0::x1::x2::x3::x4::x5::x6::x7::x8::x9::x10::x11::l) 0 [v0,v1,v2,v3,v4,v5,v6,v7,v8,v9,v10,v11] (v0::v1::v2::v3::v4::v5::v6::v7::v8::v9::v10::v11::l):=.here (.here (.here (.here (.here (.here (.here (.here (.here (.here (.here (.here (.nil))))))))))))
def Own.u1{x0:Nat×Obj}{r:List (Nat×Obj)}:Own (x0::(b,o)::r) b o (λo'=>x0::(b,o')::r):=.there (.here)
def IG.u1{x0:Nat×Obj}{r:List (Nat×Obj)}:IG (x0::(b,o)::r) b o (x0::r):=.there (.here)
def Own.u2{x0:Nat×Obj}{r:List (Nat×Obj)}:Own (x0::x1::(b,o)::r) b o (λo'=>x0::x1::(b,o')::r):=.there (.there (.here))
def IG.u2{x0:Nat×Obj}{r:List (Nat×Obj)}:IG (x0::x1::(b,o)::r) b o (x0::x1::r):=.there (.there (.here))
def Own.u3{x0 x2:Nat×Obj}{r:List (Nat×Obj)}:Own (x0::x1::x2::(b,o)::r) b o (λo'=>x0::x1::x2::(b,o')::r):=.there (.there (.there (.here)))
def IG.u3{x0 x2:Nat×Obj}{r:List (Nat×Obj)}:IG (x0::x1::x2::(b,o)::r) b o (x0::x1::x2::r):=.there (.there (.there (.here)))
def Own.u4{x0 x2 x3:Nat×Obj}{r:List (Nat×Obj)}:Own (x0::x1::x2::x3::(b,o)::r) b o (λo'=>x0::x1::x2::x3::(b,o')::r):=.there (.there (.there (.there (.here))))
def IG.u4{x0 x2 x3:Nat×Obj}{r:List (Nat×Obj)}:IG (x0::x1::x2::x3::(b,o)::r) b o (x0::x1::x2::x3::r):=.there (.there (.there (.there (.here))))
def Own.u5{x0 x2 x3 x4:Nat×Obj}{r:List (Nat×Obj)}:Own (x0::x1::x2::x3::x4::(b,o)::r) b o (λo'=>x0::x1::x2::x3::x4::(b,o')::r):=.there (.there (.there (.there (.there (.here)))))
def IG.u5{x0 x2 x3 x4:Nat×Obj}{r:List (Nat×Obj)}:IG (x0::x1::x2::x3::x4::(b,o)::r) b o (x0::x1::x2::x3::x4::r):=.there (.there (.there (.there (.there (.here)))))
def Own.u6{x0 x2 x3 x4 x5:Nat×Obj}{r:List (Nat×Obj)}:Own (x0::x1::x2::x3::x4::x5::(b,o)::r) b o (λo'=>x0::x1::x2::x3::x4::x5::(b,o')::r):=.there (.there (.there (.there (.there (.there (.here))))))
def IG.u6{x0 x2 x3 x4 x5:Nat×Obj}{r:List (Nat×Obj)}:IG (x0::x1::x2::x3::x4::x5::(b,o)::r) b o (x0::x1::x2::x3::x4::x5::r):=.there (.there (.there (.there (.there (.there (.here))))))
def wT{a0:A0}:a0=a0/\True:=⟨rfl,trivial⟩
def wU{a0:A0}{a1:A1}:a0=a0/\a1=a1/\True:=⟨rfl,rfl,trivial⟩
def wV{a0:A0}{a1:A1}{a2:A2}:a0=a0/\a1=a1/\a2=a2/\True:=⟨rfl,rfl,rfl,trivial⟩
def wW{a0:A0}{a1:A1}{a2:A2}{a3:A3}:a0=a0/\a1=a1/\a2=a2/\a3=a3/\True:=⟨rfl,rfl,rfl,rfl,trivial⟩
def wX{a0:A0}{a1:A1}{a2:A2}{a3:A3}{a4:A4}:a0=a0/\a1=a1/\a2=a2/\a3=a3/\a4=a4/\True:=⟨rfl,rfl,rfl,rfl,rfl,trivial⟩
def wY{a0:A0}{a1:A1}{a2:A2}{a3:A3}{a4:A4}{a5:A5}:a0=a0/\a1=a1/\a2=a2/\a3=a3/\a4=a4/\a5=a5/\True:=⟨rfl,rfl,rfl,rfl,rfl,rfl,trivial⟩
def wZ{a0:A0}{a1:A1}{a2:A2}{a3:A3}{a4:A4}{a5:A5}{a6:A6}:a0=a0/\a1=a1/\a2=a2/\a3=a3/\a4=a4/\a5=a5/\a6=a6/\True:=⟨rfl,rfl,rfl,rfl,rfl,rfl,rfl,trivial⟩
def wa{a0:A0}{a1:A1}{a2:A2}{a3:A3}{a4:A4}{a5:A5}{a6:A6}{a7:A7}:a0=a0/\a1=a1/\a2=a2/\a3=a3/\a4=a4/\a5=a5/\a6=a6/\a7=a7/\True:=⟨rfl,rfl,rfl,rfl,rfl,rfl,rfl,rfl,trivial⟩
def wb{a0:A0}{a1:A1}{a2:A2}{a3:A3}{a4:A4}{a5:A5}{a6:A6}{a7:A7}{a8:A8}:a0=a0/\a1=a1/\a2=a2/\a3=a3/\a4=a4/\a5=a5/\a6=a6/\a7=a7/\a8=a8/\True:=⟨rfl,rfl,rfl,rfl,rfl,rfl,rfl,rfl,rfl,trivial⟩
def wc{a0:A0}{a1:A1}{a2:A2}{a3:A3}{a4:A4}{a5:A5}{a6:A6}{a7:A7}{a8:A8}{a9:A9}:a0=a0/\a1=a1/\a2=a2/\a3=a3/\a4=a4/\a5=a5/\a6=a6/\a7=a7/\a8=a8/\a9=a9/\True:=⟨rfl,rfl,rfl,rfl,rfl,rfl,rfl,rfl,rfl,rfl,trivial⟩
def we{a0:A0}{a1:A1}{a2:A2}{a3:A3}{a4:A4}{a5:A5}{a6:A6}{a7:A7}{a8:A8}{a9:A9}{A10:Type}{a10:A10}:a0=a0/\a1=a1/\a2=a2/\a3=a3/\a4=a4/\a5=a5/\a6=a6/\a7=a7/\a8=a8/\a9=a9/\a10=a10/\True:=⟨rfl,rfl,rfl,rfl,rfl,rfl,rfl,rfl,rfl,rfl,rfl,trivial⟩
def wg{a0:A0}{a1:A1}{a2:A2}{a3:A3}{a4:A4}{a5:A5}{a6:A6}{a7:A7}{a8:A8}{a9:A9}{A10:Type}{a10:A10}{A11:Type}{a11:A11}:a0=a0/\a1=a1/\a2=a2/\a3=a3/\a4=a4/\a5=a5/\a6=a6/\a7=a7/\a8=a8/\a9=a9/\a10=a10/\a11=a11/\True:=⟨rfl,rfl,rfl,rfl,rfl,rfl,rfl,rfl,rfl,rfl,rfl,rfl,trivial⟩
section
variable[Dr][df:Df]
section
variable{P:Program}{Q:Exit->Act->World->Prop}{N:Nat}{m:Sl}{E E0:Env}{ops:Array Oper}{l:List Oper}{w0:World}{F0:Gs}{bs:List (Nat×Obj)}{G:Gs->Prop}
theorem St.pure{p:Prop}(h:St ⟨w0,F0,bs,G⟩ w)(hp:∀w F,Fits F w->G F->p):p:=by
 obtain⟨F,h⟩:=h;exact hp w F h.fits h.hG
theorem ZO{c:Code}(p:Prop)(hp:∀w F,Fits F w->G F->p)(k:p->J P c Q N m ⟨w0,F0,bs,G⟩):J P c Q N m ⟨w0,F0,bs,G⟩:=λa w ha hw=>k (hw.pure hp) a w ha hw
theorem XA(p:Prop)(hp:∀w F,Fits F w->G F->p)(k:p->JS P ops Q l N m ⟨w0,F0,bs,G⟩):JS P ops Q l N m ⟨w0,F0,bs,G⟩:=λa w ha hw=>k (hw.pure hp) a w ha hw
theorem Gm(p:Prop)(hp:∀w F,Fits F w->G F->p)(k:p->JD P ops Q E0 l N m ⟨w0,F0,bs,G⟩):JD P ops Q E0 l N m ⟨w0,F0,bs,G⟩:=λhE a w ha hw=>k (hw.pure hp) hE a w ha hw
def Jw(P:Program)(T:TypeId):Option (List Value):=match P.info? T with
 |some i=>i.zero.map λv=>v.cells.toList
 |none=>none
theorem Rm(h:Jw P T=some z)(w:World):∃v,(zeroValue T).run P w = .ok v w/\v.cells=z.toArray:=by
 unfold Jw at h;split at h
 ·rename_i i hi;cases hz:i.zero with
  |none=>rw[hz]at h;cases h
  |some v =>
   rw[hz]at h;simp only[eI,aG]at h;exact⟨v,by simp[zeroValue,typeInfo,hi,hz],by rw[<-h]⟩
 cases h
def GX(T:TypeId):Bool:=!(bD T 283)
theorem ZD(h:GX T=true){c:Array Value}{fr:Nat×Nat}:∀c' fr',Obj.cells c T fr≠.cells c' 283 fr':=by
 intro c' fr' e;injection e with _ h2 _;subst h2;simp[GX]at h
section
variable{d:Nat}{ty:TypeId}{pos:String}{aft:Array Edge}
theorem upon_value{o:Oper}{v:Value}(h:(execOp a.eval o).run P w = .ok (.value v) w')(k:K (a.put o.dst v) w'):o.wp P a w K Q:=by
 unfold eC;rw[h];exact k
theorem upon_skip{o:Oper}(h:(execOp a.eval o).run P w = .ok .skip w')(k:K (a.put o.dst undef) w'):o.wp P a w K Q:=by
 unfold eC;rw[h];exact k
theorem Bp{g:Option (Nat×Bool)}(hz:Jw P T=some z):
  (execOp a.eval ⟨some d,.alloc T,ty,pos,aft,g⟩).run P w = .ok (.value (.pointer (some ⟨w.heap.size,0,none⟩))) (w.alloc (.cells z.toArray T)):=by
 obtain⟨v,h1,h2⟩:=Rm hz w;simp only[execOp,Instr.alloc,aq,h1,ax,aX,newVar,newRow,run_newObj,h2];rfl
theorem Qk(hz:Jw P T=some z)(k:∀b,JS P ops Q l N ((d,.pointer (some ⟨b,0,none⟩))::m) ⟨w0,F0,(b,.cells z.toArray T (0,0))::bs,G⟩)(hu:GX T=true:=by rfl)(hd:J1 N (some d)=true:=by rfl):
  JS P ops Q (⟨some d,.alloc T,ty,pos,aft,none⟩::l) N m ⟨w0,F0,bs,G⟩:=λa w ha hw =>
 wpList_plain rfl λ_ hK=>upon_value (Bp hz) (hK _ _ (k _ _ _ (ha.put hd _) (hw.alloc _ (ZD hu))))
theorem Gh(hz:Jw P T=some z)(k:∀b,JD P ops Q E0 l N ((d,.pointer (some ⟨b,0,none⟩))::m) ⟨w0,F0,(b,.cells z.toArray T (0,0))::bs,G⟩)(hu:GX T=true:=by rfl)(hd:J1 N (some d)=true:=by rfl):
  JD P ops Q E0 (⟨some d,.alloc T,ty,pos,aft,none⟩::l) N m ⟨w0,F0,bs,G⟩:=λhE a w ha hw=>by
 have hS:=hw.alloc (.cells z.toArray T (0,0)) (ZD hu);have sub:∀w' b,St ⟨w0,F0,(b,.cells z.toArray T (0,0))::bs,G⟩ w'->St E0 w':=λw' b h=>hE w' (h.imp (eP _ _) λ_ h=>h);refine .inr ⟨rfl,?_⟩;rw[if_pos (by simp[ar])];exact upon_value (Bp hz) ⟨sub _ _ hS,k _ (λw' h=>sub w' _ h) _ _ (ha.put hd _) hS⟩
theorem FJ{v:Value}{g:Option (Nat×Bool)}(hx:a.eval x=v):
  (execOp a.eval ⟨some d,.box T x,ty,pos,aft,g⟩).run P w = .ok (.value (.pointer (some ⟨w.heap.size,0,none⟩))) (w.alloc (.cells v.cells T)):=by
 subst hx;simp only[execOp,Instr.box,aq,ax,aX,newVar,newRow,run_newObj];rfl
theorem Q9{v:Value}(hx:ev m x=some v)(hv:v.cells=vs.toArray)(k:∀b,JS P ops Q l N ((d,.pointer (some ⟨b,0,none⟩))::m) ⟨w0,F0,(b,.cells vs.toArray T (0,0))::bs,G⟩)(hu:GX T=true:=by rfl)(hd:J1 N (some d)=true:=by rfl):
  JS P ops Q (⟨some d,.box T x,ty,pos,aft,none⟩::l) N m ⟨w0,F0,bs,G⟩:=λa w ha hw =>
 wpList_plain rfl λ_ hK=>upon_value (FJ (ha.ev hx)) (hK _ _ (k _ _ _ (ha.put hd _) (hv ▸ hw.alloc _ (ZD hu))))
theorem Ej{n sz:Nat}{parts:Array (Nat×Value)}{cs:Array Value}(ht:P.underlying t=some (.slice e))(hs:ZZ P e=some (g,sz))(hz:Jw P e=some z)(h24:n*sz<=2^24)(hn:n*sz≠0)
  (hf:eN (λi=>some (i*sz,sz)) ((il (n*sz)).map λi=>z.toArray[i%z.toArray.size]!) parts.toList=some cs) :
  (iH t n parts).run P w = .ok (.slice (some ⟨w.heap.size,0,none⟩) n n) (w.alloc (.cells cs e)):=by
 obtain⟨v,h1,h2⟩:=Rm hz w;have h3:¬n*sz>2^24:=O;simp only[iH,aq,run_underlying ht,ax,Ym hs,if_neg h3,aX,if_neg hn,h1,h2,hf,newRow,run_newObj];rfl
def V5(m:Sl):List (Nat×Operand)->Option (List (Nat×Value))
 |[]=>some []
 |(i,x)::r=>match ev m x,V5 m r with
  |some v,some l=>some ((i,v)::l)
  |_,_=>none
theorem JY.parts(h:JY N m a):∀ {l:List (Nat×Operand)} {vs:List (Nat×Value)},V5 m l=some vs->l.map (λ(i,x)=>(i,a.eval x))=vs
 |[],vs,e=>by simpa[V5]using e
 |(i,x)::l,vs,e=>by
  unfold V5 at e;cases hx:YtphlgddkpboamaaGreatDoor.ev m x with
  |none=>rw[hx]at e;simp at e
  |some v =>
   cases hl:V5 m l with
   |none=>rw[hx,hl]at e;simp at e
   |some r =>
    rw[hx,hl]at e;simp only[aG]at e;subst e;rw[iV,h.parts hl];show(i,a.eval x)::r=_;rw[h.ev hx]
def Yr(sz:Nat):Nat->List (Nat×Value)->Option (List Value)
 |_,[]=>some []
 |k,(i,v)::r=>if i=k/\v.cells.size=sz then(Yr sz (k+1) r).map (v.cells.toList++·)else none
theorem GZ{sz:Nat}:∀(parts:List (Nat×Value)) (k:Nat) (cs:List Value) (cur:Array Value),Yr sz k parts=some cs->k*sz+cs.length=cur.size ->
  eN (λi=>some (i*sz,sz)) cur parts=some (cur.toList.take (k*sz)++cs).toArray
 |[],k,cs,cur,h,hl=>by
  simp only[Yr,aG]at h;subst h;simp only[iO,fX]at hl;simp[eN,ah,hl]
 |(i,v)::r,k,cs,cur,h,hl=>by
  simp only[Yr]at h;split at h
  ·rename_i hk;obtain⟨rfl,hv⟩:=hk;cases hr:Yr sz (i+1) r with
   |none=>rw[hr]at h;cases h
   |some cs' =>
    rw[hr]at h;simp only[eI,aG]at h;subst h;have hlen:v.cells.toList.length=sz:=by simpa using hv
    rw[aH,hlen]at hl;have hmul:(i+1)*sz=i*sz+sz:=by rw[aQ,Nat.one_mul]
    unfold eN;simp only[hv,ne_eq,not_true_eq_false,iY,decide_false,decide_eq_true_eq];rw[if_neg O];have hfold:∀(l:List Value) (j:Nat) (c:Array Value),i*sz+j+l.length<=c.size ->
      ((l.zipIdx j).foldl (λcs (x:Value×Nat)=>cs.setIfInBounds (i*sz+x.2) x.1) c)=(c.toList.take (i*sz+j)++l++c.toList.drop (i*sz+j+l.length)).toArray:=by
     intro l
     induction l with
     |nil=>intro j c hc;simp
     |cons x l ih =>
      intro j c hc;simp only[iI,iP,bA]at hc ⊢;rw[ih (j+1) _ wy];congr 1;apply List.ext_getElem?;intro q;simp only[Array.toList_setIfInBounds,eY,aH,ao,List.length_set,Array.length_toList,bA];by_cases h1:q<i*sz+j
      ·have e1:min (i*sz+(j+1)) c.size=i*sz+j+1:=O;have e2:min (i*sz+j) c.size=i*sz+j:=O;have e3:q<i*sz+j+1+l.length:=O;have e4:q<i*sz+j+(l.length+1):=O;have e5:q<i*sz+j+1:=O;simp only[e1,e2,h1,e3,e4,e5,if_true];simp[show q<i*sz+(j+1) by omega,h1,show i*sz+j≠q by omega]
      by_cases h2:q=i*sz+j
      ·subst h2;have e1:min (i*sz+(j+1)) c.size=i*sz+j+1:=O;have e2:min (i*sz+j) c.size=i*sz+j:=O;have hlt:i*sz+j<c.toList.length:=wy;simp only[e1,e2,Nat.lt_irrefl,if_false,fj];simp[show i*sz+j<i*sz+j+1+l.length by omega,show i*sz+j<i*sz+j+1 by omega,show i*sz+j<c.size by omega]
      have e1:min (i*sz+(j+1)) c.size=i*sz+j+1:=O;have e2:min (i*sz+j) c.size=i*sz+j:=O;have g1:¬q<i*sz+j+1:=O;simp only[e1,e2,h1,g1,if_false];by_cases h3:q<i*sz+j+1+l.length
      ·simp only[h3,if_true,show q<i*sz+j+(l.length+1) by omega];rw[show q-(i*sz+j)=(q-(i*sz+j+1))+1 by omega,List.getElem?_cons_succ]
      simp only[h3,if_false,show ¬q<i*sz+j+(l.length+1) by omega];rw[iz,iz,List.getElem?_set_ne O];congr 1;omega
    have e:=hfold v.cells.toList 0 cur (by rw[hlen];omega);have e0:v.cells.zipIdx.foldl (λcs (x:Value×Nat)=>cs.setIfInBounds (i*sz+x.2) x.1) cur=(v.cells.toList.zipIdx 0).foldl (λcs (x:Value×Nat)=>cs.setIfInBounds (i*sz+x.2) x.1) cur:=by
     rw[<-ff];simp
    rw[e0,e];have:=GZ r (i+1) cs' (cur.toList.take (i*sz+0)++v.cells.toList++cur.toList.drop (i*sz+0+v.cells.toList.length)).toArray hr (by simp[hv];omega);rw[this];congr 2;rw[<-bN];congr 1;have hl2:(cur.toList.take (i*sz)++v.cells.toList).length=(i+1)*sz:=by simp[hv];omega
    simp only[fX];rw[List.take_append_of_le_length (by rw[hl2];exact ay _),<-hl2,eF]
  cases h
theorem Ve{n sz:Nat}{parts:Array (Nat×Operand)}{gd:Option (Nat×Bool)}(ha:JY N m a)(hp:V5 m parts.toList=some ps)(ht:P.underlying t=some (.slice e))(hs:ZZ P e=some (g,sz))(hz:Jw P e=some z)
  (hc:Yr sz 0 ps=some cs) (hl:cs.length=n*sz) (h24:lJ (n*sz) 16777216=true) (hn:bD (n*sz) 0=false) :
  (execOp a.eval ⟨some d,.buildSlice t n parts,ty,pos,aft,gd⟩).run P w = .ok (.value (.slice (some ⟨w.heap.size,0,none⟩) n n)) (w.alloc (.cells cs.toArray e)):=by
 have e1:(parts.map λ(i,x)=>(i,a.eval x)).toList=ps:=by simpa using ha.parts hp
 have hf:=GZ ps 0 cs ((il (n*sz)).map λi=>z.toArray[i%z.toArray.size]!) hc (by simp[hl]);have:=Ej (P:=P) (w:=w) (n:=n) (parts:=parts.map λ(i,x)=>(i,a.eval x)) ht hs hz (wi<|iq h24) (λe=>by rw[e]at hn;cases hn) (by rw[e1];exact hf);simp only[Nat.zero_mul,List.take_zero,eR]at this;simp only[execOp,aq,this,ax,aX]
end
section
variable{d:Option Tmp}{ty:TypeId}{pos:String}{aft:Array Edge}
theorem run_storeCells_at(g:Nat)(t:TypeId):∀(vs:List Value) (i:Nat) (off:Nat) (cur l':List Value) (w:World),w.heap[g]?=some (.cells cur.toArray t (0,0))->(∀v∈vs,v.oneCell'=true)->Yz cur (off+i) vs l' ->
  ∃w',(storeCells ⟨g,off,none⟩ vs i).run P w = .ok () w'/\w'.heap=w.heap.setIfInBounds g (.cells l'.toArray t (0,0))/\w'.os=w.os/\w'.tape=w.tape/\w'.output=w.output/\w'.drawn=w.drawn
 |[],i,off,cur,l',w,hg,_,hp=>by
  have hlt:g<w.heap.size:=by rcases aM g w.heap.size with h | h;exact h;rw[aS h]at hg;cases hg
  have e:l'=cur:=by have:=hp.eq;simpa using this
  subst e;refine⟨w,rfl,?_,rfl,rfl,rfl,rfl⟩;apply fg;intro k;by_cases e:k=g
  ·subst e;rw[hg];simp[hlt]
  rw[fi (lO e)]
 |v::vs,i,off,cur,l',w,hg,h1,hp=>by
  have hle:=hp.le;simp only[bA]at hle;have hadd:(⟨g,off,none⟩:Addr).add i=⟨g,off+i,none⟩:=by unfold ix;split<;>simp_all
  have hlt:g<w.heap.size:=by rcases aM g w.heap.size with h | h;exact h;rw[aS h]at hg;cases hg
  have hcell:w.cell? ⟨g,off+i,none⟩=some (cur[off+i]' O):=by simp[eW,hg,show off+i<cur.length by omega]
  have hfro:w.frozen? ⟨g,off+i,none⟩=false:=by simp[fR,hg]
  have hst:(store ((⟨g,off,none⟩:Addr).add i) v).run P w = .ok () (w.setCell ⟨g,off+i,none⟩ v):=by
   rw[hadd,run_store P w _ v _ (h1 v wv),hcell];simp[hfro]
  have hheap:(w.setCell ⟨g,off+i,none⟩ v).heap=w.heap.setIfInBounds g (.cells (cur.set (off+i) v).toArray t (0,0)):=by
   apply fg;intro k;by_cases e:k=g
   ·subst e;show(w.heap.modify k _)[k]?=_;rw[bP,if_pos rfl,hg];simp[hlt]
   rw[fi (lO e)];simp[fb,bP,lO e]
  have hp2:Yz (cur.set (off+i) v) (off+(i+1)) vs l':=by
   have key:∀(n:Nat) (cur l':List Value),Yz cur n (v::vs) l'->Yz (cur.set n v) (n+1) vs l':=by
    intro n
    induction n with
    |zero=>intro cur l' h;cases h with | here h=>exact .skip h
    |succ n ih=>intro cur l' h;cases h with | skip h=>exact .skip (ih _ _ h)
   exact key _ _ _ hp
  obtain⟨w',h2,h3,h4,h5,h6⟩:=run_storeCells_at g t vs (i+1) off (cur.set (off+i) v) l' (w.setCell ⟨g,off+i,none⟩ v) (by rw[hheap];simp[hlt]) (λx hx=>h1 x (by simp[hx])) hp2;refine⟨w',?_,?_,h4,h5,h6⟩
  ·simp only[storeCells,aq,hst,ax,h2]
  rw[h3,hheap];simp
theorem Bo{v:Value}{n:Nat}{gd:Option (Nat×Bool)}(hx:a.eval x = .pointer (some ⟨b,off,none⟩))(hy:a.eval y=v)(hv:v.cells=vs.toArray)(ht:ZZ P T=some (g,n))(hn:vs.length=n)
  (hb:w.heap[b]?=some (.cells c.toArray T' (0,0))) (hp:Yz c off vs l') (h1:∀v∈vs,v.oneCell'=true) :
  ∃w',(execOp a.eval ⟨d,.store T x y,ty,pos,aft,gd⟩).run P w = .ok .skip w'/\w'.heap=w.heap.setIfInBounds b (.cells l'.toArray T' (0,0))/\w'.os=w.os/\w'.tape=w.tape/\w'.output=w.output/\w'.drawn=w.drawn:=by
 obtain⟨w',h2,h3⟩:=run_storeCells_at (P:=P) b T' vs 0 off c l' w hb h1 hp;refine⟨w',?_,h3⟩;subst hn;simp[execOp,hx,hy,Instr.storeAt,bw,storeVar,hv,Ym ht,h2]
def PT:List Value->Prop
 |[]=>True
 |v::r=>v.oneCell'=true/\PT r
theorem ZC:∀ {l:List Value},PT l->∀v∈l,v.oneCell'=true
 |v::l,⟨h1,h2⟩,u,hu=>by
  rcases List.mem_cons.1 hu with rfl | hu
  ·exact h1
  exact ZC h2 u hu
theorem QV{v:Value}{n:Nat}(hx:ev m x=some (.pointer (some ⟨b,off,none⟩)))(hy:ev m y=some v)(hv:v.cells=vs.toArray)(ht:ZZ P T=some (g,n))(hn:vs.length=n)
  (ho:Own bs b (.cells c.toArray T' (0,0)) f) (hp:Yz c off vs l') (h1:PT vs) (k:JS P ops Q l N m ⟨w0,F0,f (.cells l'.toArray T' (0,0)),G⟩) (hu:GX T'=true:=by rfl):JS P ops Q (⟨none,.store T x y,ty,pos,aft,none⟩::l) N m ⟨w0,F0,bs,G⟩:=λa w ha hw =>
 wpList_plain rfl λ_ hK=>by
  obtain⟨w',h2,h3⟩:=Bo (P:=P) (d:=none) (ty:=ty) (pos:=pos) (aft:=aft) (gd:=none) (ha.ev hx) (ha.ev hy) hv ht hn (hw.own ho) hp (ZC h1);obtain⟨pre,post,e1,e2⟩:=ho.split;subst e1;rw[e2]at k;exact upon_skip h2 (hK _ _ (k _ _ ha (hw.write pre h3 (ZD hu))))
end
inductive H2:List (Nat×Obj)->Nat->Obj->(Obj->List (Nat×Obj))->List (Nat×Obj)->Prop
 |here {b:Nat} {o:Obj} {r:List (Nat×Obj)}:H2 ((b,o)::r) b o (λo'=>(b,o')::r) r
 |there {x:Nat×Obj} {l r:List (Nat×Obj)} {b:Nat} {o:Obj} {f:Obj->List (Nat×Obj)}:H2 l b o f r->H2 (x::l) b o (λo'=>x::f o') (x::r)
theorem H2.own{l r:List (Nat×Obj)}(h:H2 l b o f r):Own l b o f:=by
 induction h with
 |here=>exact .here
 |there h ih=>exact .there ih
theorem H2.sub{l r:List (Nat×Obj)}(h:H2 l b o f r):∀o',r.Sublist (f o'):=by
 induction h with
 |here=>exact λ_=>eP _ _
 |there h ih=>exact λo'=>(ih o').cons_cons _
theorem Jx{G0:Gs->Prop}{pos:String}{v:Value}{n:Nat}(hx:ev m x=some (.pointer (some ⟨b,off,none⟩)))(hy:ev m y=some v)(hv:v.cells=vs.toArray)(ht:ZZ P T=some (g,n))(hn:vs.length=n)
  (ho:H2 bs b (.cells c.toArray T' (0,0)) f bs') (hs:bs0.Sublist bs') (hg0:∀F,G F->G0 F) (hp:Yz c off vs l') (h1:PT vs) (k:JD P ops Q ⟨w0,F0,bs0,G0⟩ l N m ⟨w0,F0,f (.cells l'.toArray T' (0,0)),G⟩) (hu:GX T'=true:=by rfl):JD P ops Q ⟨w0,F0,bs0,G0⟩ (⟨none,.store T x y,ty,pos,aft,none⟩::l) N m ⟨w0,F0,bs,G⟩:=λ_ a w ha hw=>by
  obtain⟨w',h2,h3⟩:=Bo (P:=P) (d:=none) (ty:=ty) (pos:=pos) (aft:=aft) (gd:=none) (ha.ev hx) (ha.ev hy) hv ht hn (hw.own ho.own) hp (ZC h1);have sub:∀o' w,St ⟨w0,F0,f o',G⟩ w->St ⟨w0,F0,bs0,G0⟩ w:=λo' w h=>h.imp (hs.trans (ho.sub o')) hg0;obtain⟨pre,post,e1,e2⟩:=ho.own.split;subst e1;have hS:St ⟨w0,F0,f (.cells l'.toArray T' (0,0)),G⟩ w':=by rw[e2];exact hw.write pre h3 (ZD hu)
  refine .inr ⟨rfl,?_⟩;rw[if_pos (by simp[ar])];exact upon_skip h2 ⟨sub _ _ hS,k (sub _) _ _ ha hS⟩
theorem JE{id:Nat}{l:List Oper}(hb0:bs0.Sublist bs)(hm:P.follows .mixedOrders=true)(hB:lexB .any l=true)(h:JD P l.toArray (XW (Q .normal)) ⟨w0,F0,bs0,G⟩ l N m ⟨w0,F0,bs,G⟩):J P (.region id l.toArray true) Q N m ⟨w0,F0,bs,G⟩ :=
 λa w ha hw=>Mb hm hB (hw.drew.imp hb0 λ_ h=>h) (h (λ_ h=>h.imp hb0 λ_ h=>h) a _ ha hw.drew)
theorem Je{id:Nat}{l:List Oper}(n:Nat)(hb0:bs0.Sublist bs)(hm:P.follows .mixedOrders=true)(hB:Ec l n=true)(zH:lexB .any (l.take n)=true)
  (h:JD P (l.take n).toArray (XW λa w=>wpList P l.toArray Q (l.drop n) a w) ⟨w0,F0,bs0,G⟩ (l.take n) N m ⟨w0,F0,bs,G⟩):J P (.region id l.toArray true) Q N m ⟨w0,F0,bs,G⟩ :=
 λa w ha hw=>GJ n hm hB zH (hw.drew.imp hb0 λ_ h=>h) (h (λ_ h=>h.imp hb0 λ_ h=>h) a _ ha hw.drew)
theorem JN{c:Code}{cs:Array Value}{fr:Nat×Nat}(hr:IG bs b (.cells cs T fr) bs')(k:J P c Q N m ⟨w0,F0,bs',λF=>G F/\F b=some (cs,T)⟩):J P c Q N m ⟨w0,F0,bs,G⟩:=λa w ha hw=>by
 obtain⟨pre,post,rfl,rfl⟩:=hr.split;exact k a w ha (hw.freeze pre)
theorem Nx{cs:Array Value}{fr:Nat×Nat}(hr:IG bs b (.cells cs T fr) bs')(k:JS P ops Q l N m ⟨w0,F0,bs',λF=>G F/\F b=some (cs,T)⟩):JS P ops Q l N m ⟨w0,F0,bs,G⟩:=λa w ha hw=>by
 obtain⟨pre,post,rfl,rfl⟩:=hr.split;exact k a w ha (hw.freeze pre)
def B3:Nat->List Value->Sl
 |_,[]=>[]
 |k,v::r=>(k,v)::B3 (k+1) r
theorem V9:∀(args:List Value) (k t:Nat) (v:Value),look (B3 k args) t=some v->k<=t/\args[t-k]?=some v
 |[],k,t,v,h=>by simp[B3,look]at h
 |u::r,k,t,v,h=>by
  simp only[B3,look]at h;cases hb:bD k t with
  |true =>
   rw[hb]at h;have:k=t:=by simpa using hb
   subst this;simpa using h
  |false =>
   rw[hb]at h;obtain⟨h1,h2⟩:=V9 r (k+1) t v (by simpa using h);refine⟨O,?_⟩;rw[show t-k=(t-(k+1))+1 by omega];simpa using h2
omit [Df] in
theorem QS.intro{f:FuncId}{c:Code}{val:γ->Value}{fact:γ->Gs->Prop}{G:Gs->Prop}(hf:P.funcs[f]?=some fn)(hb:fn.body=some c)(hn:(fn.name == "runtime.NumGoroutine")=false)(hN:fn.ntmps=N)(hl:lJ args.length N=true)
  (hw:Fits F w) (hg:∀F',Gs.le F F'->G F') (h:J (df:=Y0) P c (bodyPost P fn (Dc w F val fact)) N (B3 0 args) ⟨w,F,[],G⟩):QS P f args w F val fact:=by
 refine⟨enters_of hf hn (by rw[hb];rfl),calls_of_wp hf hb (h _ w ⟨?_,rfl,λt v ht=>?_⟩ (St.start hw hg))⟩
 ·have:=iq hl
  simp[hN];omega
 obtain⟨_,h2⟩:=V9 args 0 t v ht
 have hlt:t<args.length:=by rcases aM t args.length with g | g;exact g;rw[lI,fZ g]at h2;cases h2
 simp only[lI]at h2
 rw[Array.getElem?_append,if_pos (by simpa using hlt)]
 simpa using h2
theorem QS.go{f:FuncId}{c:Code}{val:γ->Value}{fact:γ->Gs->Prop}{G:Gs->Prop}[u:Up G](hf:P.funcs[f]?=some fn)(hw:Fits F w)(hg:G F)
  (h:J (df:=Y0) P c (bodyPost P fn (Dc w F val fact)) N (B3 0 args) ⟨w,F,[],G⟩) (hb:fn.body=some c:=by rfl) (hn:(fn.name == "runtime.NumGoroutine")=false:=by rfl) (hN:fn.ntmps=N:=by rfl) (hl:lJ args.length N=true:=by rfl):QS P f args w F val fact :=
 QS.intro hf hb hn hN hl hw (λ_ k=>u.up k hg) h
omit [Df] in
theorem ka{val:γ->Value}{fact:γ->Gs->Prop}{bs:List (Nat×Obj)}{G:Gs->Prop}(c:γ)(hr:∀a w,JY (df:=Y0) N m a->St ⟨w0,F0,bs,G⟩ w->(results fn a.tmps).run P w = .ok (val c) w)(hg:∀F,G F->fact c F):Fin (df:=Y0) (bodyPost P fn (Dc w0 F0 val fact)) .ret N m ⟨w0,F0,bs,G⟩:=λa w ha hw=>by
 obtain⟨F,h⟩:=id hw
 exact⟨ha.df,val c,hr a w ha hw,c,F,rfl,h.ext,h.le,h.old,h.fits,λF' hF'=>hg F' (h.g F' hF')⟩
inductive Hz(P:Program)(m:Sl)(bs:List (Nat×Obj)):List ResultVar->List Value->Prop
 |nil:Hz P m bs [] []
 |tmp {t:Tmp} {v:Value} {r:List ResultVar} {vs:List Value} (h:look m t=some v) (k:Hz P m bs r vs):Hz P m bs (.tmp t::r) (v::vs)
 |kC {t:Tmp} {T T':TypeId} {b n:Nat} {c:List Value} {v:Value} {fr:Nat×Nat} {f:Obj->List (Nat×Obj)} {r:List ResultVar} {vs:List Value} (h:look m t=some (.pointer (some ⟨b,0,none⟩))) (ht:ZZ P T=some (false,n)) (ho:Own bs b (.cells c.toArray T' fr) f) (hg:DE c 0 [v]) (k:Hz P m bs r vs):Hz P m bs (.cell t T::r) (v::vs)
 |J5 {t:Tmp} {T T':TypeId} {b:Nat} {c:List Value} {fr:Nat×Nat} {f:Obj->List (Nat×Obj)} {r:List ResultVar} {vs:List Value} (h:look m t=some (.pointer (some ⟨b,0,none⟩))) (ht:ZZ P T=some (true,c.length)) (ho:Own bs b (.cells c.toArray T' fr) f) (k:Hz P m bs r vs):Hz P m bs (.cell t T::r) (.agg c.toArray::vs)
def Wj(tmps:Array Value):ResultVar->Sem Value
 |.tmp t=>pure (tmps.getD t undef)
 |.cell p t=>do loadVar t (<-asAddr (tmps.getD p undef))
theorem Hz.run(h:Hz P m bs rs vs){a:Act}{w:World}(ha:JY N m a)(hw:St ⟨w0,F0,bs,G⟩ w):
  (rs.mapM (Wj a.tmps)).run P w = .ok vs w:=by
 induction h with
 |nil=>rfl
 |tmp h k ih =>
  rename_i t v r vs;have e:=ha.get _ _ h;have e2:(Wj a.tmps (.tmp t)).run P w = .ok v w:=by simp[Wj,e]
  rw[fK,aq,e2];simp[ih]
 |kC h ht ho hg k ih =>
  rename_i t T T' b n c v fr f r vs;have e:=ha.get _ _ h;have hc:=Zm (hw.own ho) (o:=0);have:=hg.at 0 _ I;simp only[eQ]at this;rw[this]at hc;have e2:(Wj a.tmps (.cell t T)).run P w = .ok v w:=by simp[Wj,e,asAddr,YG ht hc]
  rw[fK,aq,e2];simp[ih]
 |J5 h ht ho k ih =>
  rename_i t T T' b c fr f r vs;have e:=ha.get _ _ h;have:=KI (P:=P) ht rfl (w:=w) (b:=b) (off:=0) (λj v hv=>by rw[eQ,Zm (hw.own ho)];exact hv);have e2:(Wj a.tmps (.cell t T)).run P w = .ok (.agg c.toArray) w:=by simp[Wj,e,asAddr,this]
  rw[fK,aq,e2];simp[ih]
theorem Tj(fn:Func)(tmps:Array Value):results fn tmps=(do let vs <-fn.results.mapM (Wj tmps);pure (if h:vs.size=1 then vs[0]else .tuple vs)):=by
 unfold results;exact congrArg (λ(g:ResultVar->Sem Value)=>(do let vs <-fn.results.mapM g;pure (if h:vs.size=1 then vs[0]else .tuple vs):Sem Value)) (funext λx=>by cases x<;>rfl)
theorem Wi{rs:List ResultVar}{vs:List Value}(hrs:fn.results=rs.toArray)(h:Hz P m bs rs vs){a:Act}{w:World}(ha:JY N m a)(hw:St ⟨w0,F0,bs,G⟩ w):
  (results fn a.tmps).run P w = .ok (match vs with | [v]=>v | vs=>.tuple vs.toArray) w:=by
 have:=h.run ha hw;rw[Tj,hrs,List.mapM_toArray];simp only[aq,Sem.run_map,this,ax,aX]
 match vs with
 |[]=>rfl
 |[v]=>rfl
 |v::u::r=>rfl
omit [Df] in
theorem QM{val:γ->Value}{fact:γ->Gs->Prop}{bs:List (Nat×Obj)}{G:Gs->Prop}{v:Value}(c:γ)(hrs:fn.results=rs.toArray)(h:Hz P m bs rs [v])(hv:val c=v)(hg:∀F,G F->fact c F):Fin (df:=Y0) (bodyPost P fn (Dc w0 F0 val fact)) .ret N m ⟨w0,F0,bs,G⟩ :=
 ka c (λa w ha hw=>by rw[hv];exact Wi hrs h ha hw) hg
omit [Df] in
theorem X4{val:γ->Value}{fact:γ->Gs->Prop}{bs:List (Nat×Obj)}{G:Gs->Prop}{v u:Value}(c:γ)(hrs:fn.results=rs.toArray)(h:Hz P m bs rs (v::u::vs))(hv:val c = .tuple (v::u::vs).toArray)(hg:∀F,G F->fact c F):Fin (df:=Y0) (bodyPost P fn (Dc w0 F0 val fact)) .ret N m ⟨w0,F0,bs,G⟩ :=
 ka c (λa w ha hw=>by rw[hv];exact Wi hrs h ha hw) hg
end
end
section
variable[Dr][df:Df]
section
variable{P:Program}{N:Nat}{m:Sl}{S:World->Prop}{ty:TypeId}{v:Value}
def kD:BinOp->Value->Value->Option Value
 |.add,.int .i64 a,.int .i64 b=>some (.int .i64 (IntKind.i64.wrap (a+b)))
 |.sub,.int .i64 a,.int .i64 b=>some (.int .i64 (IntKind.i64.wrap (a-b)))
 |.mul,.int .i64 a,.int .i64 b=>some (.int .i64 (IntKind.i64.wrap (a*b)))
 |.add,.int .u64 a,.int .u64 b=>some (.int .u64 (IntKind.u64.wrap (a+b)))
 |.sub,.int .u64 a,.int .u64 b=>some (.int .u64 (IntKind.u64.wrap (a-b)))
 |.mul,.int .u64 a,.int .u64 b=>some (.int .u64 (IntKind.u64.wrap (a*b)))
 |.eql,.int .i64 a,.int .i64 b=>some (.bool (a==b))
 |.neq,.int .i64 a,.int .i64 b=>some (.bool (a != b))
 |.lss,.int .i64 a,.int .i64 b=>some (.bool (decide (a<b)))
 |.leq,.int .i64 a,.int .i64 b=>some (.bool (decide (a<=b)))
 |.gtr,.int .i64 a,.int .i64 b=>some (.bool (decide (a>b)))
 |.geq,.int .i64 a,.int .i64 b=>some (.bool (decide (a>=b)))
 |.eql,.int .u64 a,.int .u64 b=>some (.bool (a==b))
 |.neq,.int .u64 a,.int .u64 b=>some (.bool (a != b))
 |.lss,.int .u64 a,.int .u64 b=>some (.bool (decide (a<b)))
 |.leq,.int .u64 a,.int .u64 b=>some (.bool (decide (a<=b)))
 |.gtr,.int .u64 a,.int .u64 b=>some (.bool (decide (a>b)))
 |.geq,.int .u64 a,.int .u64 b=>some (.bool (decide (a>=b)))
 |.eql,.int .u8 a,.int .u8 b=>some (.bool (a==b))
 |.neq,.int .u8 a,.int .u8 b=>some (.bool (a != b))
 |.lss,.int .u8 a,.int .u8 b=>some (.bool (decide (a<b)))
 |.leq,.int .u8 a,.int .u8 b=>some (.bool (decide (a<=b)))
 |.gtr,.int .u8 a,.int .u8 b=>some (.bool (decide (a>b)))
 |.geq,.int .u8 a,.int .u8 b=>some (.bool (decide (a>=b)))
 |.eql,.int .i32 a,.int .i32 b=>some (.bool (a==b))
 |.neq,.int .i32 a,.int .i32 b=>some (.bool (a != b))
 |.lss,.int .i32 a,.int .i32 b=>some (.bool (decide (a<b)))
 |.leq,.int .i32 a,.int .i32 b=>some (.bool (decide (a<=b)))
 |.gtr,.int .i32 a,.int .i32 b=>some (.bool (decide (a>b)))
 |.geq,.int .i32 a,.int .i32 b=>some (.bool (decide (a>=b)))
 |.eql,.string a,.string b=>some (.bool (a.toList==b.toList))
 |.neq,.string a,.string b=>some (.bool (!(a.toList==b.toList)))
 |_,_,_=>none
theorem L6{op:BinOp}{T:TypeId}{x y:Operand}{vx vy:Value}(h:kD op vx vy=some v)(w:World):(do eqGuard op T x y vx vy;binOp op T vx vy:Sem Value).run P w = .ok v w:=by
  unfold kD at h;split at h<;>first
    | (cases h;done)
    | (simp only[aG]at h
       subst h;simp[eqGuard,binOp,Op.intArith,Op.intCmp,Op.stringOp])
theorem QP{op:BinOp}{vx vy:Value}(hx:ev m x=some vx)(hy:ev m y=some vy)(h:kD op vx vy=some v):Qt P N m S (.binOp op T x y yT) ty v:=λa w _ _ _ _ ha _=>by
 have:=L6 (P:=P) (T:=T) (x:=x) (y:=y) h w;simp only[execOp,ha.ev hx,ha.ev hy];simp only[aq]at this ⊢;rw[this];rfl
theorem Qn{a b:Int}(hx:ev m x=some (.int .i64 a))(hy:ev m y=some (.int .i64 b))(h : -9223372036854775808<=a+b/\a+b<=9223372036854775807):Qt P N m S (.binOp .add T x y yT) ty (.int .i64 (a+b)):=by
 have:=QP (P:=P) (N:=N) (m:=m) (S:=S) (ty:=ty) (T:=T) (yT:=yT) (op:=.add) hx hy rfl;rw[bj _ h]at this;exact this
theorem Jg{a b:Int}(hx:ev m x=some (.int .i64 a))(hy:ev m y=some (.int .i64 b))(h : -9223372036854775808<=a-b/\a-b<=9223372036854775807):Qt P N m S (.binOp .sub T x y yT) ty (.int .i64 (a-b)):=by
 have:=QP (P:=P) (N:=N) (m:=m) (S:=S) (ty:=ty) (T:=T) (yT:=yT) (op:=.sub) hx hy rfl;rw[bj _ h]at this;exact this
theorem VV{a b:Int}(hx:ev m x=some (.int .i64 a))(hy:ev m y=some (.int .i64 b))(h : -9223372036854775808<=a*b/\a*b<=9223372036854775807):Qt P N m S (.binOp .mul T x y yT) ty (.int .i64 (a*b)):=by
 have:=QP (P:=P) (N:=N) (m:=m) (S:=S) (ty:=ty) (T:=T) (yT:=yT) (op:=.mul) hx hy rfl;rw[bj _ h]at this;exact this
theorem U8{k:IntKind}{a b:Int}(hx:ev m x=some (.int k a))(hy:ev m y=some (.int k b))(h:b≠0):Qt P N m S (.binOp .quo T x y yT) ty (.int k (k.wrap (a.tdiv b))):=λs w _ _ _ _ ha _=>by
 simp[execOp,ha.ev hx,ha.ev hy,eqGuard,binOp,Op.intDiv,h]
theorem yM{k:IntKind}{a b:Int}(hx:ev m x=some (.int k a))(hy:ev m y=some (.int k b))(h:b≠0):Qt P N m S (.binOp .rem T x y yT) ty (.int k (a.tmod b)):=λs w _ _ _ _ ha _=>by
 simp[execOp,ha.ev hx,ha.ev hy,eqGuard,binOp,Op.intDiv,h]
theorem VT{a b:Int}(hx:ev m x=some (.int .i64 a))(hy:ev m y=some (.int .i64 b))(ha:0<=a)(ha':a<=9223372036854775807)(hb:0<b):Qt P N m S (.binOp .quo T x y yT) ty (.int .i64 (a/b)):=by
 have:=U8 (P:=P) (N:=N) (m:=m) (S:=S) (ty:=ty) (T:=T) (yT:=yT) hx hy O;have e:a.tdiv b=a/b:=fO ha;have h0:0<=a/b:=aK ha O;have h1:a/b<=a:=Int.ediv_le_self b ha;rw[e,bj _ ⟨O,O⟩]at this;exact this
theorem Y8{k:IntKind}{a b:Int}(hx:ev m x=some (.int k a))(hy:ev m y=some (.int k b))(ha:0<=a)(hb:0<b):Qt P N m S (.binOp .rem T x y yT) ty (.int k (a%b)):=by
 have:=yM (P:=P) (N:=N) (m:=m) (S:=S) (ty:=ty) (T:=T) (yT:=yT) hx hy O;rw[Int.tmod_eq_emod_of_nonneg ha]at this;exact this
theorem OR{a b:ByteArray}(hx:ev m x=some (.string a))(hy:ev m y=some (.string b))(h:((a.size+b.size:Nat):Int)<=9223372036854775807):Qt P N m S (.binOp .add T x y yT) ty (.string (a++b)):=λs w _ _ _ _ ha _=>by
 have h':¬((a.size+b.size:Nat):Int)>IntKind.i64.max:=by
  have:IntKind.i64.max=9223372036854775807:=wk;omega
 simp only[execOp,ha.ev hx,ha.ev hy,eqGuard,binOp,Op.stringOp,if_neg h'];rfl
theorem Xv{b:Bool}(hx:ev m x=some (.bool b)):Qt P N m S (.unOp .not T x) ty (.bool (!b)):=λs w _ _ _ _ ha _=>by
 simp[execOp,ha.ev hx,Op.unary]
def NW(P:Program)(T:TypeId):Option IntKind:=match P.underlying T with
 |some (.int k)=>some k
 |_=>none
theorem NH{src dst:TypeId}{k:IntKind}{n:Int}(hx:ev m x=some (.int k' n))(hs:(P.underlying src).isSome=true)(hk:NW P dst=some k):Qt P N m S (.convert src dst x) ty (.int k (k.wrap n)):=λs w _ _ _ _ ha _=>by
 obtain⟨d,hd⟩:=Option.isSome_iff_exists.1 hs;unfold NW at hk;split at hk
 ·rename_i k'' hu;cases hk;simp only[execOp,ha.ev hx,convert,aq,run_underlying hd,run_underlying hu,ax];rfl
 cases hk
theorem SU{n:Int}(h : -9223372036854775808<=n/\n<=9223372036854775807):IntKind.i64.wrap n=n:=bj _ h
theorem NI{src dst:TypeId}{n:Int}(hx:ev m x=some (.int k' n))(hs:(P.underlying src).isSome=true)(hk:NW P dst=some .i64)(h : -9223372036854775808<=n/\n<=9223372036854775807):Qt P N m S (.convert src dst x) ty (.int .i64 n):=by
 have:=NH (P:=P) (N:=N) (m:=m) (S:=S) (ty:=ty) hx hs hk;rw[SU h]at this;exact this
def WE(P:Program)(T:TypeId):Bool:=match P.underlying T with
 |some .string=>true
 |_=>false
theorem Zl{b:Builtin}{args:Array Operand}{tys:Array TypeId}{d:Option Tmp}{pos:String}{g:Option (Nat×Bool)}:execOp a.eval ⟨d,.call ⟨.builtin b,args,tys⟩,ty,pos,aft,g⟩=builtin b tys ty (args.map λ| .const _=>true | _=>false) (args.map a.eval):=rfl
theorem OP{s:ByteArray}(hx:ev m x=some (.string s))(hT:WE P T=true):Qt P N m S (.call ⟨.builtin .len,#[x],#[T]⟩) ty (.int .i64 s.size):=λa w _ _ _ _ ha _=>by
 unfold WE at hT;split at hT
 ·rename_i hu;rw[Zl];simp[builtin,iR,ha.ev hx,run_underlying hu,goInt]
 cases hT
def GI(P:Program)(T:TypeId):Option TypeId:=match P.underlying T with
 |some (.slice e)=>some e
 |_=>none
theorem J2(h:GI P T=some e):P.underlying T=some (.slice e):=by
 unfold GI at h;split at h
 ·cases h;assumption
 cases h
theorem Qc{n c:Nat}(hx:ev m x=some (.slice q n c))(hT:GI P T=some e):Qt P N m S (.call ⟨.builtin .len,#[x],#[T]⟩) ty (.int .i64 n):=λa w _ _ _ _ ha _=>by
 rw[Zl];simp[builtin,iR,ha.ev hx,run_underlying (J2 hT),goInt]
theorem QA1{a b:Int}(hx:ev m x=some (.int .i64 a))(hy:ev m y=some (.int .i64 b)):Qt P N m S (.call ⟨.builtin .min,#[x,y],#[T,T']⟩) ty (.int .i64 (if b<a then b else a)):=λs w _ _ _ _ ha _=>by
 rw[Zl];simp[builtin,ha.ev hx,ha.ev hy,Builtin.min_,Builtin.min2]
theorem IU{a b:Int}(hx:ev m x=some (.int .i64 a))(hy:ev m y=some (.int .i64 b)):Qt P N m S (.call ⟨.builtin .max,#[x,y],#[T,T']⟩) ty (.int .i64 (if b>a then b else a)):=λs w _ _ _ _ ha _=>by
 rw[Zl];simp[builtin,ha.ev hx,ha.ev hy,Builtin.max_,Builtin.max2]
theorem OQ{s:ByteArray}{i:Nat}(hx:ev m x=some (.string s))(hy:ev m y=some (.int .i64 (i:Int)))(hT:WE P T=true)(hi:i<s.size):Qt P N m S (.index T x y) ty (.int .u8 (s.data[i].toNat:Int)):=λa w _ _ _ _ ha _=>by
 unfold WE at hT;split at hT
 ·rename_i hu;have e:s[i]?=some (s.data[i]):=by
   rw[getElem?_pos s i hi];rfl
  simp[execOp,ha.ev hx,ha.ev hy,Instr.index,asIntOf,run_underlying hu,e]
 cases hT
theorem PF{s:ByteArray}{lo hi:Option Value}{l h:Nat}(hT:WE P T=true)(hlo:(lo=none/\l=0)\/lo=some (.int .i64 (l:Int)))(hhi:(hi=none/\h=s.size)\/hi=some (.int .i64 (h:Int)))(h1:l<=h)(h2:h<=s.size)(w:World):
  (lH T (.string s) lo hi none).run P w = .ok (.string (s.extract l h)) w:=by
 unfold WE at hT;split at hT
 ·rename_i hu;rcases hlo with ⟨rfl,rfl⟩ | rfl<;>rcases hhi with ⟨rfl,rfl⟩ | rfl <;>
   simp[lH,run_underlying hu,Instr.sliceBounds,Instr.sliceBound,asIntOf,h1,h2]
 cases hT
def RD(m:Sl):Option Operand->Option (Option Value)
 |none=>some none
 |some x=>(ev m x).map some
theorem JY.RD(h:JY N m a){x:Option Operand}{v:Option Value}(hx:RD m x=some v):x.map a.eval=v:=by
 cases x with
 |none=>simpa[YtphlgddkpboamaaGreatDoor.RD]using hx
 |some x =>
  cases hv:YtphlgddkpboamaaGreatDoor.ev m x with
  |none=>simp[YtphlgddkpboamaaGreatDoor.RD,hv]at hx
  |some u=>simp[YtphlgddkpboamaaGreatDoor.RD,hv]at hx;simp[h.ev hv,hx]
theorem Tp{lo hi:Option Operand}{vl vh:Option Value}{s:ByteArray}{l h:Nat}(hx:ev m x=some (.string s))(el:RD m lo=some vl)(eh:RD m hi=some vh)(hT:WE P T=true)
  (hlo:(vl=none/\l=0)\/vl=some (.int .i64 (l:Int))) (hhi:(vh=none/\h=s.size)\/vh=some (.int .i64 (h:Int))) (h1:l<=h) (h2:h<=s.size):Qt P N m S (.slice T x lo hi none) ty (.string (s.extract l h)):=λa w _ _ _ _ ha _=>by
 have e:=PF (P:=P) hT hlo hhi h1 h2 w;unfold WE at hT;split at hT
 ·rename_i hu;simp[execOp,ha.ev hx,ha.RD el,ha.RD eh,Instr.sliceAt,run_underlying hu,e]
 cases hT
end
end
section
variable[Dr][df:Df]
section
variable{P:Program}{Q:Exit->Act->World->Prop}{N:Nat}{m:Sl}{E E0:Env}{ops:Array Oper}{l:List Oper}{w0:World}{F0:Gs}{bs:List (Nat×Obj)}{G:Gs->Prop}{ty:TypeId}{v:Value}{S:World->Prop}
theorem WS(b off k:Nat):(⟨b,off,none⟩:Addr).add k=⟨b,off+k,none⟩:=by simp[ix]
theorem Qm{n c sz i:Nat}(hx:ev m x=some (.slice (some ⟨b,off,none⟩) n c))(hy:ev m y=some (.int .i64 (i:Int)))(hT:GI P T=some e)(hs:ZZ P e=some (g,sz))(hi:i<n):Qt P N m S (.indexAddr T x y) ty (.pointer (some ⟨b,off+i*sz,none⟩)):=λa w _ _ _ _ ha _=>by
 simp[execOp,ha.ev hx,ha.ev hy,Instr.indexAt,asIntOf,run_underlying (J2 hT),Ym hs,hi,WS]
theorem Xh{n:Nat}{fr:Nat×Nat}{f:Obj->List _}(h:ev m x=some (.pointer (some ⟨b,off,none⟩)))(ht:ZZ P T=some (false,n))(ho:Own bs b (.cells c.toArray T' fr) f)(hg:c[off]?=some v):
  Qt P N m (St ⟨w0,F0,bs,G⟩) (.load T x) ty v:=λa w _ _ _ _ ha hw=>by
 have hc:w.cell? ⟨b,off,none⟩=some v:=by rw[Zm (hw.own ho)];exact hg
 simp[execOp,ha.ev h,eM,bw,YG ht hc]
theorem Yz.mk':∀(n:Nat) (l vs:List Value),n+vs.length<=l.length->Yz l n vs (l.take n++vs++l.drop (n+vs.length))
 |0,l,[],_=>by simpa using Yz.nil
 |0,x::l,v::vs,h=>by
  have:=Yz.mk' 0 l vs (by simp_all);exact .here this
 |n+1,x::l,vs,h=>by
  have:=Yz.mk' n l vs (by grind);rw[iF];simpa using Yz.skip this
 |0,[],v::vs,h=>by grind
 |n+1,[],vs,h=>by grind
inductive Q6(T:TypeId)(sz:Nat):Value->Nat->List Value->List (Nat×Obj)->Prop
 |nil:Q6 T sz (.slice none 0 0) 0 [] []
 |some {b n cap:Nat} {l rest:List Value} (h1:l.length=n*sz) (h2:l.length+rest.length=cap*sz) (h3:n<=cap) (h4:cap<=maxLen):Q6 T sz (.slice (some ⟨b,0,none⟩) n cap) n l [(b,.cells (l++rest).toArray T (0,0))]
structure Src(E:Env)(sz:Nat)(x:Value)(k:Nat)(news:List Value):Prop where
 len:news.length=k*sz
 rd:((∃c,x = .slice none 0 c)/\k=0/\news=[])\/∃a c,x = .slice (some a) k c/\∀w,St E w->∀j v,news[j]?=some v->w.cell? (a.add j)=some v
theorem Src.row{sz c:Nat}{cs:Array Value}(hr:∀F,G F->F b=some (cs,T))(hg:∀j v,news[j]?=some v->cs[off+j]?=some v)(hl:news.length=k*sz):Src ⟨w0,F0,bs,G⟩ sz (.slice (.some ⟨b,off,none⟩) k c) k news :=
 ⟨hl,.inr ⟨_,_,rfl,λw hw j v hv=>by rw[WS];exact cell_of_row hw hr (hg j v hv)⟩⟩
theorem Src.nil{sz c:Nat}:Src E sz (.slice none 0 c) 0 []:=⟨wv,.inl ⟨⟨_,rfl⟩,rfl,rfl⟩⟩
def Zf(P:Program)(T:TypeId):Option Nat:=(P.info? T).map (·.bytes)
theorem GM{sz:Nat}{x:Value}(hl:news.length=k*sz)(h:((∃c,x = .slice none 0 c)/\k=0/\news=[])\/∃a c,x = .slice (some a) k c/\∀j v,news[j]?=some v->w.cell? (a.add j)=some v):
  (ig sz k x).run P w = .ok news.toArray w:=by
 rcases h with ⟨⟨_,rfl⟩,rfl,rfl⟩ | ⟨a,c,rfl,h⟩
 ·rfl
 grind[run_firstCells_some]
theorem WL{sz n:Nat}{x y:Value}{olds:List Value}{ob:List (Nat×Obj)}(ht:GI P t=some e)(hs:ZZ P e=some (g,sz))(hz:Jw P e=some z)(hzl:z.length=sz)(hby:Zf P e=some bytes)
  (hr:Q6 e sz x n olds ob) (hs2:Src ⟨w0,F0,ob++bs,G⟩ sz y k news) (hw:St ⟨w0,F0,ob++bs,G⟩ w) (h63:n+k<=9223372036854775807) (h47:(n+k)*bytes<=140737488355328) (h1:∀v∈news,v.oneCell'=true) (hu:GX e=true) :
  ∃v' ob' w',(eH #[t,t] ty #[x,y]).run P w = .ok v' w'/\Q6 e sz v' (n+k) (olds++news) ob'/\St ⟨w0,F0,ob'++bs,G⟩ w':=by
 have hi:∃i,P.info? e=some i/\i.size=sz/\i.bytes=bytes/\∃zv,i.zero=some zv/\zv.cells=z.toArray:=by
  unfold Zf at hby;unfold Jw at hz;unfold ZZ at hs;cases hie:P.info? e with
  |none=>simp_all
  |some i =>
   rw[hie]at hby hz hs;dsimp only at hz hs;simp only[eI,aG]at hby;refine⟨i,rfl,?_,hby,?_⟩
   ·grind
   cases hzz:i.zero<;>grind
 obtain⟨i,hi1,hi2,hi3,zv,hi4,hi5⟩:=hi;subst hi2 hi3;have hzc:∀q,(aD zv.cells q).toList.length=q*i.size:=λq=>by grind[aD]
 have hu':∀c fr c' fr',Obj.cells c e fr≠.cells c' 283 fr':=λc fr=>ZD hu;have new:∀ {w':World} (l rest:List Value) (v':Value) (cap:Nat) (bs':List (Nat×Obj)),St ⟨w0,F0,bs',G⟩ w'->bs.Sublist bs'->v' = .slice (some ⟨w'.heap.size,0,none⟩) (n+k) cap->l.length=(n+k)*i.size->l.length+rest.length=cap*i.size->n+k<=cap->cap<=maxLen ->
   ∃ob',Q6 e i.size v' (n+k) l ob'/\St ⟨w0,F0,ob'++bs,G⟩ (w'.alloc (.cells (l++rest).toArray e)):=by
  intro w' l rest v' cap bs' hw' hsub hv' h2 h3 h4 h5;subst hv';exact⟨_,.some h2 h3 h4 h5,(hw'.imp hsub λ_ h=>h).alloc _ (hu' _ _)⟩
 have hcut:∀need old,need<=9223372036854775807->need<=grownCap w need old e:=λneed old _=>grownCap_ge w need old e;cases hr with
 |nil =>
  simp only[eQ,eR]at *
  rcases hs2.rd with ⟨⟨_,rfl⟩,rfl,rfl⟩ | ⟨a,c,rfl,hrd⟩
  ·refine⟨.slice none 0 0,[],w,?_,.nil,hw⟩;simp[eH,run_underlying (J2 ht),sizeOf,typeInfo,hi1,fG,ig]
  by_cases hk:k=0
  ·subst hk;have hn0:news=[]:=by have:=hs2.len;simp_all
   subst hn0;refine⟨.slice none 0 0,[],w,?_,.nil,hw⟩;have:=run_firstCells_some (P:=P) w i.size 0 a 0 c [] wv (λj v hv=>by grind);simp[eH,run_underlying (J2 ht),sizeOf,typeInfo,hi1,fG,this]
  have hrun:=run_append_nil (P:=P) (w:=w) t ty e i zv (J2 ht) hi1 hi4 a k c news hs2.len (hrd w hw) O O O;have hge:=hcut k 0 h63;obtain⟨ob',h2,h3⟩:=new news (aD zv.cells (grownCap w k 0 e-k)).toList _ (grownCap w k 0 e) bs hw.drew QKK rfl hs2.len (by rw[hzc,hs2.len,<-aQ];simp_all) hge (grownCap_le_maxLen w k 0 e (by trivial));refine⟨_,ob',_,hrun,h2,?_⟩;have e1:(news++(aD zv.cells (grownCap w k 0 e-k)).toList).toArray=news.toArray++aD zv.cells (grownCap w k 0 e-k):=by apply lN;simp
  grind
 |some g1 g2 g3 g4 =>
  rename_i b cap rest;have hbw:w.heap[b]?=some (.cells (olds++rest).toArray e (0,0)):=hw.own (f:=λo'=>(b,o')::bs) .here;have hold:∀j v,olds[j]?=some v->w.cell? ((⟨b,0,none⟩:Addr).add j)=some v:=λj v hv=>by
   rw[WS,eQ,Zm hbw,eY];have:j<olds.length:=by rcases aM j olds.length with q | q;exact q;rw[fZ q]at hv;cases hv
   rw[if_pos this];exact hv
  by_cases hroom:n+k<=cap
  ·have hmul:(n+k)*i.size<=cap*i.size:=bY _ hroom;rw[aQ]at hmul;have hp:=Yz.mk' (n*i.size) (olds++rest) news (by rw[aH,hs2.len];omega);obtain⟨w',h2,h3⟩:=run_storeCells_at (P:=P) b e news 0 (n*i.size) (olds++rest) _ w hbw h1 hp;have e1:(olds++rest).take (n*i.size)=olds:=by rw[<-g1];simp
   have e2:(olds++rest).drop (n*i.size+news.length)=rest.drop news.length:=by
    rw[<-g1,List.drop_append,List.drop_of_length_le O,fV,eR]
   rw[e1,e2]at h3;have hfc:=GM (P:=P) (w:=w) hs2.len (hs2.rd.imp id λ⟨a,c,h,h'⟩=>⟨a,c,h,h' w hw⟩);refine⟨.slice (some ⟨b,0,none⟩) (n+k) cap,[(b,.cells (olds++news++rest.drop news.length).toArray e (0,0))],w',?_,.some ?_ ?_ hroom g4,?_⟩
   ·have hlen:(fG y).run P w = .ok k w:=by
     rcases hs2.rd with ⟨⟨_,rfl⟩,rfl,_⟩ | ⟨a,c,rfl,_⟩<;>rfl
    simp[eH,run_underlying (J2 ht),sizeOf,typeInfo,hi1,hlen,hroom,hfc,WS,h2]
   ·rw[aH,g1,hs2.len,aQ]
   ·rw[aH,iJ,hs2.len,g1];omega
   exact St.write [] hw h3 (hu' _ _)
  rcases hs2.rd with ⟨⟨_,rfl⟩,rfl,rfl⟩ | ⟨a,c,rfl,hrd⟩
  ·exact absurd g3 hroom
  have hfit:=growslice_fits (need:=n+k) (old:=cap) (bytes:=i.bytes) O h47;have hrun:=run_append_grow (P:=P) (w:=w) t ty e i zv (J2 ht) hi1 hi4 ⟨b,0,none⟩ n cap olds g1 hold a k c news hs2.len (hrd w hw) O O hfit;have hge:=hcut (n+k) cap h63;have hl2:(olds++news).length=(n+k)*i.size:=by rw[aH,g1,hs2.len,aQ]
  obtain⟨ob',h2,h3⟩:=new (olds++news) (aD zv.cells (grownCap w (n+k) cap e-(n+k))).toList _ (grownCap w (n+k) cap e) _ hw.drew (eP _ _) rfl hl2 (by rw[hzc,hl2,<-aQ];congr 1;omega) hge (grownCap_le_maxLen w (n+k) cap e (by simp only[maxLen];omega));refine⟨_,ob',_,hrun,h2,?_⟩;have e1:(olds++news++(aD zv.cells (grownCap w (n+k) cap e-(n+k))).toList).toArray=olds.toArray++news.toArray++aD zv.cells (grownCap w (n+k) cap e-(n+k)):=by apply lN;simp
  rw[e1]at h3;exact h3
theorem EP{d:Nat}{pos:String}{sz n:Nat}{X Y:Operand}{x y:Value}{olds:List Value}{ob:List _}(hx:ev m X=some x)(hy:ev m Y=some y)(ht:GI P t=some e)(hs:ZZ P e=some (g,sz))(hz:Jw P e=some z)(hzl:z.length=sz)(hby:Zf P e=some bytes)
  (hr:Q6 e sz x n olds ob) (hs2:Src ⟨w0,F0,ob++bs,G⟩ sz y k news) (h63:n+k<=9223372036854775807) (h47:(n+k)*bytes<=140737488355328) (h1:∀v∈news,v.oneCell'=true)
  (kk:∀v' ob',Q6 e sz v' (n+k) (olds++news) ob'->JS P ops Q l N ((d,v')::m) ⟨w0,F0,ob'++bs,G⟩) (hu:GX e=true:=by rfl) (hd:J1 N (some d)=true:=by rfl) :
  JS P ops Q (⟨some d,.call ⟨.builtin .append,#[X,Y],#[t,t]⟩,ty,pos,aft,none⟩::l) N m ⟨w0,F0,ob++bs,G⟩:=λa w ha hw =>
 wpList_plain rfl λK hK=>by
  obtain⟨v',ob',w',h2,h3,h4⟩:=WL (ty:=ty) ht hs hz hzl hby hr hs2 hw h63 h47 h1 hu;refine upon_value ?_ (hK _ _ (kk v' ob' h3 _ w' (ha.put hd v') h4));rw[Zl];simp[builtin,ha.ev hx,ha.ev hy,h2]
theorem BW{d:Nat}{pos:String}{sz n:Nat}{X Y:Operand}{x y:Value}{olds:List Value}{ob bs0:List _}{G0:Gs->Prop}(hx:ev m X=some x)(hy:ev m Y=some y)(ht:GI P t=some e)(hs:ZZ P e=some (g,sz))(hz:Jw P e=some z)(hzl:z.length=sz)(hby:Zf P e=some bytes)
  (hr:Q6 e sz x n olds ob) (hs2:Src ⟨w0,F0,ob++bs,G⟩ sz y k news) (h63:n+k<=9223372036854775807) (h47:(n+k)*bytes<=140737488355328) (h1:∀v∈news,v.oneCell'=true) (hs0:bs0.Sublist bs) (hg0:∀F,G F->G0 F)
  (kk:∀v' ob',Q6 e sz v' (n+k) (olds++news) ob'->JD P ops Q ⟨w0,F0,bs0,G0⟩ l N ((d,v')::m) ⟨w0,F0,ob'++bs,G⟩) (hu:GX e=true:=by rfl) (hd:J1 N (some d)=true:=by rfl) :
  JD P ops Q ⟨w0,F0,bs0,G0⟩ (⟨some d,.call ⟨.builtin .append,#[X,Y],#[t,t]⟩,ty,pos,aft,none⟩::l) N m ⟨w0,F0,ob++bs,G⟩:=λ_ a w ha hw=>by
  obtain⟨v',ob',w',h2,h3,h4⟩:=WL (ty:=ty) ht hs hz hzl hby hr hs2 hw h63 h47 h1 hu;have sub:∀w',St ⟨w0,F0,ob'++bs,G⟩ w'->St ⟨w0,F0,bs0,G0⟩ w':=λw' h=>h.imp (hs0.trans (List.sublist_append_right _ _)) hg0;refine .inr ⟨rfl,?_⟩;refine upon_value ?_ ⟨sub _ h4,kk v' ob' h3 sub _ w' (ha.put hd v') h4⟩;rw[Zl];simp[builtin,ha.ev hx,ha.ev hy,h2]
def JL(z:List Value):Nat->List Value
 |0=>[]
 |n+1=>z++JL z n
theorem XF(z:List Value):∀n,(JL z n).length=n*z.length
 |0=>by simp[JL]
 |n+1=>by rw[JL,aH,XF z n,aQ];omega
theorem ES(z:List Value):∀(n j:Nat),j<n*z.length->(JL z n)[j]?=z[j%z.length]?
 |0,j,h=>O
 |n+1,j,h=>by
  rw[JL,eY];split
  ·grind[bV]
  rw[ES z n _ (by grind)]
  grind[Nat.mod_eq_sub_mod]
theorem ZM(v:Value):∀n,JL [v] n=ai n v
 |0=>rfl
 |n+1=>by rw[JL,ZM v n];rfl
theorem Pc{z:Array Value}{n:Nat}:madeCells z (n*z.size)=(JL z.toList n).toArray:=by
 apply fg
 grind[madeCells,iE,fh,ES,JL,XF]
theorem FI{sz n:Nat}{kl:IntKind}(ht:GI P t=some e)(hs:ZZ P e=some (g,sz))(hz:Jw P e=some z)(hzl:z.length=sz)(hby:Zf P e=some bytes)(h63:(n:Int)<=9223372036854775807)(h48:n*bytes<=281474976710656):
  (iM t (.int kl n) (.int kl n)).run P w = .ok (.slice (some ⟨w.heap.size,0,none⟩) n n) (w.alloc (.cells (JL z n).toArray e)):=by
 have hi:∃i,P.info? e=some i/\i.size=sz/\i.bytes=bytes/\∃zv,i.zero=some zv/\zv.cells=z.toArray:=by
  unfold Zf at hby;unfold Jw at hz;unfold ZZ at hs;cases hie:P.info? e with
  |none=>simp_all
  |some i =>
   rw[hie]at hby hz hs;simp at hby;refine⟨i,rfl,?_,hby,?_⟩
   ·grind
   cases hzz:i.zero<;>grind
 obtain⟨i,hi1,hi2,hi3,zv,hi4,hi5⟩:=hi;have hb:(i.bytes:Int)*(n:Int)<=281474976710656:=by
  grind
 have:=run_make w t e i zv (J2 ht) hi1 hi4 kl kl n n O (bK _) hb h63;have e2:i.size=zv.cells.size:=by simp_all
 grind[fm,Pc]
theorem K5{d:Nat}{pos:String}{sz n:Nat}{X Y:Operand}{kl:IntKind}(hx:ev m X=some (.int kl (n:Int)))(hy:ev m Y=some (.int kl (n:Int)))(ht:GI P t=some e)(hs:ZZ P e=some (g,sz))(hz:Jw P e=some z)(hzl:z.length=sz)(hby:Zf P e=some bytes)(h63:(n:Int)<=9223372036854775807)(h48:n*bytes<=281474976710656)
  (k:∀b,JS P ops Q l N ((d,.slice (some ⟨b,0,none⟩) n n)::m) ⟨w0,F0,(b,.cells (JL z n).toArray e (0,0))::bs,G⟩) (hu:GX e=true:=by rfl) (hd:J1 N (some d)=true:=by rfl) :
  JS P ops Q (⟨some d,.makeSlice t X Y,ty,pos,aft,none⟩::l) N m ⟨w0,F0,bs,G⟩:=λa w ha hw =>
 wpList_plain rfl λ_ hK=>upon_value (by
  simp[execOp,ha.ev hx,ha.ev hy,aq,FI ht hs hz hzl hby h63 h48,ax,aX]) (hK _ _ (k _ _ _ (ha.put hd _) (hw.alloc _ (ZD hu))))
end
end
section
variable[Dr][df:Df]
def K2(P:Program)(T:TypeId):Option (List (Nat×Nat)):=match P.info? T,P.underlying T with
 |some _,some (.struct fields)=>fields.toList.mapM λf=>(P.info? f.type).map λi=>(f.offset,i.size)
 |_,_=>none
inductive H7(pl:List (Nat×Nat)):List (Nat×Value)->List Value->List Value->Prop
 |nil {l:List Value}:H7 pl [] l l
 |cons {i off sz:Nat} {v:Value} {vs cur cur' res:List Value} {r:List (Nat×Value)} (hf:pl[i]?=some (off,sz)) (hv:v.cells=vs.toArray) (hn:vs.length=sz) (hp:Yz cur off vs cur') (k:H7 pl r cur' res):H7 pl ((i,v)::r) cur res
theorem Sd(off:Nat):∀(vs:List Value) (j:Nat) (cur cur':List Value),Yz cur (off+j) vs cur'->(vs.zipIdx j).foldl (λcs (x:Value×Nat)=>cs.setIfInBounds (off+x.2) x.1) cur.toArray=cur'.toArray
 |[],j,cur,cur',h=>by have:=h.eq;simp at this;simp[this]
 |v::vs,j,cur,cur',h=>by
  have hle:=h.le;have hp2:Yz (cur.set (off+j) v) (off+(j+1)) vs cur':=by
   have key:∀(n:Nat) (cur l':List Value),Yz cur n (v::vs) l'->Yz (cur.set n v) (n+1) vs l':=by
    intro n
    induction n with
    |zero=>intro cur l' h;cases h with | here h=>exact .skip h
    |succ n ih=>intro cur l' h;cases h with | skip h=>exact .skip (ih _ _ h)
   exact key _ _ _ h
  rw[iI,iP];have:=Sd off vs (j+1) _ _ hp2;simpa using this
theorem H7.fill{cur res:List Value}(h:H7 pl ps cur res):eN (pl.toArray[·]?) cur.toArray ps=some res.toArray:=by
 induction h with
 |nil=>rfl
 |cons hf hv hn hp k ih =>
  rename_i i off sz v vs cur cur' res r;have hle:=hp.le;unfold eN;have e1:pl.toArray[i]?=some (off,sz):=by simpa using hf
  simp only[e1,hv,List.size_toArray,hn,ne_eq,not_true_eq_false,decide_false,iY,decide_eq_true_eq];rw[if_neg O];have e2:vs.toArray.zipIdx.foldl (λcs (x:Value×Nat)=>cs.setIfInBounds (off+x.2) x.1) cur.toArray=cur'.toArray:=by
   have:=Sd off vs 0 cur cur' (by simpa using hp);rw[<-this,<-ff];simp
  rw[e2];exact ih
section
variable{P:Program}{Q:Exit->Act->World->Prop}{N:Nat}{m:Sl}{E E0:Env}{ops:Array Oper}{l:List Oper}
theorem X7{ops':Array Oper}{l':List Oper}(h:JS P ops' Q l' N m E):JD P ops (XW λa w=>wpList P ops' Q l' a w) E0 [] N m E:=λ_=>h
theorem Qy(h:Fin Q .normal N m E):JD P ops (XW (Q .normal)) E0 [] N m E:=λ_=>h
theorem Qa{t:Nat}{b:Bool}(h:look m t=some (.bool b))(ht:b=true->JS P ops Q l N ((t,.bool true)::m) E)(hf:b=false->JS P ops Q l N ((t,.bool false)::m) E):JS P ops Q l N m E:=λa w ha hw=>by
 cases b with
 |true=>exact ht rfl a w ⟨ha.size,ha.df,λi v hi=>by
   simp only[look]at hi;cases hb:bD t i with
   |true=>rw[hb]at hi;have:t=i:=(by simpa using hb);subst this;exact ha.get _ _ (by rw[h];simpa using hi)
   |false=>rw[hb]at hi;exact ha.get _ _ hi⟩ hw
 |false=>exact hf rfl a w ⟨ha.size,ha.df,λi v hi=>by
   simp only[look]at hi;cases hb:bD t i with
   |true=>rw[hb]at hi;have:t=i:=(by simpa using hb);subst this;exact ha.get _ _ (by rw[h];simpa using hi)
   |false=>rw[hb]at hi;exact ha.get _ _ hi⟩ hw
theorem KH{t:Nat}{b:Bool}(h:look m t=some (.bool b))(ht:b=true->JD P ops Q E0 l N ((t,.bool true)::m) E)(hf:b=false->JD P ops Q E0 l N ((t,.bool false)::m) E):JD P ops Q E0 l N m E:=λhE a w ha hw=>by
 cases b with
 |true=>exact ht rfl hE a w ⟨ha.size,ha.df,λi v hi=>by
   simp only[look]at hi;cases hb:bD t i with
   |true=>rw[hb]at hi;have:t=i:=(by simpa using hb);subst this;exact ha.get _ _ (by rw[h];simpa using hi)
   |false=>rw[hb]at hi;exact ha.get _ _ hi⟩ hw
 |false=>exact hf rfl hE a w ⟨ha.size,ha.df,λi v hi=>by
   simp only[look]at hi;cases hb:bD t i with
   |true=>rw[hb]at hi;have:t=i:=(by simpa using hb);subst this;exact ha.get _ _ (by rw[h];simpa using hi)
   |false=>rw[hb]at hi;exact ha.get _ _ hi⟩ hw
section
variable{d:Option Tmp}{o:Op}{ty:TypeId}{pos:String}{aft:Array Edge}{g t:Nat}{want:Bool}
theorem QK(hg:(ops[g]?).bind (·.dst)=some t)(hb:look m t=some (.bool want))(ht:JS P ops Q (⟨d,o,ty,pos,aft,none⟩::l) N m E)(hd:J1 N d=true:=by rfl):JS P ops Q (⟨d,o,ty,pos,aft,some (g,want)⟩::l) N m E :=
 de hg hb (λ_=>ht) (λh=>by cases want<;>cases h) hd
theorem JA(hg:(ops[g]?).bind (·.dst)=some t)(hb:look m t=some (.bool want))(ht:JD P ops Q E0 (⟨d,o,ty,pos,aft,none⟩::l) N m E)(hd:J1 N d=true:=by rfl):JD P ops Q E0 (⟨d,o,ty,pos,aft,some (g,want)⟩::l) N m E :=
 QCv hg hb (λ_=>ht) (λh=>by cases want<;>cases h) hd
theorem QI{d:Nat}{b:Bool}(hg:(ops[g]?).bind (·.dst)=some t)(hb:look m t=some (.bool b))(hw:b=!want)(hf:JS P ops Q l N ((d,undef)::m) E)(hd:J1 N (some d)=true:=by rfl):JS P ops Q (⟨some d,o,ty,pos,aft,some (g,want)⟩::l) N m E :=
 de hg hb (λh=>by subst h;cases b<;>cases hw) (λ_=>hf) hd
theorem Q7{d:Nat}{b:Bool}(hg:(ops[g]?).bind (·.dst)=some t)(hb:look m t=some (.bool b))(hw:b=!want)(hf:JD P ops Q E0 l N ((d,undef)::m) E)(hd:J1 N (some d)=true:=by rfl):JD P ops Q E0 (⟨some d,o,ty,pos,aft,some (g,want)⟩::l) N m E :=
 QCv hg hb (λh=>by subst h;cases b<;>cases hw) (λ_=>hf) hd
end
theorem kS{x y:Code}(m':Sl)(bs':List (Nat×Obj))(G':Gs->Prop)(h1:J P x (XW λa w=>JY N m' a/\St ⟨w0,F0,bs',G'⟩ w) N m ⟨w0,F0,bs,G⟩)(h2:J P y Q N m' ⟨w0,F0,bs',G'⟩):J P (.seq x y) Q N m ⟨w0,F0,bs,G⟩:=λa w ha hw=>by
 refine wp_seq (wp_mono (h1 a w ha hw) ?_);intro e a' w' h;cases e with
 |normal=>exact h2 a' w' h.1 h.2
 |_=>exact h.elim
theorem Jc{m':Sl}{G':Gs->Prop}(hm:YZ m m')(hb:bs'.Sublist bs)(hg:∀F,G F->G' F):Fin (XW λa w=>JY N m' a/\St ⟨w0,F0,bs',G'⟩ w) .normal N m ⟨w0,F0,bs,G⟩ :=
 λa w ha hw=>⟨ha.sub hm,hw.imp hb hg⟩
end
theorem MN{x y:Code}(M:ι->Sl)(B:ι->List (Nat×Obj))(H:ι->Gs->Prop)
  (h1:J P x (XW λa w=>∃i,JY N (M i) a/\St ⟨w0,F0,B i,H i⟩ w) N m ⟨w0,F0,bs,G⟩) (h2:∀i,J P y Q N (M i) ⟨w0,F0,B i,H i⟩):J P (.seq x y) Q N m ⟨w0,F0,bs,G⟩:=λa w ha hw=>by
 refine wp_seq (wp_mono (h1 a w ha hw) ?_);intro e a' w' h;cases e with
 |normal=>obtain⟨i,h3,h4⟩:=h;exact h2 i a' w' h3 h4
 |_=>exact h.elim
theorem ZP{M:ι->Sl}{B:ι->List (Nat×Obj)}{H:ι->Gs->Prop}(i:ι)(hm:YZ m (M i))(hb:(B i).Sublist bs)(hg:∀F,G F->H i F):
  Fin (XW λa w=>∃i,JY N (M i) a/\St ⟨w0,F0,B i,H i⟩ w) .normal N m ⟨w0,F0,bs,G⟩:=λa w ha hw=>⟨i,ha.sub hm,hw.imp hb hg⟩
inductive Ui:Sl->Sl->Prop
 |refl {m:Sl}:Ui m m
 |cons {k:Nat} {v:Value} {l m:Sl} (hk:(look m k).isNone=true) (h:Ui l m):Ui ((k,v)::l) m
theorem Ui.look{l:Sl}(h:Ui l m){t:Nat}{u:Value}(hu:YtphlgddkpboamaaGreatDoor.look m t=some u):YtphlgddkpboamaaGreatDoor.look l t=some u:=by
 induction h with
 |refl=>exact hu
 |cons hk h ih =>
  rename_i k v l m;have hne:bD k t=false:=by
   cases hb:bD k t with
   |false=>rfl
   |true=>have:k=t:=(by simpa using hb);subst this;rw[hu]at hk;cases hk
  simp only[YtphlgddkpboamaaGreatDoor.look,hne,cond_false];exact ih hu
section
variable{P:Program}{Q:Exit->Act->World->Prop}{N:Nat}{m l:Sl}{w0:World}{F0:Gs}{bs bs1:List (Nat×Obj)}{G G1:Gs->Prop}{x y:Code}
theorem G4(t:Nat)(v:Value)(h1:J P x (XW λa w=>JY N ((t,v)::m) a/\St ⟨w0,F0,bs,G⟩ w) N m ⟨w0,F0,bs,G⟩)(h2:J P y Q N ((t,v)::m) ⟨w0,F0,bs,G⟩):J P (.seq x y) Q N m ⟨w0,F0,bs,G⟩:=kS _ _ _ h1 h2
theorem XZ{t:Nat}{v:Value}(he:Ui l m)(ht:look l t=some v)(hb:bs.Sublist bs1)(hg:∀F,G1 F->G F):Fin (XW λa w=>JY N ((t,v)::m) a/\St ⟨w0,F0,bs,G⟩ w) .normal N l ⟨w0,F0,bs1,G1⟩:=λa w ha hw =>
 ⟨⟨ha.size,ha.df,λi u hi=>by
  simp only[look]at hi;cases hb:bD t i with
  |true=>rw[hb]at hi;have:t=i:=(by simpa using hb);subst this;exact ha.get _ _ (by rw[ht];simpa using hi)
  |false=>rw[hb]at hi;exact ha.get _ _ (he.look (by simpa using hi))⟩,hw.imp hb hg⟩
end
section
variable{P:Program}{N:Nat}{m:Sl}{S:World->Prop}{ty:TypeId}{v:Value}
theorem QR{c:Operand}(hc:ev m c=some (.bool true))(hx:ev m x=some v)(hy:(ev m y).isSome=true):Qt P N m S (.pick c x y) ty v:=by
 obtain⟨u,hu⟩:=Option.isSome_iff_exists.1 hy;exact OO hc hx hu
theorem QT{c:Operand}(hc:ev m c=some (.bool false))(hx:(ev m x).isSome=true)(hy:ev m y=some v):Qt P N m S (.pick c x y) ty v:=by
 obtain⟨u,hu⟩:=Option.isSome_iff_exists.1 hx;exact OO hc hu hy
theorem vg{a:Int}(hx:ev m x=some (.int .i64 a))(hy:ev m y=some (.int .i64 1))(h:0<=a):Qt P N m S (.binOp .and T x y yT) ty (.int .i64 (a%2)):=λs w _ _ _ _ ha _=>by
 have e:IntKind.i64.wrap (((aR 64 a &&& aR 64 1).toNat:Nat):Int)=a%2:=by
  have h1:(aR 64 (1:Int)).toNat=1:=rfl;rw[iC,h1,Nat.and_one_is_mod,BitVec.toNat_ofInt];have h2:((((a%((2^64:Nat):Int)).toNat%2:Nat)):Int)=a%2:=by
   have h3:(((2^64:Nat):Int))=18446744073709551616:=wk;rw[h3];omega
  rw[h2];exact SU O
 have h1:aR 64 (1:Int)=1#64:=rfl;rw[h1]at e;simp[execOp,ha.ev hx,ha.ev hy,eqGuard,binOp,Op.intBits,bZ];exact e
theorem OM{k:IntKind}{a:Int}(hx:ev m x=some (.int .i64 a))(hy:ev m y=some (.int k 1)):Qt P N m S (.binOp .shr T x y yT) ty (.int .i64 (a/2)):=λs w _ _ _ _ ha _=>by
 have e:a.fdiv 2=a/2:=Int.fdiv_eq_ediv_of_nonneg a wk;simp[execOp,ha.ev hx,ha.ev hy,eqGuard,binOp,lF,bZ,e]
theorem Wk{n c:Nat}(hx:ev m x=some (.slice q n c))(hy:ev m y=some (.slice none 0 0))(hT:GI P T=some e):Qt P N m S (.binOp .eql T x y yT) ty (.bool q.isNone):=λa w _ _ _ _ ha _=>by
 have:=eX (P:=P) w T e q n c 0 0 (J2 hT);simp[execOp,ha.ev hx,ha.ev hy,eqGuard,this]
theorem ZT{parts:Array (Nat×Operand)}{res:List Value}(hp:V5 m parts.toList=some ps)(hl:K2 P T=some pl)(hz:Jw P T=some z)(hb:H7 pl ps z res):Qt P N m S (.build T parts) ty (.agg res.toArray):=λa w _ _ _ _ ha _=>by
 have hbt:P.built T ps=some res.toArray:=by
  unfold K2 at hl;unfold Jw at hz;unfold Program.built;cases hi:P.info? T with
  |none=>rw[hi]at hl;cases hl
  |some i =>
   rw[hi]at hl hz;cases hu:P.underlying T with
   |none=>rw[hu]at hl;cases hl
   |some d =>
    rw[hu]at hl;cases d with
    |struct fields =>
     dsimp only at hl hz ⊢;cases hzz:i.zero with
     |none=>rw[hzz]at hz;cases hz
     |some zv =>
      rw[hzz]at hz;simp only[eI,aG]at hz;rw[hl];have:=hb.fill;rw[<-hz]at this;simpa using this
    |_=>cases hl
 have e1:(parts.map λ(i,x)=>(i,a.eval x)).toList=ps:=by simpa using ha.parts hp
 have:=run_build (P:=P) w T (parts.map λ(i,x)=>(i,a.eval x)) _ (by rw[e1];exact hbt);simp only[execOp,aq,this,ax,aX]
end
end
def QJT(n:Nat)(l:Sl):Bool:=(l.take n).all λkv=>(look (l.drop n) kv.1).isNone
theorem exd(n:Nat){l m:Sl}(hb:QJT n l=true)(hm:l.drop n=m):Ui l m:=by
 subst hm;unfold QJT at hb;have key:∀(a m:Sl),(a.all λkv=>(look m kv.1).isNone)=true->Ui (a++m) m:=by
  intro a m
  induction a with
  |nil=>intro _;exact .refl
  |cons x a ih =>
   intro h;rw[List.all_cons,bU]at h;exact .cons h.1 (ih h.2)
 have:=key _ _ hb
 rwa [eU]at this
theorem QMn[Dr]{P:Program}{N:Nat}{m:Sl}{w0:World}{F0:Gs}{fn:Func}{val:Unit->Value}{fact:Unit->Gs->Prop}{bs:List (Nat×Obj)}{G:Gs->Prop}{t:Tmp}{v:Value}(hrs:fn.results=[ResultVar.tmp t].toArray)(h:look m t=some v)(hv:val ()=v)(hg:∀F,G F->fact () F):Fin (df:=Y0) (bodyPost P fn (Dc w0 F0 val fact)) .ret N m ⟨w0,F0,bs,G⟩ :=
 QM () hrs (.tmp h .nil) hv hg
def H2.u1{x0:Nat×Obj}{r:List (Nat×Obj)}:H2 (x0::(b,o)::r) b o (λo'=>x0::(b,o')::r) (x0::r):=.there (.here)
def H2.u2{x0:Nat×Obj}{r:List (Nat×Obj)}:H2 (x0::x1::(b,o)::r) b o (λo'=>x0::x1::(b,o')::r) (x0::x1::r):=.there (.there (.here))
def H2.u3{x0 x2:Nat×Obj}{r:List (Nat×Obj)}:H2 (x0::x1::x2::(b,o)::r) b o (λo'=>x0::x1::x2::(b,o')::r) (x0::x1::x2::r):=.there (.there (.there (.here)))
def H2.u4{x0 x2 x3:Nat×Obj}{r:List (Nat×Obj)}:H2 (x0::x1::x2::x3::(b,o)::r) b o (λo'=>x0::x1::x2::x3::(b,o')::r) (x0::x1::x2::x3::r):=.there (.there (.there (.there (.here))))
def H2.u5{x0 x2 x3 x4:Nat×Obj}{r:List (Nat×Obj)}:H2 (x0::x1::x2::x3::x4::(b,o)::r) b o (λo'=>x0::x1::x2::x3::x4::(b,o')::r) (x0::x1::x2::x3::x4::r):=.there (.there (.there (.there (.there (.here)))))
def H2.u6{x0 x2 x3 x4 x5:Nat×Obj}{r:List (Nat×Obj)}:H2 (x0::x1::x2::x3::x4::x5::(b,o)::r) b o (λo'=>x0::x1::x2::x3::x4::x5::(b,o')::r) (x0::x1::x2::x3::x4::x5::r):=.there (.there (.there (.there (.there (.there (.here))))))
theorem wN{a b:Int}(h:a=b:=by omega):some (bQ .i64 a)=some (bQ .i64 b):=congrArg (λz:Int=>some (bQ .i64 z)) h
def wO{t:Tmp}{v:Value}(h:look m t=some v):Hz P m bs [.tmp t] [v]:=.tmp h .nil
def wP{t t':Tmp}{v v':Value}(h:look m t=some v)(h':look m t'=some v'):Hz P m bs [.tmp t,.tmp t'] [v,v']:=.tmp h (.tmp h' .nil)
theorem wQ{u v a b x y:Value}(hf:pl=[(0,1),(1,1)])(ha:u.cells=[a].toArray)(hb:v.cells=[b].toArray):H7 pl [(0,u),(1,v)] [x,y] [a,b]:=by subst hf;exact .cons (vs:=[a]) I ha rfl .h1 (.cons (vs:=[b]) I hb rfl (.skip .h1) .nil)
theorem wH[Dr][df:Df]{P:Program}{N:Nat}{m:Sl}{w0:World}{F0:Gs}{bs:List (Nat×Obj)}{G:Gs->Prop}{T T' ty:TypeId}{x:Operand}{b:Nat}{l:List Value}{u0 u1:Value}{fr:Nat×Nat}{f:Obj->List (Nat×Obj)}(h:ev m x=some (.pointer (some ⟨b,0,none⟩)))(ht:ZZ P T=some (true,2))(ho:Own bs b (.cells (u0::u1::l).toArray T' fr) f):Qt P N m (St ⟨w0,F0,bs,G⟩) (.load T x) ty (.agg [u0,u1].toArray):=Qh (vs:=[u0,u1]) h ht ho .h2 rfl
theorem wI[Dr][df:Df]{P:Program}{N:Nat}{m:Sl}{w0:World}{F0:Gs}{bs:List (Nat×Obj)}{G:Gs->Prop}{T T' ty:TypeId}{x:Operand}{b:Nat}{l:List Value}{u0 u1 u2:Value}{fr:Nat×Nat}{f:Obj->List (Nat×Obj)}(h:ev m x=some (.pointer (some ⟨b,0,none⟩)))(ht:ZZ P T=some (true,3))(ho:Own bs b (.cells (u0::u1::u2::l).toArray T' fr) f):Qt P N m (St ⟨w0,F0,bs,G⟩) (.load T x) ty (.agg [u0,u1,u2].toArray):=Qh (vs:=[u0,u1,u2]) h ht ho .h3 rfl
theorem wJ[Dr][df:Df]{P:Program}{N:Nat}{m:Sl}{w0:World}{F0:Gs}{bs:List (Nat×Obj)}{G:Gs->Prop}{T T' ty:TypeId}{x:Operand}{b:Nat}{l:List Value}{u0 u1 u2 u3:Value}{fr:Nat×Nat}{f:Obj->List (Nat×Obj)}(h:ev m x=some (.pointer (some ⟨b,0,none⟩)))(ht:ZZ P T=some (true,4))(ho:Own bs b (.cells (u0::u1::u2::u3::l).toArray T' fr) f):Qt P N m (St ⟨w0,F0,bs,G⟩) (.load T x) ty (.agg [u0,u1,u2,u3].toArray):=Qh (vs:=[u0,u1,u2,u3]) h ht ho .h4 rfl
theorem wL[Dr][df:Df]{P:Program}{N:Nat}{m:Sl}{w0:World}{F0:Gs}{bs:List (Nat×Obj)}{G:Gs->Prop}{T T' ty:TypeId}{x:Operand}{b:Nat}{l:List Value}{u0 u1 u2 u3 u4 u5 u6 u7:Value}{fr:Nat×Nat}{f:Obj->List (Nat×Obj)}(h:ev m x=some (.pointer (some ⟨b,0,none⟩)))(ht:ZZ P T=some (true,8))(ho:Own bs b (.cells (u0::u1::u2::u3::u4::u5::u6::u7::l).toArray T' fr) f):Qt P N m (St ⟨w0,F0,bs,G⟩) (.load T x) ty (.agg [u0,u1,u2,u3,u4,u5,u6,u7].toArray):=Qh (vs:=[u0,u1,u2,u3,u4,u5,u6,u7]) h ht ho .h8 rfl
theorem wM[Dr][df:Df]{P:Program}{N:Nat}{m:Sl}{w0:World}{F0:Gs}{bs:List (Nat×Obj)}{G:Gs->Prop}{T T' ty:TypeId}{x:Operand}{b:Nat}{l:List Value}{a0 a1 a2 a3 u0 u1 u2 u3:Value}{fr:Nat×Nat}{f:Obj->List (Nat×Obj)}(h:ev m x=some (.pointer (some ⟨b,4,none⟩)))(ht:ZZ P T=some (true,4))(ho:Own bs b (.cells (a0::a1::a2::a3::u0::u1::u2::u3::l).toArray T' fr) f):Qt P N m (St ⟨w0,F0,bs,G⟩) (.load T x) ty (.agg [u0,u1,u2,u3].toArray):=Qh (vs:=[u0,u1,u2,u3]) h ht ho (.skip (.skip (.skip (.skip .h4)))) I

section
open Go Go.RowKit
section
variable[Dr][df:Df]
inductive AFr where
 |th (y:Code) | bl (id:Nat)
inductive AG where
 |j (c:Code) | s (ops:Array Oper) (l:List Oper) | f (e:Exit)
variable{P:Program}{Q:Exit->Act->World->Prop}{N:Nat}{m m':Sl}{E:Env}
@[reducible] def wC (P:Program) (Q:Exit->Act->World->Prop):List AFr->Exit->Act->World->Prop
 |[]=>Q
 |.th y::r=>Exit.then (y.wp P (wC P Q r)) (wC P Q r)
 |.bl id::r=>bB id (wC P Q r)
@[reducible] def wD (P:Program) (Q:Exit->Act->World->Prop) (N:Nat) (E:Env):AG->List AFr->Sl->Prop
 |.j c,st,m=>J P c (wC P Q st) N m E
 |.s ops l,st,m=>JS P ops (wC P Q st) l N m E
 |.f e,st,m=>Fin (wC P Q st) e N m E
def wE(m:Sl):Op->Option Value
 |.move x=>ev m x
 |.assign x=>ev m x
 |.binOp op _ x y _=>(ev m x).bind λvx=>(ev m y).bind λvy=>kD op vx vy
 |.pick c x y=>match ev m c with
  |some (.bool true)=>if(ev m y).isSome then ev m x else none
  |some (.bool false)=>if(ev m x).isSome then ev m y else none
  |_=>none
 |.extract x i=>match ev m x with
  |some (.tuple vs)=>vs[i]?
  |_=>none
 |_=>none
def wF(N:Nat):AG->List AFr->Sl->Option (AG×List AFr×Sl)
 |.j (.seq x y),st,m=>some (.j x,.th y::st,m)
 |.j (.region _ ⟨l⟩ false),st,m=>some (.s l.toArray l,st,m)
 |.j (.block id c),st,m=>some (.j c,.bl id::st,m)
 |.j .skip,st,m=>some (.f .normal,st,m)
 |.j .ret,st,m=>some (.f .ret,st,m)
 |.j (.exit id),st,m=>some (.f (.exit id),st,m)
 |.f .normal,.th y::st,m=>some (.j y,st,m)
 |.f .normal,.bl _::st,m=>some (.f .normal,st,m)
 |.f (.exit i),.th _::st,m=>some (.f (.exit i),st,m)
 |.f (.exit i),.bl id::st,m=>match bD i id with
  |true=>some (.f .normal,st,m)
  |false=>some (.f (.exit i),st,m)
 |.f .ret,_::st,m=>some (.f .ret,st,m)
 |.s _ [],st,m=>some (.f .normal,st,m)
 |.s ops (⟨some d,o,_,_,_,none⟩::l),st,m=>match wE m o,J1 N (some d)with
  |some v,true=>some (.s ops l,st,(d,v)::m)
  |_,_=>none
 |.s ops (⟨d,o,ty,pos,aft,some (g,want)⟩::l),st,m=>match ((ops[g]?).bind (·.dst)).bind (look m),J1 N d with
  |some (.bool b),true=>match Bool.xor b want with
   |false=>some (.s ops (⟨d,o,ty,pos,aft,none⟩::l),st,m)
   |true=>some (.s ops l,st,upd m d undef)
  |_,_=>none
 |_,_,_=>none
def wG(N:Nat):Nat->AG->List AFr->Sl->Option (AG×List AFr×Sl)
 |0,g,st,m=>some (g,st,m)
 |n+1,g,st,m=>match wF N g st m with
  |some (g',st',m')=>wG N n g' st' m'
  |none=>none
theorem QJh{S:World->Prop}{o:Op}{v:Value}(h:wE m o=some v):Qt P N m S o ty v:=by
 unfold wE at h;split at h
 ·exact QC h
 ·exact QE h
 ·obtain⟨vx,h1,h2⟩:=Option.bind_eq_some_iff.1 h;obtain⟨vy,h3,h4⟩:=Option.bind_eq_some_iff.1 h2;exact QP h1 h3 h4
 ·split at h
  ·rename_i hc;split at h
   ·rename_i hy;exact QR hc h hy
   cases h
  ·rename_i hc;split at h
   ·rename_i hy;exact QT hc hy h
   cases h
  cases h
 ·split at h
  ·rename_i hx;exact Qe hx h
  cases h
 cases h
theorem QHV{g g':AG}{st st':List AFr}(h:wF N g st m=some (g',st',m'))(k:wD P Q N E g' st' m'):wD P Q N E g st m:=by
 unfold wF at h;split at h
 ·cases h;exact QG k
 ·cases h;exact QB k
 ·cases h;exact QQ k
 ·cases h;exact QN k
 ·cases h;exact QU k
 ·cases h;exact Yh k
 ·cases h;exact QD k
 ·cases h;exact Qg k
 ·cases h;exact Jy k
 ·split at h
  ·rename_i he;cases h;have he:=Nat.eq_of_beq_eq_true he;subst he;exact Jz k
  rename_i he;cases h;exact Jp he k
 ·rename_i fr _;cases h;cases fr with
  |th y=>exact P8 k
  |bl id=>exact DD k
 ·cases h;exact QF k
 ·split at h
  ·rename_i hv hd;cases h;exact QA (QJh hv) k hd
  cases h
 ·split at h
  ·rename_i hb hd;obtain⟨t,h1,h2⟩:=Option.bind_eq_some_iff.1 hb;split at h
   ·rename_i hx;cases h;exact de h1 h2 (λ_=>k) (λe=>by subst e;simp at hx) hd
   rename_i hx;cases h;exact de h1 h2 (λe=>by subst e;simp at hx) (λ_=>k) hd
  cases h
 cases h
theorem IA:∀(n:Nat) {g g':AG} {st st':List AFr} {m m':Sl},wG N n g st m=some (g',st',m')->wD P Q N E g' st' m'->wD P Q N E g st m
 |0,g,g',st,st',m,m',h,k=>by cases h;exact k
 |n+1,g,g',st,st',m,m',h,k=>by
  unfold wG at h;split at h
  ·rename_i h1;exact QHV h1 (IA n h k)
  cases h
variable(n:Nat){g':AG}{st':List AFr}
theorem wA{c:Code}(h:wG N n (.j c) [] m=some (g',st',m'))(k:wD P Q N E g' st' m'):J P c Q N m E:=IA (g:=.j c) (st:=[]) n h k
theorem wB{l:List Oper}(h:wG N n (.s ops l) [] m=some (g',st',m'))(k:wD P Q N E g' st' m'):JS P ops Q l N m E:=IA (g:=.s ops l) (st:=[]) n h k
theorem QMX{c y:Code}(h:wG N n (.j c) [.th y] m=some (g',st',m'))(k:wD P Q N E g' st' m'):J P c (Exit.then (y.wp P Q) Q) N m E:=IA (g:=.j c) (st:=[.th y]) n h k
theorem QMW{l:List Oper}{y:Code}(h:wG N n (.s ops l) [.th y] m=some (g',st',m'))(k:wD P Q N E g' st' m'):JS P ops (Exit.then (y.wp P Q) Q) l N m E:=IA (g:=.s ops l) (st:=[.th y]) n h k
theorem QMY{y:Code}(h:wG N n (.f .normal) [.th y] m=some (g',st',m'))(k:wD P Q N E g' st' m'):Fin (Exit.then (y.wp P Q) Q) .normal N m E:=IA (g:=.f .normal) (st:=[.th y]) n h k
end
end
theorem QY:ZZ prog 3=some (false,1):=wj
theorem HZ:Jw prog 3=some [.int .i64 0]:=wj
theorem WR:Zf prog 3=some 8:=wj
theorem k_3:NW prog 3=some .i64:=wj
theorem vA:(prog.underlying 3).isSome=true:=wj
theorem Zi:ZZ prog 4=some (false,1):=wj
theorem z_4:Jw prog 4=some [.bool false]:=wj
theorem QHR:Zf prog 4=some 1:=wj
theorem QFh:(prog.underlying 5).isSome=true:=wj
theorem Y5:ZZ prog 9=some (false,1):=wj
theorem z_9:Jw prog 9=some [.string .empty]:=wj
theorem QJf:Zf prog 9=some 16:=wj
theorem J6:WE prog 9=true:=wj
theorem Ja:ZZ prog 48=some (false,1):=wj
theorem QFe:Jw prog 48=some [.string .empty]:=wj
theorem QFX:Zf prog 48=some 16:=wj
theorem Kg:WE prog 48=true:=wj
theorem Ll:ZZ prog 63=some (true,2):=wj
theorem kg:Jw prog 63=some [.string .empty,.string .empty]:=wj
theorem QFW:Zf prog 63=some 32:=wj
theorem QA8:K2 prog 63=some [(0,1),(1,1)]:=wj
theorem DY:ZZ prog 36=some (false,1):=wj
theorem Ia:Jw prog 36=some [.int .i64 0]:=wj
theorem zR:ZZ prog 64=some (false,1):=wj
theorem QAm:GI prog 64=some 63:=wj
theorem Xg:ZZ prog 29=some (false,1):=wj
theorem Z2:GI prog 29=some 48:=wj
theorem Mh:GI prog 242=some 319:=wj
theorem YR:ZZ prog 243=some (false,1):=wj
theorem zN:Jw prog 243=some [.slice none 0 0]:=wj
theorem Cc:Zf prog 243=some 24:=wj
theorem ZF:GI prog 243=some 319:=wj
theorem TZ:ZZ prog 153=some (false,1):=wj
theorem Vu:GI prog 153=some 243:=wj
theorem Qu:ZZ prog 23=some (false,1):=wj
theorem Qd:GI prog 23=some 3:=wj
theorem ZN:ZZ prog 319=some (true,2):=wj
theorem Wf:Jw prog 319=some [.string .empty,.slice none 0 0]:=wj
theorem Pz:Zf prog 319=some 40:=wj
theorem Ry:K2 prog 319=some [(0,1),(1,1)]:=wj
theorem Dp:Z9 prog 319 0=some (0,48):=wj
theorem Gi:Z9 prog 319 1=some (1,23):=wj
theorem VQ:ZZ prog 112=some (false,1):=wj
theorem Ed:GI prog 112=some 283:=wj
theorem Qf:ZZ prog 114=some (true,2):=wj
theorem YU:Jw prog 114=some [.int .i64 0,.slice none 0 0]:=wj
theorem vp:K2 prog 114=some [(0,1),(1,1)]:=wj
theorem Dq:Z9 prog 114 0=some (0,3):=wj
theorem Hu:Z9 prog 114 1=some (1,112):=wj
theorem Jn:ZZ prog 116=some (true,4):=wj
theorem VA:Jw prog 116=some [.int .i64 0,.slice none 0 0,.int .i64 0,.slice none 0 0]:=wj
theorem QCS:Zf prog 116=some 64:=wj
theorem PQ:K2 prog 116=some [(0,2),(2,2)]:=wj
theorem KN:Z9 prog 116 0=some (0,114):=wj
theorem Yk:Z9 prog 116 1=some (2,114):=wj
theorem Qv:ZZ prog 222=some (true,2):=wj
theorem Xf:Jw prog 222=some [.bool false,.slice none 0 0]:=wj
theorem OW:K2 prog 222=some [(0,1),(1,1)]:=wj
theorem YK:Z9 prog 222 0=some (0,4):=wj
theorem J9:Z9 prog 222 1=some (1,23):=wj
theorem RZ:GI prog 93=some 116:=wj
theorem GL:GI prog 139=some 36:=wj
theorem O5:NW prog 251=some .u64:=wj
theorem vB:(prog.underlying 251).isSome=true:=wj
theorem EX:ZZ prog 109=some (false,1):=wj
theorem FH:GI prog 109=some 9:=wj
theorem mixed:prog.follows .mixedOrders=true:=wj
end Go.Proofs.YtphlgddkpboamaaGreatDoor
namespace Ig
def dv(b:Int):List Int->Int
 |[]=>0
 |x::l=>x+b*dv b l
def DG(b:Int)(l:List Int):Prop:=∀x∈l,0<=x/\x<b
def NZ(l:List Int):Prop:=l.getLast?≠some 0
@[simp] theorem Pr (b:Int):dv b []=0:=rfl
@[simp] theorem YL (b x:Int) (l:List Int):dv b (x::l)=x+b*dv b l:=rfl
theorem Xx(b:Int)(l m:List Int):dv b (l++m)=dv b l+b^l.length*dv b m:=by
 induction l with
 |nil=>simp
 |cons x l ih=>simp only[List.cons_append,YL,ih,bA];rw[aC];grind
theorem XG(b x:Int)(l:List Int):dv b (l++[x])=dv b l+b^l.length*x:=by
 rw[Xx];simp
theorem DG.nil(b:Int):DG b []:=by intro x hx;cases hx
theorem DG.cons{b x:Int}{l:List Int}(h0:0<=x)(h1:x<b)(h:DG b l):DG b (x::l):=by
 intro y hy;rcases List.mem_cons.1 hy with rfl | hy
 ·exact⟨h0,h1⟩
 exact h y hy
def DG.head{b x:Int}{l:List Int}(h:DG b (x::l)):0<=x/\x<b:=h x wv
def DG.tail{b x:Int}{l:List Int}(h:DG b (x::l)):DG b l:=λy hy=>h y (by simp[hy])
def DG.append{b:Int}{l m:List Int}(h:DG b l)(k:DG b m):DG b (l++m):=by
 intro x hx;rcases List.mem_append.1 hx with hx | hx
 ·exact h x hx
 exact k x hx
def DG.left{b:Int}{l m:List Int}(h:DG b (l++m)):DG b l:=λx hx=>h x (by simp[hx])
def DG.right{b:Int}{l m:List Int}(h:DG b (l++m)):DG b m:=λx hx=>h x (by simp[hx])
def DG.take{b:Int}{l:List Int}(h:DG b l)(n:Nat):DG b (l.take n):=λx hx=>h x (List.mem_of_mem_take hx)
def DG.drop{b:Int}{l:List Int}(h:DG b l)(n:Nat):DG b (l.drop n):=λx hx=>h x (List.mem_of_mem_drop hx)
def DG.replicate{b:Int}(hb:0<b)(n:Nat):DG b (ai n 0):=by
 intro x hx;have:=List.eq_of_mem_replicate hx;omega
def DG.getD{b:Int}{l:List Int}(hb:0<b)(h:DG b l)(i:Nat):0<=l.getD i 0/\l.getD i 0<b:=by
 by_cases hi:i<l.length
 ·have:l.getD i 0=l[i]:=by simp[ew,hi]
  rw[this];exact h _ (iK hi)
 have:l.getD i 0=0:=by simp[ew,hi]
 omega
def DG.set{b:Int}{l:List Int}(h:DG b l)(i:Nat){x:Int}(h0:0<=x)(h1:x<b):DG b (l.set i x):=by
 intro y hy;rcases List.mem_or_eq_of_mem_set hy with hy | rfl
 ·exact h y hy
 exact⟨h0,h1⟩
def pow_pos{b:Int}(hb:0<b)(n:Nat):0<b^n:=lP hb
def YI{b:Int}(hb:1<=b){m n:Nat}(h:m<=n):b^m<=b^n:=by
 obtain⟨k,rfl⟩:=Nat.exists_eq_add_of_le h;rw[fz];have h1:=pow_pos (b:=b) O m;have h2:=pow_pos (b:=b) O k;have h3:b^m*1<=b^m*b^k:=ae O O;omega
def Qw{b:Int}(hb:0<b):∀ {l:List Int},DG b l->0<=dv b l
 |[],_=>wv
 |x::l,h=>by
  have:=Qw hb h.tail;have:=ak (au hb) this;have:=h.head;simp;omega
def Zh{b:Int}(hb:0<b):∀ {l:List Int},DG b l->dv b l<b^l.length
 |[],_=>wv
 |x::l,h=>by
  have h1:=Zh hb h.tail;have h2:=h.head;have h3:b*(dv b l+1)<=b*b^l.length:=ae O (au hb);rw[bA,aC,aV (b^l.length) b];rw[fA]at h3;simp;omega
def MF(b:Int)(n:Nat):dv b (ai n 0)=0:=by
 induction n with
 |zero=>rfl
 |succ n ih=>simp[eZ,ih]
def Ys(b:Int)(l:List Int)(n:Nat)(h:n<=l.length):dv b l=dv b (l.take n)+b^n*dv b (l.drop n):=by
 have:=Xx b (l.take n) (l.drop n);rw[eU,ao,aZ h]at this;exact this
theorem Vb{α:Type}(l:List α)(n:Nat)(h:n<l.length):l.take (n+1)=l.take n++[l[n]]:=by
 rw[List.take_succ_eq_append_getElem h]
theorem WB(b:Int)(l:List Int)(n:Nat)(h:n<l.length):dv b (l.take (n+1))=dv b (l.take n)+b^n*l[n]:=by
 rw[Vb l n h,XG,ao,aZ O]
def By{b:Int}(hb:0<b){l:List Int}(h:DG b l)(hn:NZ l)(hl:l≠[]):b^(l.length-1)<=dv b l:=by
 obtain⟨m,x,rfl⟩:∃m x,l=m++[x]:=⟨l.dropLast,l.getLast hl,(List.dropLast_concat_getLast hl).symm⟩;rw[XG];have h1:x≠0:=by intro e;subst e;exact hn wv
 have h2:=h x wv;have h3:=Qw hb h.left;have h4:=pow_pos hb m.length;have h5:b^m.length*1<=b^m.length*x:=ae O O;simp;omega
def Qx(l:List Int):List Int:=(l.reverse.dropWhile (·==0)).reverse
def Zw(l:List Int):Qx (l++[0])=Qx l:=by simp[Qx]
def Vr(l:List Int){x:Int}(h:x≠0):Qx (l++[x])=l++[x]:=by simp[Qx,h]
def M5:Qx []=[]:=rfl
def RX{P:List Int->Prop}(h0:P [])(h1:∀l x,P l->P (l++[x]))(l:List Int):P l:=by
 have:∀m:List Int,P m.reverse:=by
  intro m;induction m with
  |nil=>exact h0
  |cons x m ih=>rw[List.reverse_cons];exact h1 _ _ ih
 simpa using this l.reverse
def Ea(l:List Int):∃n,l=Qx l++ai n 0:=by
 induction l using RX with
 |h0=>exact⟨0,rfl⟩
 |h1 l x ih =>
  by_cases hx:x=0
  ·subst hx;obtain⟨n,hn⟩:=ih;refine⟨n+1,?_⟩;rw[Zw,ir,<-bN,<-hn]
  exact⟨0,by rw[Vr l hx];simp⟩
def Gp(l:List Int):Qx l=l.take (Qx l).length:=by
 obtain⟨n,hn⟩:=Ea l;have:l.take (Qx l).length=(Qx l++ai n 0).take (Qx l).length:=by rw[<-hn]
 rw[this];simp
def XQ(l:List Int):(Qx l).length<=l.length:=by
 obtain⟨n,hn⟩:=Ea l;have:=congrArg List.length hn;simp at this;omega
def Ju(b:Int)(l:List Int):dv b (Qx l)=dv b l:=by
 obtain⟨n,hn⟩:=Ea l;have:dv b l=dv b (Qx l++ai n 0):=by rw[<-hn]
 rw[this,Xx,MF];simp
def XN(l:List Int):NZ (Qx l):=by
 induction l using RX with
 |h0=>simp[M5,NZ]
 |h1 l x ih =>
  by_cases hx:x=0
  ·subst hx;rw[Zw];exact ih
  rw[Vr l hx];simp[NZ,hx]
def DG.Qx{b:Int}{l:List Int}(h:DG b l):DG b (Qx l):=by rw[Gp];exact h.take _
def MG{b:Int}(hb:0<b):∀ {l m:List Int},DG b l->DG b m->l.length=m.length->dv b l=dv b m->l=m
 |[],[],_,_,_,_=>rfl
 |x::l,y::m,h,k,hl,e=>by
  have h1:=h.head;have h2:=k.head;simp only[YL]at e;have e1:x=y:=by
   have a1:(x+b*dv b l)%b=x:=by rw[fQ];exact bO h1.1 h1.2
   have a2:(y+b*dv b m)%b=y:=by rw[fQ];exact bO h2.1 h2.2
   rw[<-a1,<-a2,e]
  subst e1;have e2:b*dv b l=b*dv b m:=O;have e3:=fS O e2;rw[MG hb h.tail k.tail (by simpa using hl) e3]
def XH{b:Int}(hb:1<b){l m:List Int}(h:DG b l)(k:DG b m)(km:NZ m)(hl:l.length<m.length):dv b l<dv b m:=by
 have h1:=Zh O h;have h2:=By O k km (by intro e;subst e;simp at hl);have h3:b^l.length<=b^(m.length-1):=YI O O;omega
def CM{b:Int}(hb:1<b){l m:List Int}(h:DG b l)(k:DG b m)(hn:NZ l)(kn:NZ m)(e:dv b l=dv b m):l=m:=by
 refine MG O h k ?_ e;rcases fk l.length m.length with g | g | g
 ·have:=XH hb h k kn g;omega
 ·exact g
 have:=XH hb k h hn g;omega
def Gz{b:Int}(hb:1<b){l:List Int}(h:DG b l)(hn:NZ l):dv b l=0↔l=[]:=by
 constructor
 ·intro e;exact CM hb h (DG.nil b) hn (by simp[NZ]) (by simpa using e)
 rintro rfl;rfl
def MV(x:Int):Int:=if x<0 then -1 else if x=0 then 0 else 1
def YY(x y:Int):Int:=if x<y then -1 else if x=y then 0 else 1
def CX(x y:Int):YY x y=MV (x-y):=by unfold YY MV;split<;>split<;>(try split)<;>omega
def UT{b:Int}(hb:0<b){l m:List Int}{x y:Int}(h:DG b l)(k:DG b m)(hl:l.length=m.length)(hxy:x<y):
  dv b (l++[x])<dv b (m++[y]):=by
 rw[XG,XG,hl];have h1:=Zh hb h;have h2:=Qw hb k;rw[hl]at h1;have h3:b^m.length*(x+1)<=b^m.length*y:=ae O (au (pow_pos hb _));rw[fA]at h3;omega
def Px{b:Int}(hb:0<b){l m:List Int}(h:DG b l)(k:DG b m)(hl:l.length=m.length)(n:Nat)(hn:n<l.length)
  (hs:l.drop (n+1)=m.drop (n+1)) (hxy:l[n]<m[n]' O):dv b l<dv b m:=by
 rw[Ys b l (n+1) O,Ys b m (n+1) O,hs,Vb l n hn,Vb m n O];have:=UT hb (h.take n) (k.take n) wy hxy;omega
end Ig
namespace Go.Proofs.YtphlgddkpboamaaGreatDoor
variable{w w' w0:World}{B E N b bytes i j k off s:Nat}{a:Act}{args c cs l' news vs z:List Value}{o:Obj}{ds la post u:List Int}{A0 A1 A2 A3 A4 A5 A6 A7 A8 A9 α γ ι:Type}{T T' e t ty yT:TypeId}{ops:Array Oper}{Q Q':Exit->Act->World->Prop}{g:Bool}{K:Act->World->Prop}{x y:Operand}{bs bs' bs0:List (Nat×Obj)}{q:Option Addr}{P:Program}{f:Obj->List (Nat×Obj)}{fn:Func}{aft:Array Edge}{x1:Nat×Obj}{v1 v3 v4 v5 x2 x3 x4 x5 x6 x7 x8:Value}{ps:List (Nat×Value)}{rs:List ResultVar}{k':IntKind}{pl:List (Nat×Nat)}{h:Int}{F F0:Gs}{G:Gs->Prop}{m:Sl}
open Go.RowKit Ig
def W:Int:=18446744073709551616
theorem WD:W=18446744073709551616:=rfl
def JX:0<W:=wk
def DV:1<W:=wk
def YP(w:World)(s:Int)(q:Option Addr)(n cap:Nat)(z:Int):Prop :=
 (q=none/\n=0/\cap=0/\s=z/\-9223372036854775808<=z/\z<=9223372036854775807) \/
 ∃(b off:Nat) (l:List Int),q=some ⟨b,off,none⟩/\n=l.length/\l.length<=cap/\(cap:Int)<=9223372036854775807/\Cells w q JM l /\
  DG W l/\NZ l/\l≠[]/\(s=1\/s = -1)/\z=s*dv W l/\9223372036854775808<=dv W l
def J8(w:World)(v:Value)(z:Int):Prop:=∃s q n cap,v = .agg #[.int .i64 s,.slice q n cap]/\YP w s q n cap z
theorem YP.ext(h:Ext w w'){s:Int}{q:Option Addr}{n cap:Nat}{z:Int}(hv:YP w s q n cap z):YP w' s q n cap z:=by
 rcases hv with hv | ⟨b,off,l,h1,h2,h3,h4,h5,h6⟩
 ·exact .inl hv
 exact .inr ⟨b,off,l,h1,h2,h3,h4,h5.ext h,h6⟩
theorem J8.ext(h:Ext w w'){v:Value}{z:Int}(hv:J8 w v z):J8 w' v z:=by
 obtain⟨s,q,n,cap,rfl,hp⟩:=hv;exact⟨s,q,n,cap,rfl,hp.ext h⟩
def J8.small(w:World){z:Int}(h0 : -9223372036854775808<=z)(h1:z<=9223372036854775807):J8 w (.agg #[.int .i64 z,.slice none 0 0]) z :=
 ⟨z,none,0,0,rfl,.inl ⟨rfl,rfl,rfl,rfl,h0,h1⟩⟩
def Xt(w:World)(R:Value->World->Prop)(e:Ending)(w':World):Prop:=∃v,e = .returned v/\R v w'/\Ext w w'
def JU(z:Int):Int:=if z<0 then -z else z
theorem Hq{z:Int}(h:z<0):JU z = -z:=if_pos h
theorem Vj{z:Int}(h:0<=z):JU z=z:=if_neg O
theorem GA(z:Int):JU z=z.natAbs:=by grind[JU]
def sg(neg:Bool)(n:Int):Int:=if neg then -n else n
theorem O0(neg:Bool)(q:Option Addr)(cap:Nat)(w:World):
  Calls prog 241 #[.bool neg,.slice q 0 cap] w λe w'=>Xt w (λv w'=>J8 w' v 0) e w':=by
 go_wp2
 exact bodyPost_ret (by simp[results,results241,go_sem]) I ⟨_,rfl,J8.small _ wk wk,(Ext.refl _).alloc _⟩
theorem Oz(neg:Bool)(b off cap:Nat)(x:Int)(w:World)(hc:w.cell? ⟨b,off,none⟩=some (.int .u64 x))(h0:0<=x)(h1:x<=9223372036854775807)(hb:b<w.heap.size):
  Calls prog 241 #[.bool neg,.slice (some ⟨b,off,none⟩) 1 cap] w λe w'=>Xt w (λv w'=>J8 w' v (sg neg x)) e w':=by
 cases neg
 ·go_wp2
  exact bodyPost_ret (v:=.agg #[.int .i64 x,.slice none 0 0]) (by simp[results,results241,go_sem]) I ⟨_,rfl,J8.small _ O O,(Ext.refl _).alloc _⟩
 go_enter func241,ntmps241
 go_wp2
 exact bodyPost_ret (v:=.agg #[.int .i64 (-x),.slice none 0 0]) (by simp[results,results241,go_sem]) I ⟨_,rfl,J8.small _ O O,(Ext.refl _).alloc _⟩
theorem Fl(neg:Bool)(b off cap:Nat)(x:Int)(w:World)(hc:w.cell? ⟨b,off,none⟩=some (.int .u64 x))(h1:9223372036854775808<=x)(hb:b<w.heap.size):
  Calls prog 241 #[.bool neg,.slice (some ⟨b,off,none⟩) 1 cap] w λe w'=>e = .returned (.agg #[.int .i64 (if neg then -1 else 1),.slice (some ⟨b,off,none⟩) 1 cap])/\Ext w w':=by
 cases neg
 ·go_enter func241,ntmps241
  go_wp2
  exact bodyPost_ret (by simp[results,results241,go_sem]) I ⟨rfl,(Ext.refl _).alloc _⟩
 go_enter func241,ntmps241
 go_wp2
 exact bodyPost_ret (by simp[results,results241,go_sem]) I ⟨rfl,(Ext.refl _).alloc _⟩
theorem Fk(neg:Bool)(q:Option Addr)(n cap:Nat)(w:World)(hn:2<=n):
  Calls prog 241 #[.bool neg,.slice q n cap] w λe w'=>e = .returned (.agg #[.int .i64 (if neg then -1 else 1),.slice q n cap])/\Ext w w':=by
 cases neg
 ·go_enter func241,ntmps241
  go_wp2
  exact bodyPost_ret (by simp[results,results241,go_sem]) I ⟨rfl,(Ext.refl _).alloc _⟩
 go_enter func241,ntmps241
 go_wp2
 exact bodyPost_ret (by simp[results,results241,go_sem]) I ⟨rfl,(Ext.refl _).alloc _⟩
theorem Ko(neg:Bool)(v:Value)(l:List Int)(w:World)(hs:SL w v JM l)(hd:DG W l)(hn:NZ l):
  Calls prog 241 #[.bool neg,v] w λe w'=>Xt w (λv w'=>J8 w' v (sg neg (dv W l))) e w':=by
 obtain⟨q,cap,rfl,h2,h3,h4⟩:=hs
 match l,hd,hn,h2,h4 with
 |[],hd,hn,h2,h4=>exact(O0 neg q cap w).mono λe w' h=>by cases neg<;>exact h
 |[x],hd,hn,h2,h4 =>
  obtain⟨b,off,rfl,hb,hc⟩:=h4 0 wv;have hx:=hd.head;have e1:dv W [x]=x:=wv;rw[e1];by_cases hx1:x<=9223372036854775807
  ·exact Oz neg b off cap x w hc hx.1 hx1 hb.lt
  refine(Fl neg b off cap x w hc O hb.lt).mono λe w' ⟨h,k⟩=>⟨_,h,⟨_,_,_,_,rfl,.inr ⟨b,off,[x],rfl,rfl,h2,h3,h4.ext k,hd,hn,wv,?_,?_,O⟩⟩,k⟩
  all_goals grind[sg]
 |x::y::l,hd,hn,h2,h4 =>
  obtain⟨b,off,rfl,hb,hc⟩:=h4 0 wv;refine(Fk neg _ _ cap w wv).mono λe w' ⟨h,k⟩=>⟨_,h,⟨_,_,_,_,rfl,.inr ⟨b,off,x::y::l,rfl,rfl,h2,h3,h4.ext k,hd,hn,wv,?_,?_,?_⟩⟩,k⟩
  ·omega
  ·grind[sg]
  have:=By JX hd hn wv;have h6:=YI (b:=W) wk (m:=1) (n:=(x::y::l).length-1) wv;have h7:W^1=18446744073709551616:=wk;omega
theorem FV(s:Int)(b off n cap:Nat)(w:World):
  Calls prog 220 #[.agg #[.int .i64 s,.slice (some ⟨b,off,none⟩) n cap]] w λe w'=>e = .returned (.tuple #[.bool (decide (s<0)),.slice (some ⟨b,off,none⟩) n cap])/\Ext w w':=by
 go_wp2
 go_quiet (fail)
 go_wp2
 go_ret2
 exact⟨rfl,((Ext.refl _).alloc _).drewN _⟩
theorem Tv(w:World):
  Calls prog 220 #[.agg #[.int .i64 0,.slice none 0 0]] w λe w'=>e = .returned (.tuple #[.bool false,.slice none 0 0])/\Ext w w':=by
 go_wp2
 go_ret2
 exact⟨rfl,(Ext.refl _).alloc _⟩
theorem FB(n:Int)(h0 : -9223372036854775808<=n)(h:n<0):IntKind.u64.wrap (wrap64 (-n))=JU n:=by
 grind[Hq,wrap64,iQ,iG,bZ]
theorem Wh(n:Int)(w:World)(h0 : -9223372036854775808<=n)(h1:n<=9223372036854775807):
  Calls prog 240 #[.int .i64 n] w λe w'=>e = .returned (.int .u64 (JU n))/\w=w':=by
 by_cases h:n<0
 ·have H:=aa (FB n h0 h);go_wp2
  go_ret
  exact⟨congrArg (λx=>eO (.int .u64 x)) H.out,rfl⟩
 have H:=aa (Vj (z:=n) O);go_wp2
 go_ret
 exact⟨congrArg (λx=>eO (.int .u64 x)) H.out.symm,rfl⟩
theorem Rz(z:Int)(w:World)(hz:(z==0)=false)(h0 : -9223372036854775808<=z)(h1:z<=9223372036854775807):
  Calls prog 220 #[.agg #[.int .i64 z,.slice none 0 0]] w λe w'=>(∃b,e = .returned (.tuple #[.bool (decide (z<0)),.slice (some ⟨b,0,none⟩) 1 1])/\Zy w' b 283 JM [JU z])/\Ext w w':=by
 have hn:=λw=>run_neq_slice_nil_any w 112 283 none 0 0 0 0 underlying112;go_enter func220,ntmps220
 go_wp2
 go_region_held3 (λw'=>w'.cell? ⟨w.heap.size,0,none⟩=some (.int .i64 z)) (go_keep) (first | (go_at_call 240;refine(Wh _ _ h0 h1).mono ?_;rintro e w' ⟨rfl,rfl⟩))
 go_wp2
 go_ret2
 exact⟨⟨_,rfl,(Zy.QGO _ _ 283 JM [JU z] _ I wv).drew⟩,(((Ext.refl _).alloc _).alloc _).drew⟩
theorem Z6(v:Value)(z:Int)(w:World)(hv:J8 w v z):
  Calls prog 220 #[v] w λe w'=>Xt w (λr w'=>∃p l,r = .tuple #[.bool (decide (z<0)),p]/\SL w' p JM l/\DG W l/\NZ l/\dv W l=JU z) e w':=by
 obtain⟨s,q,n,cap,rfl,hp⟩:=hv;rcases hp with ⟨rfl,rfl,rfl,rfl,h0,h1⟩ | ⟨b,off,l,rfl,rfl,h3,h4,h5,h6,h7,h8,h9,h10,h11⟩
 ·by_cases hz:s=0
  ·subst hz;exact(Tv w).mono λe w' ⟨h,k⟩=>⟨_,h,⟨_,[],rfl,SL.nil _ _,DG.nil _,by simp[NZ],rfl⟩,k⟩
  refine(Rz s w (by simp_all) h0 h1).mono λe w' ⟨⟨b,h,hb⟩,k⟩=>⟨_,h,⟨_,[JU s],rfl,SL.Wn hb 1 (ay _) wv,?_,?_,wv⟩,k⟩
  all_goals grind[JU,GA,WD,DG.cons,DG.nil,NZ]
 have hz:decide (s<0)=decide (z<0)/\dv W l=JU z:=by
  rcases h9 with rfl | rfl
  ·grind[Vj]
  grind[dv,Hq]
 refine(FV s b off _ cap w).mono λe w' ⟨h,k⟩=>⟨_,h,⟨_,l,by grind,⟨_,_,rfl,h3,h4,h5.ext k⟩,h6,h7,hz.2⟩,k⟩
theorem E6{l:List Int}(h:k<l.length):l.getD k default=l[k]:=by simp_all
theorem Yn(v:Value)(l:List Int)(w:World)(hs:SL w v JM l):
  Calls prog 306 #[v] w λe w'=>(∃v',e = .returned v'/\SL w v' JM (Qx l))/\w=w':=by
 obtain⟨q,cap,rfl,hcap,hmax,hc⟩:=hs;have HC:=aa hc;clear hc;go_enter func306,ntmps306
 go_wp2
 go_loop [3] (λn=>∃k:Nat,k<=l.length/\n = .int .i64 k/\Qx l=Qx (l.take k)) λn=>(intOf n).toNat
 case atStart=>grind
 case round =>
  obtain⟨k,hk,rfl,he⟩:=hrel;have HE:=aa he;clear he;cases k with
  |zero =>
   go_wp2
   go_ret
   exact⟨⟨_,rfl,by rw[HE.out];exact⟨q,cap,rfl,by simp[Qx],hmax,λi hi=>by trivial⟩⟩,rfl⟩
  |succ k =>
   obtain⟨b,off,rfl,hb,hc⟩:=HC.out k O;simp only[JM]at hc;have HT:=aa (Vb l k O);rw[E6 O]at hc;generalize hx:l[k]=x at hc;have HX:=aa hx;clear hx;by_cases h0:x=0
   ·have h1:(x==0)=true:=by grind
    go_wp2
    go_round
    case rel=>exact⟨k,O,rfl,by rw[HE.out,HT.out,HX.out,h0,Zw]⟩
    simp[measure,intOf]
   have h1:(x==0)=false:=by simp[h0]
   go_wp2
   go_ret
   have e1:Qx l=l.take (k+1):=by rw[HE.out,HT.out,HX.out,Vr _ h0,<-HX.out,<-HT.out]
   exact⟨⟨_,rfl,by rw[e1];exact⟨_,cap,by rw[ao,aZ O];rfl,by rw[ao];omega,hmax,HC.out.take _⟩⟩,rfl⟩
def sz(z:Int):Nat:=if z=0 then 0 else z.natAbs.log2+1
def Bl(z:Int):z.natAbs<2^sz z:=by
 unfold sz;split
 ·simp[*]
 exact Nat.lt_log2_self
theorem XK(z:Int)(k:Nat):sz z<=k↔z.natAbs<2^k:=by
 constructor
 ·intro h;exact aT (Bl z) (Nat.pow_le_pow_right wk h)
 intro h;unfold sz;split
 ·exact eD _
 rename_i hz;have:z.natAbs.log2<k:=(Nat.log2_lt O).2 h;omega
theorem X8(a b:Int):sz (a*b)<=sz a+sz b:=by
 rw[XK,Int.natAbs_mul,fw];have h1:=Bl a;have h2:=Bl b
 calc a.natAbs*b.natAbs<=a.natAbs*2^sz b:=Nat.mul_le_mul_left _ (Nat.le_of_lt h2)
  _<2^sz a*2^sz b:=fI h1 (Nat.pow_pos wk)
def Eb(a b:Int):sz (a+b)<=max (sz a) (sz b)+1:=by
 rw[XK,Nat.pow_succ];have h1:=(XK a (max (sz a) (sz b))).1 (Nat.le_max_left _ _);have h2:=(XK b (max (sz a) (sz b))).1 (Nat.le_max_right _ _);omega
def Vc{a b:Int}(h:a.natAbs<=b.natAbs):sz a<=sz b:=by
 rw[XK];exact Nat.lt_of_le_of_lt h (Bl b)
def Y6(a:Int):sz (-a)=sz a:=by unfold sz;simp
def Dd(a:Int):sz (JU a)=sz a:=by unfold JU;split<;>simp[Y6]
theorem gN{l:List Int}(h:DG W l)(hn:NZ l):l.length<=sz (dv W l):=by
 by_cases hl:l=[]
 ·subst hl;simp
 have h1:=By JX h hn hl;have h2:=Bl (dv W l);have h0:=Qw JX h;have h3:(2:Int)^(l.length-1)<=W^(l.length-1):=by
  generalize l.length-1=k
  induction k with
  |zero=>simp
  |succ k ih=>rw[aC,aC];exact fP ih wk wk (au (pow_pos JX k))
 have h4:(2:Int)^(l.length-1)<2^sz (dv W l):=by
  have:((dv W l).natAbs:Int)<((2^sz (dv W l):Nat):Int):=O;rw[bH]at this;have e:((dv W l).natAbs:Int)=dv W l:=O;rw[e]at this;have e2:((2:Nat):Int)=2:=rfl;rw[e2]at this;omega
 have h5:2^(l.length-1)<2^sz (dv W l):=by
  have:((2^(l.length-1):Nat):Int)<((2^sz (dv W l):Nat):Int):=by
   rw[bH,bH];exact h4
  omega
 have:=(Nat.pow_lt_pow_iff_right (by decide:1<2)).1 h5;omega
theorem Rc(v:Value)(z:Int)(w:World)(hv:J8 w v z):
  Calls prog 151 #[v] w λe w'=>e = .returned (.int .i64 (MV z))/\Ext w w':=by
 obtain⟨s,q,n,cap,rfl,hp⟩:=hv;have hs:MV z=if s<0 then -1 else if s=0 then 0 else 1:=by
  rcases hp with ⟨_,_,_,rfl,_⟩ | ⟨b,off,l,_,_,_,_,_,_,_,_,h,hz,hb⟩
  ·rfl
  unfold MV;rcases h with rfl | rfl
  ·rw[lQ]at hz;rw[if_neg O,if_neg O];rfl
  rw[if_pos O];rfl
 have HS:=aa hs;clear hs hp;rcases eE s 0 with g | g | g
 all_goals
  go_enter func151,ntmps151
  go_wp2
  go_ret
  exact⟨by rw[HS.out];simp[g]<;>omega,(Ext.refl _).alloc _⟩
def YP.isNone{s:Int}{n cap:Nat}{z:Int}(h:YP w s q n cap z):
  (q=none/\n=0/\cap=0/\s=z/\-9223372036854775808<=z/\z<=9223372036854775807)\/(∃b off,q=some ⟨b,off,none⟩):=by
 rcases h with h | ⟨b,off,_,h,_⟩
 ·exact .inl h
 exact .inr ⟨b,off,h⟩
abbrev IZ:Array Value:=#[.int .i64 0,.slice none 0 0]
theorem Fb(s:Int)(w:World)(h0 : -9223372036854775807<=s)(h1:s<=9223372036854775807):
  Calls prog 196 #[.agg #[.int .i64 s,.slice none 0 0]] w λe w'=>e = .returned (.agg #[.int .i64 (-s),.slice none 0 0])/\Ext w w':=by
 have hn:=λw=>eX (P:=prog) w 112 283 none 0 0 0 0 underlying112;have hm':(s != -9223372036854775808)=true:=wy;go_enter func196,ntmps196
 go_wp2
 exact bodyPost_ret (v:=.agg #[.int .i64 (-s),.slice none 0 0]) (by simp[results,results196,go_sem]) I ⟨rfl,((Ext.refl _).alloc _).alloc _⟩
theorem YP.kp(h:Kp w w'){s:Int}{q:Option Addr}{n cap:Nat}{z:Int}(hv:YP w s q n cap z):YP w' s q n cap z:=by
 rcases hv with hv | ⟨b,off,l,h1,h2,h3,h4,h5,h6⟩
 ·exact .inl hv
 exact .inr ⟨b,off,l,h1,h2,h3,h4,h5.kp h wk,h6⟩
def R6:¬DT 114:=wk
def Kp.Gu{a:World}(h:Kp a w){R T:Nat}(hT:Yy w R T)(hD:¬DT T)(v0 v1:Value):Kp a ((w.setCell ⟨R,0,none⟩ v0).setCell ⟨R,1,none⟩ v1) :=
 (h.set hT hD 0 v0).set (hT.set _ _ _) hD 1 v1
theorem NO(s:Int)(q:Option Addr)(n cap:Nat)(z:Int)(w:World)(hv:YP w s q n cap z)(hq:q.isNone=false\/(s != -9223372036854775808)=false):
  Calls prog 196 #[.agg #[.int .i64 s,.slice q n cap]] w λe w'=>Xt w (λv w'=>J8 w' v (-z)) e w':=by
 have hn:=λw=>eX (P:=prog) w 112 283 q n cap 0 0 underlying112;have hz0:Hid (sg (!decide (z<0)) (JU z) = -z):=by
  show sg (!decide (z<0)) (JU z) = -z;unfold sg JU;by_cases h:z<0<;>simp[h]
 have HV:Hid (J8 w (.agg #[.int .i64 s,.slice q n cap]) z):=⟨_,_,_,_,rfl,hv⟩;have hB:Bx ((w.alloc (.cells #[.int .i64 s,.slice q n cap] 114)).alloc (.cells IZ 114)) (w.heap.size+1) 114 IZ.toList:=by
  have:=Bx.new (w.alloc (.cells #[.int .i64 s,.slice q n cap] 114)) 114 IZ;simpa using this
 have HB:=aa hB;clear hB hv;cases hqn:q.isNone
 all_goals
  rw[hqn]at hq;simp only[reduceCtorEq,true_or,false_or]at hq;rw[hqn]at hn;clear hqn;go_enter func196,ntmps196
  go_wp2_with fail
  refine(Z6 _ z _ (HV.out.ext (((Ext.refl _).alloc _).alloc _))).mono ?_;rintro e w1 ⟨_,rfl,⟨p,l,rfl,hsl,hd,hnz,hval⟩,hx⟩;go_wp2_with fail
  refine(Ko _ p l _ hsl hd hnz).mono ?_;rw[hval,hz0.out];rintro e w2 ⟨_,rfl,⟨s',q',n',cap',rfl,hp'⟩,hx2⟩;have zH:=(HB.out.ext hx).ext hx2;obtain⟨c0,c1,f0,f1⟩:=zH.two;have HB2:=aa zH;clear hval zH;go_wp2
  refine bodyPost_ret (v:=.agg #[.int .i64 s',.slice q' n' cap']) (by simp[results,results196,go_sem,c0,c1]) I ⟨_,rfl,⟨_,_,_,_,rfl,hp'.kp ((Kp.refl _).Gu HB2.out.E4 R6 _ _)⟩,?_⟩;exact((((((Ext.refl w).alloc _).alloc _).trans hx).trans hx2).XR wv _).XR wv _
theorem PY(v:Value)(z:Int)(w:World)(hv:J8 w v z):
  Calls prog 196 #[v] w λe w'=>Xt w (λv w'=>J8 w' v (-z)) e w':=by
 obtain⟨s,q,n,cap,rfl,hp⟩:=hv;rcases hp.isNone with ⟨rfl,rfl,rfl,rfl,h0,h1⟩ | ⟨b,off,rfl⟩
 ·by_cases hm:s = -9223372036854775808
  ·exact NO _ _ _ _ _ w hp (.inr (by simpa using hm))
  exact(Fb s w O h1).mono λe w' ⟨he,hx⟩=>⟨_,he,J8.small _ O O,hx⟩
 exact NO _ _ _ _ _ w hp (.inl rfl)
end Go.Proofs.YtphlgddkpboamaaGreatDoor
namespace Ig
def Qb(l:List Int)(k:Nat):Int:=if h:k<l.length then l[k]else 0
theorem Xz{l:List Int}{k:Nat}(h:k<l.length):Qb l k=l[k]:=dif_pos h
theorem G2{l:List Int}{k:Nat}(h:l.length<=k):Qb l k=0:=dif_neg O
def DG.Qb{b:Int}(hb:0<b){l:List Int}(h:DG b l)(k:Nat):0<=Qb l k/\Qb l k<b:=by
 unfold Ig.Qb;split
 ·exact h _ (iK _)
 omega
def Kt(b:Int)(l:List Int)(k:Nat):dv b (l.take (k+1))=dv b (l.take k)+b^k*Qb l k:=by
 grind[Xz,WB,G2,ah]
def KP{l:List Int}{p:Nat}(h:p<l.length)(v:Int)(r:Nat):Qb (l.set p v) r=if r=p then v else Qb l r:=by
 unfold Qb
 grind
def Wq(b:Int){l:List Int}{p:Nat}(h:p<l.length)(v:Int):dv b (l.set p v)=dv b l+b^p*(v-Qb l p):=by
 have h1:=Ys b (l.set p v) (p+1) (by grind);have h2:=Ys b l (p+1) O;have e1:(l.set p v).drop (p+1)=l.drop (p+1):=by simp[List.drop_set_of_lt]
 have e2:(l.set p v).take (p+1)=l.take p++[v]:=by
  grind[Vb,List.take_set_of_le]
 rw[h1,h2,e1,e2,XG,WB b l p h,Xz h,ao,aZ O]
 grind
theorem XL{l:List Int}{k:Nat}(h:k<l.length):l.drop k=Qb l k::l.drop (k+1):=by rw[eB h,Xz h]
def SP{D V2 v' U3 u' t:Int}(hD:0<D)(hv1:v'<D)(hu0:0<=u')
  (ht0:0<=t) (ht:t*V2<=U3) (htv:t<=V2) (_hv0:0<=v'):(t-1)*(V2*D+v')<=U3*D+u':=by
 have h1:t*V2*D<=U3*D:=af ht O;have h2:t*v'<=t*D:=ae O ht0;have h3:t*D<=V2*D:=af htv O
 grind
def E2{D V2 v' U3 u' t:Int}(hv0:0<=v')(hu1:u'<D)(hD:0<D)
  (ht0:0<=t) (ht:U3<t*V2):U3*D+u'<t*(V2*D+v'):=by
 have h1:(U3+1)*D<=t*V2*D:=af O O;have h2:=ak ht0 hv0
 grind
theorem Xy{u v q:Int}(hv:0<v)(h1:q*v<=u)(h2:u<(q+1)*v):u/v=q:=by
 have e:(q+1)*v=q*v+v:=by grind
 have:u=(u-q*v)+q*v:=O;rw[this,Int.add_mul_ediv_right _ _ O,ia O O];omega
theorem ZK{u v q:Int}(h1:q*v<=u)(h2:u<(q+1)*v):u%v=u-q*v:=by
 have e:(q+1)*v=q*v+v:=by grind
 have:u=(u-q*v)+q*v:=O;rw[this,Int.add_mul_emod_self_right,bO O O];omega
section
variable{b:Int}(hb:1<b)
include hb
theorem ZV{l:List Int}{n:Nat}(hl:DG b l)(h:l.length=n+3):
  dv b l=((Qb l (n+2)*b+Qb l (n+1))*b+Qb l n)*b^n+dv b (l.take n)/\0<=dv b (l.take n)/\dv b (l.take n)<b^n:=by
 have h1:=Kt b l n;have h2:=Kt b l (n+1);have h3:=Kt b l (n+2);have h4:=Zh O (hl.take n);rw[ao,aZ O]at h4;refine⟨?_,Qw O (hl.take n),h4⟩
 grind
theorem Ye{l:List Int}{n:Nat}(hl:DG b l)(h:l.length=n+2):
  dv b l=(Qb l (n+1)*b+Qb l n)*b^n+dv b (l.take n)/\0<=dv b (l.take n)/\dv b (l.take n)<b^n:=by
 have h1:=Kt b l n;have h2:=Kt b l (n+1);have h4:=Zh O (hl.take n);rw[ao,aZ O]at h4;refine⟨?_,Qw O (hl.take n),h4⟩
 grind
omit hb
structure Kx(b:Int)(u v:List Int)(n:Nat):Prop where
 hu:DG b u
 hv:DG b v
 lu:u.length=n+3
 lv:v.length=n+2
 nz:0<Qb v (n+1)
 lt:dv b u<b*dv b v
include hb
theorem Kx.top{u v:List Int}{n:Nat}(h:Kx b u v n):Qb u (n+2)<=Qb v (n+1):=by
 obtain⟨a1,a2,a3⟩:=ZV hb h.hu h.lu;obtain⟨b1,b2,b3⟩:=Ye hb h.hv h.lv;have hlt:=h.lt;have hb0:0<b:=O;have d1:=h.hu.Qb hb0 n;have d2:=h.hu.Qb hb0 (n+1);have d3:=h.hv.Qb hb0 n;refine Int.not_lt.1 λhc=>?_;have e1:(Qb v (n+1)+1)*(b*b*b^n)<=Qb u (n+2)*(b*b*b^n):=af O (ak (ak O O) O);have e2:0<=Qb u _*(b*b^n):=ak d2.1 (ak O O);have e3:0<=Qb u n*b^n:=ak d1.1 O;have e4:(Qb v n+1)*b^n<=b*b^n:=af O O;have e5:b*((Qb v n+1)*b^n)<=b*(b*b^n):=ae e4 O;have e7:b*(dv b (v.take n)+1)<=b*b^n:=ae O O;rw[a1,b1]at hlt
 grind
end
end Ig
namespace Go.Proofs.YtphlgddkpboamaaGreatDoor
variable{w w' w0:World}{B E N b bytes i j k off s:Nat}{a:Act}{args c cs l' news vs z:List Value}{o:Obj}{ds la post u:List Int}{A0 A1 A2 A3 A4 A5 A6 A7 A8 A9 α γ ι:Type}{T T' e t ty yT:TypeId}{ops:Array Oper}{Q Q':Exit->Act->World->Prop}{g:Bool}{K:Act->World->Prop}{x y:Operand}{bs bs' bs0:List (Nat×Obj)}{q:Option Addr}{P:Program}{f:Obj->List (Nat×Obj)}{fn:Func}{aft:Array Edge}{x1:Nat×Obj}{v1 v3 v4 v5 x2 x3 x4 x5 x6 x7 x8:Value}{ps:List (Nat×Value)}{rs:List ResultVar}{k':IntKind}{pl:List (Nat×Nat)}{h:Int}{F F0:Gs}{G:Gs->Prop}{m:Sl}
open Go.RowKit Ig
def J3(x y c:Int):Int:=(x+y+c)%W
def XT(x y c:Int):Int:=(x+y+c)/W
def ZE(x y c:Int):Int:=(x-y-c)%W
def VD(x y c:Int):Int:=if x<y+c then 1 else 0
theorem WC{x y c:Int}(hx:0<=x/\x<W)(hy:0<=y/\y<W)(hc:0<=c/\c<=1):
  J3 x y c+W*XT x y c=x+y+c/\(0<=J3 x y c/\J3 x y c<W)/\0<=XT x y c/\XT x y c<=1:=by
 grind[J3,XT,WD]
theorem Hb{x y c:Int}(hx:0<=x/\x<W)(hy:0<=y/\y<W)(hc:0<=c/\c<=1):
  ZE x y c-W*VD x y c=x-y-c/\(0<=ZE x y c/\ZE x y c<W)/\0<=VD x y c/\VD x y c<=1:=by
 grind[ZE,VD,WD]
theorem Z4(x y c:Int)(hx:0<=x)(hy:0<=y)(hc:0<=c)(hc1:c<=1)(w:World):
  (callFunc 329 #[.int .u64 x,.int .u64 y,.int .u64 c]).run prog w = .ok (.value (.tuple #[.int .u64 (J3 x y c),.int .u64 (XT x y c)])) w:=by
 rw[run_callFunc_extern (fn:=f329) wv wu wu wj wj,run_add64 x y c hx hy hc hc1];rfl
def BF:Array Value->Sem Value:=λargs=>do
 let (x,y,b) <-iA "Sub64" args
 pure (iB ((x+eV-y-b)%eV) (if x<y+b then 1 else 0))
theorem M9(x y b:Nat)(hb:b<=1)(w:World):
  (BF #[.int .u64 x,.int .u64 y,.int .u64 b]).run prog w =
   .ok (.tuple #[.int .u64 (((x+18446744073709551616-y-b)%18446744073709551616:Nat):Int),.int .u64 ((if x<y+b then 1 else 0:Nat):Int)]) w:=by
 have:b=0\/b=1:=O;rcases this with rfl | rfl<;>rfl
theorem W5(x y c:Int)(hx:0<=x/\x<W)(hy:0<=y/\y<W)(hc:0<=c/\c<=1)(w:World):
  (callFunc 344 #[.int .u64 x,.int .u64 y,.int .u64 c]).run prog w = .ok (.value (.tuple #[.int .u64 (ZE x y c),.int .u64 (VD x y c)])) w:=by
 obtain⟨x,rfl⟩:=aj hx.1;obtain⟨y,rfl⟩:=aj hy.1;obtain⟨c,rfl⟩:=aj hc.1;rw[run_callFunc_extern (fn:=f344) wv wu wu wj wj,M9 x y c O]
 grind[Result.andThen,ZE,VD,WD]
theorem Eg(ds:List α)(z x:α)(m:Nat):(ds++ai (m+1) z).set ds.length x=(ds++[x])++ai m z:=by
 grind
theorem BL[Inhabited α](ds:List α)(z:α)(m k:Nat)(hk:k=ds.length):(ds++ai (m+1) z).getD k default=z:=by
 simp_all
def JH{l:List Int}(h:DG W l)(k:Nat):0<=Qb l k/\Qb l k<W:=h.Qb JX k
theorem Jr(l:List Int)(k:Nat):dv W (l.take (k+1))=dv W (l.take k)+W^k*Qb l k:=Kt W l k
def ZG{l:List Int}(h:k<l.length):l.getD k default=Qb l k:=by rw[E6 h,Xz h]
def BZ(lx ly:List Int)(k:Nat)(ds:List Int)(c:Int):Prop :=
 ds.length=k/\DG W ds/\(0<=c/\c<=1)/\dv W ds+W^k*c=dv W (lx.take k)+dv W (ly.take k)
theorem BZ.step{lx ly:List Int}{c:Int}(h:BZ lx ly k ds c)(hx:DG W lx)(hy:DG W ly):
  BZ lx ly (k+1) (ds++[J3 (Qb lx k) (Qb ly k) c]) (XT (Qb lx k) (Qb ly k) c):=by
 obtain⟨h1,h2,h3,h4⟩:=h;obtain⟨a1,a2,a3⟩:=WC (JH hx k) (JH hy k) h3;refine⟨by grind,h2.append (DG.cons a2.1 a2.2 (DG.nil _)),a3,?_⟩;rw[XG,h1,Jr,Jr,aC]
 grind
def P4(lx ly:List Int)(k:Nat)(ds:List Int)(c:Int):Prop :=
 ds.length=k/\DG W ds/\(0<=c/\c<=1)/\dv W ds-W^k*c=dv W (lx.take k)-dv W (ly.take k)
theorem P4.step{lx ly:List Int}{c:Int}(h:P4 lx ly k ds c)(hx:DG W lx)(hy:DG W ly):
  P4 lx ly (k+1) (ds++[ZE (Qb lx k) (Qb ly k) c]) (VD (Qb lx k) (Qb ly k) c):=by
 obtain⟨h1,h2,h3,h4⟩:=h;obtain⟨a1,a2,a3⟩:=Hb (JH hx k) (JH hy k) h3;refine⟨by grind,h2.append (DG.cons a2.1 a2.2 (DG.nil _)),a3,?_⟩;rw[XG,h1,Jr,Jr,aC]
 grind
theorem jw:(prog.info? 283).map (λi=>(i.zero,i.size,i.bytes))=some (some (.int .u64 0),1,8):=wj
theorem Za(n:Nat)(hn:n<=1000000000000)(w:World):
  (iM 112 (.int .i64 (n:Int)) (.int .i64 (n:Int))).run prog w = .ok (.slice (some ⟨w.heap.size,0,none⟩) n n) (w.alloc (.cells (madeCells #[.int .u64 0] n) 283)):=by
 obtain⟨i0,hi,hz0,hz1,hz2⟩:=info_parts jw;have:=run_make w 112 283 i0 _ underlying112 hi hz0 .i64 .i64 n n O O (by grind) O
 grind[Value.cells]
theorem Gf(sw:Bool)(q q':Option Addr)(cap cap':Nat)(lx ly:List Int)(w:World)(hx:DG W lx)(hy:DG W ly)(hcx:Cells w q JM lx)(hcy:Cells w q' JM ly)(hlen:lx.length<=100000000000)(hle:ly.length<=lx.length)(hsw:sw=true->ly.length<lx.length):
  Calls prog 279 (if sw then #[.slice q' ly.length cap',.slice q lx.length cap]else #[.slice q lx.length cap,.slice q' ly.length cap']) w λe w' =>
   Xt w (λv w'=>∃l,SL w' v JM l/\DG W l/\NZ l/\dv W l=dv W lx+dv W ly) e w':=by
 have HX:=aa hcx;clear hcx;have HY:=aa hcy;clear hcy;have hmk:=λw=>Za (lx.length+1) O w;have ec:((lx.length+1:Nat):Int)=(lx.length:Int)+1:=O;simp only[ec]at hmk;cases sw
 all_goals
  simp only[Bool.false_eq_true,if_false,if_true,forall_const,false_implies]at hsw ⊢;go_enter func279,ntmps279
  go_wp2
  go_loopw [22,6] (λi c wr=>∃(k:Nat) (ds:List Int) (cc:Int),k<=lx.length/\i = .int .i64 k/\c = .int .u64 cc/\BZ lx ly k ds cc/\Zy wr w.heap.size 283 JM (ds++ai (lx.length+1-k) 0)/\Ext w wr)
   (λi _ _=>lx.length-(intOf i).toNat)
  case atStart=>exact⟨0,[],0,eD _,rfl,rfl,⟨rfl,DG.nil _,wk,wv⟩,Zy.made w _ JM 0 _ _ rfl,(Ext.refl _).alloc _⟩
  case round =>
   obtain⟨k,ds,cc,hk,rfl,rfl,hI,hB,hE⟩:=hrel;have hst:=hI.step hx hy;obtain⟨hd1,hd2,hd3,hd4⟩:=hI;have hd1':=aa hd1;clear hd1;have hd4':=aa hd4;clear hd4;by_cases hlt:k<lx.length
   ·obtain⟨b,off,rfl,hb,hc⟩:=HX.out k hlt;rw[ZG hlt]at hc;have hc:=hE.cell hc;simp only[JM]at hc;have e1:lx.length+1-k=(lx.length-k)+1:=O;rw[e1]at hB;have hcell:=hB.cell (i:=k) (by simp[hd1'.out]);rw[BL _ _ _ _ hd1'.out.symm]at hcell;simp only[JM]at hcell;have hfr:=hB.frozen k;have hBs:=hB.set k (J3 (Qb lx k) (Qb ly k) cc);rw[<-hd1'.out,Eg,hd1'.out]at hBs;have HB:=aa hB;clear hB;have HBs:=aa hBs;clear hBs;have HS:=aa hst;clear hst;have hx0:=(JH hx k).1;have hy0:=(JH hy k).1;by_cases hlt2:k<ly.length
    ·obtain⟨b2,off2,rfl,hb2,hc2⟩:=HY.out k hlt2;rw[ZG hlt2]at hc2;have hc2:=hE.cell hc2;simp only[JM]at hc2;have ha:=λw=>Z4 (Qb lx k) (Qb ly k) cc hx0 hy0 hd3.1 hd3.2 w;go_wp2
     go_roundw
     case rel=>exact⟨k+1,_,_,O,by go_num,rfl,HS.out,by rw[show lx.length+1-(k+1)=lx.length-k from by omega];exact HBs.out,aY hE wv _⟩
     case measure=>simp[intOf];omega
    have H0:=aa (G2 (l:=ly) (k:=k) O);have ha:=λw=>Z4 (Qb lx k) 0 cc hx0 (bK _) hd3.1 hd3.2 w;go_wp2
    go_roundw
    case rel=>exact⟨k+1,_,_,O,by go_num,rfl,by have:=HS.out;rw[H0.out]at this;exact this,by rw[show lx.length+1-(k+1)=lx.length-k from by omega];have:=HBs.out;rw[H0.out]at this;exact this,aY hE wv _⟩
    case measure=>simp[intOf];omega
   have hk':k=lx.length:=O;subst hk';have e1:lx.length+1-lx.length=0+1:=O;rw[e1]at hB;have hcell:=hB.cell (i:=lx.length) (by simp[hd1'.out]);rw[BL _ _ _ _ hd1'.out.symm]at hcell;simp only[JM]at hcell;have hfr:=hB.frozen lx.length;have hBs:=hB.set lx.length cc;rw[<-hd1'.out,Eg,hd1'.out]at hBs;simp only[ee,fy]at hBs;have hSL:=SL.Wn hBs (lx.length+1) (by simp[hd1'.out]) (by simp[hd1'.out];omega);have el:(ds++[cc]).length=lx.length+1:=by simp[hd1'.out]
   rw[ah O,el]at hSL;have hEs:Ext w _:=aY hE (p:=⟨w.heap.size,lx.length,none⟩) wv (JM cc);have hfin:DG W (ds++[cc])/\dv W (ds++[cc])=dv W lx+dv W ly:=by
    refine⟨hd2.append (DG.cons hd3.1 (wi WD) (DG.nil _)),?_⟩;rw[XG,hd1'.out,hd4'.out,ah (ay _),ah hle]
   have HB:=aa hB;clear hB;have HBs:=aa hBs;clear hBs;have HSL:=aa hSL;clear hSL;have HF:=aa hfin;clear hfin;have HES:=aa hEs;clear hEs;clear el e1 hst;go_wp2_with (go_at_call 306;refine(Yn _ _ _ HSL.out).mono ?_;rintro e w' ⟨⟨v',rfl,hv⟩,rfl⟩)
   go_ret
   exact⟨_,rfl,⟨_,hv,HF.out.1.Qx,XN _,by rw[Ju,HF.out.2]⟩,HES.out⟩
theorem P1(v v':Value)(lx ly:List Int)(w:World)(hx:DG W lx)(hy:DG W ly)(hs:SL w v JM lx)(hs':SL w v' JM ly)(h1:lx.length<=100000000000)(h2:ly.length<=100000000000):
  Calls prog 279 #[v,v'] w λe w'=>Xt w (λv w'=>∃l,SL w' v JM l/\DG W l/\NZ l/\dv W l=dv W lx+dv W ly) e w':=by
 obtain⟨q,cap,rfl,hcap,hmax,hc⟩:=hs;obtain⟨q',cap',rfl,hcap',hmax',hc'⟩:=hs';by_cases h:lx.length<ly.length
 ·have:=Gf true q' q cap' cap ly lx w hy hx hc' hc h2 O λ_=>h
  grind
 exact Gf false q q' cap cap' lx ly w hx hy hc hc' h1 O λh=>by cases h
theorem Hc(v v':Value)(lx ly:List Int)(w:World)(hx:DG W lx)(hy:DG W ly)(hs:SL w v JM lx)(hs':SL w v' JM ly)(h1:lx.length<=100000000000)(hle:ly.length<=lx.length)(hle2:dv W ly<=dv W lx):
  Calls prog 281 #[v,v'] w λe w'=>Xt w (λv w'=>∃l,SL w' v JM l/\DG W l/\NZ l/\dv W l=dv W lx-dv W ly) e w':=by
 obtain⟨q,cap,rfl,hcap,hmax,hcx⟩:=hs;obtain⟨q',cap',rfl,hcap',hmax',hcy⟩:=hs';have HX:=aa hcx;clear hcx;have HY:=aa hcy;clear hcy;have HLE:=aa hle2;clear hle2;have hmk:=λw=>Za lx.length O w;go_enter func281,ntmps281
 go_wp2
 go_loopw [14,6] (λi c wr=>∃(k:Nat) (ds:List Int) (cc:Int),k<=lx.length/\i = .int .i64 k/\c = .int .u64 cc/\P4 lx ly k ds cc/\Zy wr w.heap.size 283 JM (ds++ai (lx.length-k) 0)/\Ext w wr)
  (λi _ _=>lx.length-(intOf i).toNat)
 case atStart=>exact⟨0,[],0,eD _,rfl,rfl,⟨rfl,DG.nil _,wk,wv⟩,Zy.made w _ JM 0 _ _ rfl,(Ext.refl _).alloc _⟩
 case round =>
  obtain⟨k,ds,cc,hk,rfl,rfl,hI,hB,hE⟩:=hrel;have hst:=hI.step hx hy;obtain⟨hd1,hd2,hd3,hd4⟩:=hI;have hd1':=aa hd1;clear hd1;have hd4':=aa hd4;clear hd4;by_cases hlt:k<lx.length
  ·obtain⟨b,off,rfl,hb,hc⟩:=HX.out k hlt;rw[ZG hlt]at hc;have hc:=hE.cell hc;simp only[JM]at hc;have e1:lx.length-k=(lx.length-(k+1))+1:=O;rw[e1]at hB;have hcell:=hB.cell (i:=k) (by simp[hd1'.out]);rw[BL _ _ _ _ hd1'.out.symm]at hcell;simp only[JM]at hcell;have hfr:=hB.frozen k;have hBs:=hB.set k (ZE (Qb lx k) (Qb ly k) cc);rw[<-hd1'.out,Eg,hd1'.out]at hBs;have HB:=aa hB;clear hB;have HBs:=aa hBs;clear hBs;have HS:=aa hst;clear hst;have hx0:=JH hx k;have hy0:=JH hy k;clear e1;by_cases hlt2:k<ly.length
   ·obtain⟨b2,off2,rfl,hb2,hc2⟩:=HY.out k hlt2;rw[ZG hlt2]at hc2;have hc2:=hE.cell hc2;simp only[JM]at hc2;have ha:=λw=>W5 (Qb lx k) (Qb ly k) cc hx0 hy0 hd3 w;go_wp2
    go_roundw
    case rel=>exact⟨k+1,_,_,O,by go_num,rfl,HS.out,HBs.out,aY hE wv _⟩
    case measure=>simp[intOf];omega
   have H0:=aa (G2 (l:=ly) (k:=k) O);have ha:=λw=>W5 (Qb lx k) 0 cc hx0 ⟨bK _,JX⟩ hd3 w;go_wp2
   go_roundw
   case rel=>exact⟨k+1,_,_,O,by go_num,rfl,by have:=HS.out;rw[H0.out]at this;exact this,by have:=HBs.out;rw[H0.out]at this;exact this,aY hE wv _⟩
   case measure=>simp[intOf];omega
  have hk':k=lx.length:=O;subst hk';rw[fj,ee,fy]at hB;have hSL:=SL.Wn hB lx.length (by simp[hd1'.out]) (by simp[hd1'.out];omega);rw[ah (by simp[hd1'.out]),hd1'.out]at hSL;have hfin:dv W ds=dv W lx-dv W ly:=by
   have h4:=hd4'.out;rw[ah (ay _),ah hle]at h4;have h5:=Zh JX hd2;have h6:=Qw JX hd2;have h8:=HLE.out;rw[hd1'.out]at h5;have h7:cc=0\/cc=1:=O;rcases h7 with rfl | rfl<;>omega
  have HB:=aa hB;clear hB;have HSL:=aa hSL;clear hSL;have HF:=aa hfin;clear hfin;clear hst;go_wp2_with (go_at_call 306;refine(Yn _ _ _ HSL.out).mono ?_;rintro e w' ⟨⟨v',rfl,hv⟩,rfl⟩)
  go_ret
  exact⟨_,rfl,⟨_,hv,hd2.Qx,XN _,by rw[Ju,HF.out]⟩,hE⟩
def VM{x y:Int}(h:x<y):YY x y = -1:=if_pos h
def GD{x y:Int}(h:y<x):YY x y=1:=by unfold YY;omega
theorem Du(x:Int):YY x x=0:=by unfold YY;omega
theorem X1(v v':Value)(lx ly:List Int)(w:World)(hx:DG W lx)(hy:DG W ly)(nx:NZ lx)(ny:NZ ly)(hs:SL w v JM lx)(hs':SL w v' JM ly):
  Calls prog 280 #[v,v'] w λe w'=>e = .returned (.int .i64 (YY (dv W lx) (dv W ly)))/\Ext w w':=by
 obtain⟨q,cap,rfl,hcap,hmax,hcx⟩:=hs;obtain⟨q',cap',rfl,hcap',hmax',hcy⟩:=hs';have HX:=aa hcx;clear hcx;have HY:=aa hcy;clear hcy;rcases fk lx.length ly.length with h | h | h
 ·have HL:=aa (VM (XH DV hx hy ny h));go_enter func280,ntmps280
  go_wp2
  go_ret
  exact⟨by rw[HL.out];rfl,Ext.refl _⟩
 ·go_enter func280,ntmps280
  have hb:((lx.length:Int) != (ly.length:Int))=false:=by simp[h]
  have HLL:=aa h;clear h;go_wp2
  go_loopw [5] (λi wr=>∃k:Nat,k<=lx.length/\i = .int .i64 ((k:Int)-1)/\lx.drop k=ly.drop k/\Ext w wr) λi _=>(intOf i+1).toNat
  case atStart=>exact⟨lx.length,ay _,rfl,by rw[bL (ay _),bL (by grind)],Ext.refl _⟩
  case round =>
   obtain⟨k,hk,rfl,hd,hE⟩:=hrel;have HD:=aa hd;clear hd;cases k with
   |zero =>
    have HF:Hid (YY (dv W lx) (dv W ly)=0):=by
     have:=HD.out;grind[Du]
    go_wp2
    go_ret
    exact⟨by rw[HF.out];rfl,hE⟩
   |succ k =>
    have e1:((k+1:Nat):Int)-1=(k:Int):=O;rw[e1];have hk2:k<ly.length:=wi HLL.out;obtain⟨b,off,rfl,hb1,hc⟩:=HX.out k O;obtain⟨b2,off2,rfl,hb2,hc2⟩:=HY.out k hk2;rw[E6 O]at hc hc2;have hc:=hE.cell hc;have hc2:=hE.cell hc2;simp only[JM]at hc hc2;have HLT:=aa (Px JX hx hy HLL.out k O HD.out);have HGT:=aa (Px JX hy hx HLL.out.symm k hk2 HD.out.symm);have HEQ:Hid (lx[k]=ly[k]->lx.drop k=ly.drop k):=by
     intro e;rw[eB O,eB hk2,e,HD.out]
    generalize lx[k]=x at *
    generalize ly[k]=y at *
    clear e1;rcases eE x y with g | g | g
    ·have hne:(x != y)=true:=wy;have HL:=aa (VM (HLT.out g));go_wp2
     go_quiet (fail)
     go_wp2
     go_quiet (fail)
     go_wp2
     go_ret
     exact⟨by rw[HL.out];rfl,(hE.drewN _).drewN _⟩
    ·have hne:(x != y)=false:=wy;go_wp2
     go_quiet (fail)
     go_wp2
     go_roundw
     case rel=>exact⟨k,O,by go_num,HEQ.out g,hE.drewN _⟩
     case measure=>simp[intOf]
    have hne:(x != y)=true:=wy;have HL:=aa (GD (HGT.out g));go_wp2
    go_quiet (fail)
    go_wp2
    go_quiet (fail)
    go_wp2
    go_ret
    exact⟨by rw[HL.out];rfl,(hE.drewN _).drewN _⟩
 have HL:=aa (GD (XH DV hy hx nx h));go_enter func280,ntmps280
 go_wp2
 go_ret
 exact⟨by rw[HL.out];rfl,Ext.refl _⟩
end Go.Proofs.YtphlgddkpboamaaGreatDoor
namespace Go.Proofs
open Go.Shelf
def SM:bJ:=⟨λ| 134=>307 | 129=>343 | n=>n,λ| 53=>283 | 3=>3 | 4=>4 | 46=>251 | 5=>5 | 9=>9 | n=>n,λ| n=>n⟩
theorem js:lC prog SM:=by constructor<;>intros<;>first | kernel_rfl | decide
theorem bits_LeadingZeros64(x:Int)(w:World)(h0:0<=x)(h1:x<=18446744073709551615):
  Calls prog 307 #[.int .u64 x] w λe w'=>e = .returned (.int .i64 (64-(bW x.toNat:Int)))/\w'=w:=Any.bits_LeadingZeros64 js x w h0 h1
def SN:bJ:=⟨λ| 103=>143 | 210=>230 | 206=>322 | n=>n,λ| 9=>9 | 4=>4 | 24=>202 | 3=>3 | n=>n,λ| n=>n⟩
theorem jt:lD prog SN:=by constructor<;>intros<;>first | kernel_rfl | decide
open Go.RowKit in
theorem strings_CutPrefix(s p:ByteArray)(w:World):
  Calls prog 143 #[.string s,.string p] w λe w'=>e = .returned (.tuple #[.string ⟨(iX s.data.toList p.data.toList).toArray⟩,.bool (lG s.data.toList p.data.toList)])/\w'=w:=Any.strings_CutPrefix jt s p w
def SI:bJ:=⟨λ| 172=>144 | 244=>231 | 245=>232 | 247=>323 | 279=>324 | 280=>325 | 281=>326 | 282=>327 | 287=>366 | 316=>367 | 171=>64 | 205=>368 | 321=>385 | 322=>386 | 243=>138 | 246=>224 | 283=>312 | 284=>313 | 285=>314 | 286=>315 | 129=>343 | 317=>357 | 318=>358 | 319=>359 | 320=>360 | 337=>381 | 338=>382 | n=>n,λ| 9=>9 | 3=>3 | 75=>198 | 76=>199 | 4=>4 | 5=>5 | 167=>365 | 37=>193 | 0=>0 | 85=>366 | 2=>2 | 168=>368 | 53=>283 | 175=>391 | 46=>251 | 210=>395 | 127=>289 | 145=>412 | 143=>410 | 21=>21 | 171=>356 | 173=>358 | 212=>388 | 51=>323 | 20=>20 | 213=>389 | 232=>421 | 233=>422 | 80=>123 | n=>n,λ| 15=>4 | 16=>5 | 17=>3 | 18=>8 | 19=>9 | n=>n⟩
theorem jq:lA prog SI:=by constructor<;>intros<;>first | kernel_rfl | decide
open Go.RowKit in
theorem strconv_Atoi(s:ByteArray)(n:Int)(hl:s.size<=18)(h:Lib.atoi s.data.toList=some n)(w:World):
  Calls prog 144 #[.string s] w λe w'=>e = .returned (.tuple #[.int .i64 n,.nilIface])/\∃t,w'=Lib.bytesWorld w 5 t:=Any.strconv_Atoi jq s n hl h w
def SJ:bJ:=⟨λ| 145=>145 | 220=>233 | 219=>321 | 217=>362 | 225=>363 | 224=>364 | 267=>365 | 266=>383 | 314=>384 | n=>n,λ| 9=>9 | 4=>4 | 59=>204 | 3=>3 | 5=>5 | 46=>251 | 146=>324 | 51=>323 | n=>n,λ| 1=>0 | n=>n⟩
theorem jr:lB prog SJ:=by constructor<;>intros<;>first | kernel_rfl | decide
open Go.RowKit Go.Lib in
theorem strings_Cut(s sep:ByteArray)(m:Int)(w:World)(hs:s.size<4294967281)(hm:w.cell? ⟨0,0,none⟩=some (.int .i64 m)):
  Calls prog 145 #[.string s,.string sep] w λe w'=>e = .returned (.tuple #[.string ⟨(lM s.data.toList sep.data.toList).1.toArray⟩,.string ⟨(lM s.data.toList sep.data.toList).2.1.toArray⟩,.bool (lM s.data.toList sep.data.toList).2.2])/\∃n,w'=w.drewN n:=Any.strings_Cut jr s sep m w hs hm
def UF:bJ:=⟨λ| 99=>237 | 206=>322 | n=>n,λ| 9=>9 | 4=>4 | 3=>3 | n=>n,λ| n=>n⟩
theorem gO:iZ prog UF:=by constructor<;>intros<;>first | kernel_rfl | decide
open Go.RowKit Go.Lib in
theorem strings_HasPrefix(s p:ByteArray)(w:World):
  Calls prog 237 #[.string s,.string p] w λe w'=>e = .returned (.bool (lG s.data.toList p.data.toList))/\w'=w:=Any.strings_HasPrefix gO s p w
def SO:bJ:=⟨λ| 101=>238 | 208=>328 | 206=>322 | n=>n,λ| 9=>9 | 4=>4 | 3=>3 | n=>n,λ| n=>n⟩
theorem ju:lE prog SO:=by constructor<;>intros<;>first | kernel_rfl | decide
open Go.RowKit Go.Lib in
theorem strings_TrimPrefix(s p:ByteArray)(w:World):
  Calls prog 238 #[.string s,.string p] w λe w'=>e = .returned (.string ⟨(iX s.data.toList p.data.toList).toArray⟩)/\w'=w:=Any.strings_TrimPrefix ju s p w
def SH:bJ:=⟨λ| 264=>239 | n=>n,λ| 53=>283 | 46=>251 | n=>n,λ| n=>n⟩
theorem jo:lz prog SH:=by constructor<;>intros<;>first | kernel_rfl | decide
open Go.RowKit Go.Lib in
theorem bits_Mul64(x y:Nat)(hx:x<18446744073709551616)(hy:y<18446744073709551616)(w:World):
  Calls prog 239 #[.int .u64 x,.int .u64 y] w λe w'=>e = .returned (.tuple #[.int .u64 ((x*y/18446744073709551616:Nat):Int),.int .u64 ((x*y%18446744073709551616:Nat):Int)])/\w'=w:=Any.bits_Mul64 jo x y hx hy w
end Go.Proofs
namespace Go.Proofs.YtphlgddkpboamaaGreatDoor
variable{w w' w0:World}{B E N b bytes i j k off s:Nat}{a:Act}{args c cs l' news vs z:List Value}{o:Obj}{ds la post u:List Int}{A0 A1 A2 A3 A4 A5 A6 A7 A8 A9 α γ ι:Type}{T T' e t ty yT:TypeId}{ops:Array Oper}{Q Q':Exit->Act->World->Prop}{g:Bool}{K:Act->World->Prop}{x y:Operand}{bs bs' bs0:List (Nat×Obj)}{q:Option Addr}{P:Program}{f:Obj->List (Nat×Obj)}{fn:Func}{aft:Array Edge}{x1:Nat×Obj}{v1 v3 v4 v5 x2 x3 x4 x5 x6 x7 x8:Value}{ps:List (Nat×Value)}{rs:List ResultVar}{k':IntKind}{pl:List (Nat×Nat)}{h:Int}{F F0:Gs}{G:Gs->Prop}{m:Sl}
open Go.RowKit
section
variable{P:Program}{N:Nat}{m:Sl}{S:World->Prop}{ty:TypeId}{T yT:TypeId}{x y:Operand}{a b:Nat}{k:IntKind}
theorem RP(n:Int):IntKind.u64.wrap n=n%18446744073709551616:=rfl
theorem Ts(hx:ev m x=some (.int .u64 (a:Int)))(hy:ev m y=some (.int k (b:Int)))(z:Nat)(h:b<=64/\a*2^b%18446744073709551616=z):Qt P N m S (.binOp .shl T x y yT) ty (.int .u64 (z:Int)):=λs w _ _ _ _ ha _=>by
 have h1:min b 64=b:=O;have h2:¬((b:Int)<0):=O;have h3:IntKind.u64.wrap ((a:Int)*2^b)=(z:Int):=by
  rw[RP,<-h.2,fq,bI,bH];rfl
 simp[execOp,ha.ev hx,ha.ev hy,eqGuard,binOp,lF,bZ,h1,h2,h3]
theorem PJ(hx:ev m x=some (.int .u64 (a:Int)))(hy:ev m y=some (.int k (b:Int)))(z:Nat)(h:b<=64/\a/2^b=z):Qt P N m S (.binOp .shr T x y yT) ty (.int .u64 (z:Int)):=λs w _ _ _ _ ha _=>by
 have h1:min b 64=b:=O;have h2:¬((b:Int)<0):=O;have h3:(a:Int)/2^b=(z:Int):=by
  grind
 simp[execOp,ha.ev hx,ha.ev hy,eqGuard,binOp,lF,bZ,h1,h2];exact h3
theorem Wo(n:Nat)(h:n<18446744073709551616):(aR 64 (n:Int)).toNat=n:=by
 simp_all
theorem OS(hx:ev m x=some (.int .u64 (a:Int)))(hy:ev m y=some (.int .u64 ((4294967295:Nat):Int)))(z:Nat)(h:a<18446744073709551616/\a%4294967296=z):Qt P N m S (.binOp .and T x y yT) ty (.int .u64 (z:Int)):=λs w _ _ _ _ ha _=>by
 have e:IntKind.u64.wrap (((aR 64 (a:Int) &&& aR 64 ((4294967295:Nat):Int)).toNat:Nat):Int)=(z:Int):=by
  rw[iC,Wo a h.1,Wo _ wk,show(4294967295:Nat)=2^32-1 by decide,Nat.and_two_pow_sub_one_eq_mod,RP];omega
 have e2:(do eqGuard .and T x y (.int .u64 (a:Int)) (.int .u64 ((4294967295:Nat):Int));binOp .and T (.int .u64 (a:Int)) (.int .u64 ((4294967295:Nat):Int)):Sem Value).run P w = .ok (.int .u64 (z:Int)) w:=by
  rw[<-e];rfl
 simp only[execOp,ha.ev hx,ha.ev hy];simp only[aq]at e2 ⊢;simp_all
theorem QA0(hx:ev m x=some (.int .u64 (a:Int)))(hy:ev m y=some (.int .u64 (b:Int)))(z:Nat)(h:a<18446744073709551616/\(∃c k,a=c*2^k/\b<2^k)/\b<18446744073709551616/\a+b=z):Qt P N m S (.binOp .or T x y yT) ty (.int .u64 (z:Int)):=λs w _ _ _ _ ha _=>by
 have e:IntKind.u64.wrap (((aR 64 (a:Int) ||| aR 64 (b:Int)).toNat:Nat):Int)=(z:Int):=by
  grind[aF,fH,Nat.or_lt_two_pow,BitVec.toNat_or,Wo,RP]
 have e2:(do eqGuard .or T x y (.int .u64 (a:Int)) (.int .u64 (b:Int));binOp .or T (.int .u64 (a:Int)) (.int .u64 (b:Int)):Sem Value).run P w = .ok (.int .u64 (z:Int)) w:=by
  rw[<-e];rfl
 simp only[execOp,ha.ev hx,ha.ev hy];simp only[aq]at e2 ⊢;simp_all
theorem V3(hx:ev m x=some (.int .u64 (a:Int)))(hy:ev m y=some (.int .u64 (b:Int)))(z:Nat)(h:(a+b)%18446744073709551616=z):Qt P N m S (.binOp .add T x y yT) ty (.int .u64 (z:Int)) :=
 QP hx hy (by show some _=_;rw[RP];grind)
theorem Kj(hx:ev m x=some (.int .u64 (a:Int)))(hy:ev m y=some (.int .u64 (b:Int)))(z:Nat)(h:a*b%18446744073709551616=z):Qt P N m S (.binOp .mul T x y yT) ty (.int .u64 (z:Int)) :=
 QP hx hy (by show some _=_;rw[RP,<-bI];grind)
theorem V1(hx:ev m x=some (.int .u64 (a:Int)))(hy:ev m y=some (.int .u64 (b:Int)))(z:Nat)(h:b<18446744073709551616/\(a+18446744073709551616-b)%18446744073709551616=z):Qt P N m S (.binOp .sub T x y yT) ty (.int .u64 (z:Int)) :=
 QP hx hy (by show some _=_;rw[RP];grind)
theorem Tt(hx:ev m x=some (.int .u64 (a:Int)))(hy:ev m y=some (.int .u64 (b:Int)))(z:Nat)(h:0<b/\a<18446744073709551616/\a/b=z):Qt P N m S (.binOp .quo T x y yT) ty (.int .u64 (z:Int)):=by
 have:=U8 (P:=P) (N:=N) (S:=S) (ty:=ty) (T:=T) (yT:=yT) hx hy O;have e:IntKind.u64.wrap ((a:Int).tdiv b)=(z:Int):=by
  have h1:=Nat.div_le_self a b
  grind[fO,fu,RP]
 simp_all
theorem vc(hx:ev m x=some (.int .u64 (a:Int)))(hy:ev m y=some (.int .u64 (b:Int)))(z:Nat)(h:0<b/\a%b=z):Qt P N m S (.binOp .rem T x y yT) ty (.int .u64 (z:Int)):=by
 have:=Y8 (P:=P) (N:=N) (S:=S) (ty:=ty) (T:=T) (yT:=yT) hx hy O O
 grind
end
section
variable{D yn1 yn0 u un q r:Nat}
theorem O7(hD:D=4294967296)(h:q*yn1+r=u)(hc:q*yn0<=D*r+un):q*(yn1*D+yn0)<=u*D+un:=by
 subst hD
 grind
def jx(hy:0<yn1*D+yn0)(hq:(u*D+un)/(yn1*D+yn0)<=q)(h:q*(yn1*D+yn0)<=u*D+un):q=(u*D+un)/(yn1*D+yn0) :=
 Nat.le_antisymm ((Nat.le_div_iff_mul_le hy).2 h) hq
def BK(hD:D=4294967296)(hy:0<yn1*D+yn0)(h:q*yn1+r=u)(hq:(u*D+un)/(yn1*D+yn0)<=q)(hc:q*yn0<=D*r+un):q=(u*D+un)/(yn1*D+yn0):=jx hy hq (O7 hD h hc)
theorem Hs(hD:D=4294967296)(hy:0<yn1*D+yn0)(h0:yn0<D)(h:q*yn1+r=u)(hq:(u*D+un)/(yn1*D+yn0)<=q)(hqD:q<=D)(hr:D<=r):q=(u*D+un)/(yn1*D+yn0):=by
 refine BK hD hy h hq ?_;have h1:q*yn0<=D*D:=iU hqD O
 grind
theorem Z8(hD:D=4294967296)(hy:0<yn1*D+yn0)(hu:u<yn1*D+yn0)(hun:un<D)(h:q*yn1+r=u)(hc:D<=q\/D*r+un<q*yn0):(u*D+un)/(yn1*D+yn0)<q:=by
 rw[bh hy];rcases hc with hc | hc
 ·have h1:D*(yn1*D+yn0)<=q*(yn1*D+yn0):=bY _ hc
  grind
 subst hD
 grind
theorem E5(hD:D=4294967296)(h1:2147483648<=yn1)(hun:un<D):(u*D+un)/(yn1*D+yn0)<=u/yn1:=by
 have h2:0<yn1*D:=by grind
 refine eu (Nat.div_le_div_left (Nat.le_add_right _ yn0) h2) ?_;rw[aF yn1,<-Nat.div_div_eq_div_mul]
 grind
theorem Bw(hD:D=4294967296)(h1:2147483648<=yn1)(h0:yn0<D)(hu:u<yn1*D+yn0):u/yn1<=D+1:=by
 have:u/yn1<D+2:=by
  rw[bh O]
  grind
 omega
end
structure Nz(yn1 yn0 u un:Nat) where
 q:Nat
 r:Nat
 h:q*yn1+r=u
 le:(u*4294967296+un)/(yn1*4294967296+yn0)<=q
 up:q<=4294967297
 lo:r<4294967296
theorem Z7{q yn1 r u:Nat}(h:q*yn1+r=u)(hq:1<=q):(q-1)*yn1+(r+yn1)=u:=by
 obtain⟨k,rfl⟩:∃k,q=k+1:=⟨q-1,O⟩;rw[aQ]at h;rw[Nat.add_sub_cancel];omega
def AS{q a:Nat}(hq:q<4294967296)(ha:a<4294967296):q*a<18446744073709551616:=by
 have:q*a<=4294967295*4294967295:=iU O O;omega
def PL{S:World->Prop}{src dst:TypeId}{n:Nat}(hx:ev m x=some (.int k' (n:Int)))(hs:(P.underlying src).isSome=true)(hk:NW P dst=some .u64)(h:n<18446744073709551616):Qt P N m S (.convert src dst x) ty (.int .u64 (n:Int)):=by
 have:=NH (P:=P) (N:=N) (m:=m) (S:=S) (ty:=ty) hx hs hk;rw[RP,bO O O]at this;exact this
def QS.same[Dr]{P:Program}{f:FuncId}{args:List Value}{w:World}{F:Gs}{v:Value}(he:Enters P f)(hF:Fits F w)(h:Calls P f args.toArray w λe w'=>e = .returned v/\w'=w):QS P f args w F (λ(_:Unit)=>v) (λ_ _=>True) :=
 ⟨he,h.mono λe w' ⟨h1,h2⟩=>⟨(),F,h1,by rw[h2];exact N1.refl _,Gs.le_refl F,λ_ _=>rfl,by rw[h2];exact hF,λ_ _=>trivial⟩⟩
theorem AM{y:Nat}(h0:0<y)(h1:y<18446744073709551616):∃s:Nat,(64-(bW y:Int))=s/\s<64/\y*2^s<18446744073709551616/\9223372036854775808<=y*2^s:=by
 obtain⟨g1,g2,g3⟩:=Lib.bitLenAux_bounds 64 y h1 O;have g4:bW y<=64:=Lib.bitLen_le y 64 O h1;change 1<=bW y at g1;change 2^(bW y-1)<=y at g2;change y<2^bW y at g3;generalize bW y=n at *
 refine⟨64-n,O,O,?_,?_⟩
 ·have e:2^n*2^(64-n)=18446744073709551616:=by rw[<-fw,show n+(64-n)=64 by omega]
  rw[<-e];exact fI g3 (fC _)
 have e:2^(n-1)*2^(64-n)=9223372036854775808:=by rw[<-fw,show n-1+(64-n)=63 by omega]
 rw[<-e];exact bY _ g2
theorem gJ{y s:Nat}(hF:Fits F w)(h1:y<18446744073709551616)(hs:(64-(bW y:Int))=s):QS prog 307 [.int .u64 (y:Int)] w F (λ(_:Unit)=>.int .i64 (s:Int)) (λ_ _=>True) :=
 QS.same (enters_of func307 wu rfl) hF ((bits_LeadingZeros64 (y:Int) w O O).mono λe w' ⟨h2,h3⟩=>⟨by rw[h2,fm,hs],h3⟩)
def Fs{A R1 R0 u v v1 v0:Nat}(h1:A+R1=u*4294967296+v1)(h2:B+R0=R1*4294967296+v0)(h3:v=v1*4294967296+v0):A*4294967296+B+R0=u*18446744073709551616+v:=by
 subst h3;omega
def SY{q a r:Nat}(h:((q*a:Nat):Int)>(r:Int)):1<=q:=by
 rcases iE q with h0 | h0
 ·subst h0;simp at h;omega
 exact h0
def gi{q:Nat}(h:q<4294967296):q*4294967296%18446744073709551616=q*4294967296:=O
def gj{q p:Nat}(h:q<4294967296)(k:p<4294967296):(q*4294967296+p)%18446744073709551616=q*4294967296+p:=O
theorem xP{h l y:Nat}(hF:Fits F w)(hh:h<y)(hl:l<18446744073709551616)(hy:y<18446744073709551616):
  QS prog 305 [.int .u64 (h:Int),.int .u64 (l:Int),.int .u64 (y:Int)] w F (λ(_:Unit)=>.tuple #[.int .u64 (((h*18446744073709551616+l)/y:Nat):Int),.int .u64 (((h*18446744073709551616+l)%y:Nat):Int)]) (λ_ _=>True):=by
 obtain⟨s,hs,hs64,hY1,hY2⟩:=AM O hy;obtain⟨Y,hYe⟩:∃Y,Y=y*2^s:=⟨_,rfl⟩;obtain⟨a1,ha1⟩:∃a1,a1=Y/4294967296:=⟨_,rfl⟩;obtain⟨a0,ha0⟩:∃a0,a0=Y%4294967296:=⟨_,rfl⟩;obtain⟨u,hu⟩:∃u,u=h*2^s+l/2^(64-s):=⟨_,rfl⟩;obtain⟨v,hv⟩:∃v,v=l*2^s%18446744073709551616:=⟨_,rfl⟩;obtain⟨v1,hv1⟩:∃v1,v1=v/4294967296:=⟨_,rfl⟩;obtain⟨v0,hv0⟩:∃v0,v0=v%4294967296:=⟨_,rfl⟩;rw[<-hYe]at hY1 hY2;have hA1:2147483648<=a1:=O;have ha0l:a0<4294967296:=O;have hv1l:v1<4294967296:=O;have hv0l:v0<4294967296:=O;have hYa:a1*4294967296+a0=Y:=O;have e64:2^(64-s)*2^s=18446744073709551616:=by rw[<-fw,show 64-s+s=64 by omega]
 have hp:=fC s;have hlow:l/2^(64-s)<2^s:=by rw[bh (fC _),aF,e64];exact hl
 have hhs:h*2^s+2^s<=Y:=by have:=bY (2^s) hh;rw[Nat.succ_mul]at this;omega
 have huY:u<Y:=O;have hNv:u*18446744073709551616+v=(h*18446744073709551616+l)*2^s:=by
  have h1:l*2^s/18446744073709551616=l/2^(64-s):=by rw[<-e64,im _ _ hp]
  have h2:=ba (l*2^s) 18446744073709551616;rw[h1,<-hv]at h2;rw[hu,aQ,aQ,iD];omega
 obtain⟨Q1,hQ1⟩:∃Q1,Q1=(u*4294967296+v1)/(a1*4294967296+a0):=⟨_,rfl⟩;obtain⟨R1,hR1⟩:∃R1,R1=(u*4294967296+v1)%(a1*4294967296+a0):=⟨_,rfl⟩;have hY0:0<a1*4294967296+a0:=O;have hR1l:R1<Y:=by rw[hR1,<-hYa];exact fh _ hY0
 have hD1:Q1*Y+R1=u*4294967296+v1:=by rw[hQ1,hR1,<-hYa,aF];exact ba _ _
 have hQ1l:Q1<4294967296:=by rw[hQ1,bh hY0,hYa];omega
 obtain⟨Q0,hQ0⟩:∃Q0,Q0=(R1*4294967296+v0)/(a1*4294967296+a0):=⟨_,rfl⟩;obtain⟨R0,hR0⟩:∃R0,R0=(R1*4294967296+v0)%(a1*4294967296+a0):=⟨_,rfl⟩;have hR0l:R0<Y:=by rw[hR0,<-hYa];exact fh _ hY0
 have hD0:Q0*Y+R0=R1*4294967296+v0:=by rw[hQ0,hR0,<-hYa,aF];exact ba _ _
 have hQ0l:Q0<4294967296:=by rw[hQ0,bh hY0,hYa];omega
 have hall:(Q1*4294967296+Q0)*Y+R0=(h*18446744073709551616+l)*2^s:=by
  rw[<-hNv,aQ,iD];exact Fs hD1 hD0 O
 have hq:(h*18446744073709551616+l)/y=Q1*4294967296+Q0:=by
  have:=im (h*18446744073709551616+l) y hp;rw[<-this,<-hall,<-hYe,aF _ Y,Nat.mul_add_div O,Nat.div_eq_of_lt hR0l,fX]
 have hr:(h*18446744073709551616+l)%y=R0/2^s:=by
  have:=Nat.mul_mod_mul_right (2^s) (h*18446744073709551616+l) y;rw[<-hall,<-hYe,aF _ Y,Nat.mul_add_mod,bV hR0l]at this;rw[this,Nat.mul_div_cancel _ hp]
 refine QS.intro (G:=λ_=>True) func305 rfl wu rfl rfl hF wz<|QLF<|QJn rfl<|wR rfl<|QG<|wS rfl<|QA (QP rfl rfl rfl)<|QF<|QD ?_
 refine QO I (λhc=>?_) λhc=>?_
 ·exact absurd hc (by simp at hc;omega)
 refine QMX 10 I ?_;refine QO I (λhc=>?_) λhc=>?_
 ·exact absurd hc (by simp at hc;omega)
 refine QMX 9 I ?_;refine QO I (λhc=>?_) λhc=>?_
 ·refine QG<|JE QKK mixed wj<|QJ (QC I)<|QJ (QC I)<|QJ (Tt I I (l/y) (⟨O,O,rfl⟩))<|QJ (QC I)<|QJ (QC I)<|QJ (vc I I (l%y) (⟨O,rfl⟩))<|QJ (QE I)<|QJ (QE I)<|Qy<|QD<|QU ?_
  exact X4 () I (wP I I) (by have h0:h=0:=(by simp at hc;omega);subst h0;simp) wz
 refine QMX 5 I<|QL I (λ_ _ f k=>gJ (s:=s) f O hs) λc35=>QA (PL I vA O5 O)<|QMW 7 I<|QA (Ts I I (Y) (⟨O,by rw[<-hYe];omega⟩))<|QMW 6 I<|QA (PJ (b:=32) rfl rfl (a1) (⟨wk,ha1.symm⟩))<|QMW 6 I<|QA (OS I I (a0) (⟨O,ha0.symm⟩))<|QMW 7 I<|QA (Ts I I (h*2^s) (⟨O,bV O⟩))<|wB 2 I<|QA (V1 (a:=64) rfl rfl (64-s) (⟨O,O⟩))<|QA (PJ I I (l/2^(64-s)) (⟨O,rfl⟩)) ?_
 refine QA (QA0 I I (u) (⟨O,⟨h,s,rfl,hlow⟩,O,hu.symm⟩))<|QMW 7 I<|QA (Ts I I (v) (⟨O,hv.symm⟩))<|QMW 6 I<|QA (PJ (b:=32) rfl rfl (v1) (⟨wk,hv1.symm⟩))<|QMW 6 I<|QA (OS I I (v0) (⟨O,hv0.symm⟩))<|QMW 7 I<|QA (Tt I I (u/a1) (⟨O,O,rfl⟩))<|QMW 8 I<|QA (Kj I I (u/a1*a1) (wi<|ep u a1))<|QA (V1 I I (u%a1) (by have:=ba u a1;rw[aF]at this;have:=ep u a1;omega)) ?_
 refine QMW 3 I ?_;refine MN (ι:=Unit) (λ_=>[(2,.int .u64 ((Y:Nat):Int)),(8,.int .u64 ((s:Nat):Int)),(9,.int .u64 ((a1:Nat):Int)),(10,.int .u64 ((a0:Nat):Int)),(11,.int .u64 ((u:Nat):Int)),(13,.int .u64 ((v1:Nat):Int)),(14,.int .u64 ((v0:Nat):Int)),(15,.int .u64 ((Q1:Nat):Int))]) (λ_=>[]) (λ_ _=>True) ?_ ?_
 ·refine QQ<|Xr (ι:=Nz a1 a0 u v1) (λi=>[(2,.int .u64 ((Y:Nat):Int)),(8,.int .u64 ((s:Nat):Int)),(9,.int .u64 ((a1:Nat):Int)),(10,.int .u64 ((a0:Nat):Int)),(11,.int .u64 ((u:Nat):Int)),(13,.int .u64 ((v1:Nat):Int)),(14,.int .u64 ((v0:Nat):Int)),(15,.int .u64 ((i.q:Nat):Int)),(16,.int .u64 ((i.r:Nat):Int))]) (λ_=>[]) (λ_ _=>True) (λi=>i.q) ⟨u/a1,u%a1,by rw[aF];exact ba u a1,E5 I hA1 hv1l,Bw I hA1 ha0l O,by have:=fh u (show a1>0 by omega);omega⟩ wb QKK wz λi=>wA 6 I ?_
  refine Qa (t:=69) rfl (λhb69=>?_) λhb69=>?_
  ·refine QMW 11 I ?_;refine QO I (λhc=>?_) λhc=>?_
   ·refine QMX 6 I<|QA (V1 (b:=1) rfl rfl (i.q-1) (⟨wk,by have:=i.up;have:=QLr hb69;omega⟩))<|QMW 7 I<|QA (V3 I I (i.r+a1) (wi i.lo))<|QMW 9 I ?_
    refine QO I (λhc=>?_) λhc=>?_
    ·refine Yh ?_
     repeat first|refine Jy ?_|refine Jp wu ?_
     refine Jz ?_;simp only[decide_eq_true_eq]at *;have more:=Z8 (un:=v1) (D:=4294967296) rfl O O O i.h (.inl O);exact ZP () ⟨rfl,rfl,rfl,rfl,rfl,rfl,rfl,congrArg (λn:Nat=>some (bQ .u64 (n:Int))) ((Hs I O ha0l (Z7 i.h O) (by rw[<-hQ1];rw[<-hQ1]at more;omega) (wi i.up) O).trans hQ1.symm),trivial⟩ QKK wz
    refine QN<|Qg ?_
    simp only[decide_eq_true_eq,decide_eq_false_iff_not]at *;have more:=Z8 (un:=v1) (D:=4294967296) rfl O O O i.h (.inl O);exact Qj (⟨i.q-1,i.r+a1,Z7 i.h O,O,wi i.up,O⟩:Nz a1 a0 u v1) (by show i.q-1<i.q;omega) wb QKK wz
   refine Yh ?_
   repeat first|refine Jy ?_|refine Jp wu ?_
   refine Jz ?_;cases hc
  refine wB 5 I<|QA (Kj I I (i.q*a0) (bV (AS (wi<|QLs hb69) ha0l)))<|wB 3 I<|QA (Kj (a:=4294967296) rfl rfl (4294967296*i.r) (wi i.lo))<|wB 3 I<|QA (V3 I I (4294967296*i.r+v1) (wi i.lo))<|QMW 5 I ?_
  refine QO I (λhc=>?_) λhc=>?_
  ·refine QMX 6 I<|QA (V1 (b:=1) rfl rfl (i.q-1) (⟨wk,by have:=i.up;have:=SY (QLr hc);omega⟩))<|QMW 7 I<|QA (V3 I I (i.r+a1) (wi i.lo))<|QMW 9 I ?_
   refine QO I (λhc=>?_) λhc=>?_
   ·refine Yh ?_
    repeat first|refine Jy ?_|refine Jp wu ?_
    refine Jz ?_;simp only[decide_eq_true_eq]at *;have more:=Z8 (un:=v1) (D:=4294967296) rfl O O O i.h (.inr O);exact ZP () ⟨rfl,rfl,rfl,rfl,rfl,rfl,rfl,congrArg (λn:Nat=>some (bQ .u64 (n:Int))) ((Hs I O ha0l (Z7 i.h O) (by rw[<-hQ1];rw[<-hQ1]at more;omega) (wi i.up) O).trans hQ1.symm),trivial⟩ QKK wz
   refine QN<|Qg ?_
   simp only[decide_eq_true_eq,decide_eq_false_iff_not]at *;have more:=Z8 (un:=v1) (D:=4294967296) rfl O O O i.h (.inr O);exact Qj (⟨i.q-1,i.r+a1,Z7 i.h O,O,wi i.up,O⟩:Nz a1 a0 u v1) (by show i.q-1<i.q;omega) wb QKK wz
  refine Yh ?_
  repeat first|refine Jy ?_|refine Jp wu ?_
  refine Jz ?_;simp only[decide_eq_false_iff_not]at *;exact ZP () ⟨rfl,rfl,rfl,rfl,rfl,rfl,rfl,congrArg (λn:Nat=>some (bQ .u64 (n:Int))) ((BK I O i.h i.le O).trans hQ1.symm),trivial⟩ QKK wz
 intro i;refine wS I<|QA (Kj (b:=4294967296) rfl rfl (u*4294967296%18446744073709551616) (rfl))<|QJm I<|QA (V3 I I ((u*4294967296+v1)%18446744073709551616) O)<|wB 2 I<|QA (Kj I I (Q1*Y%18446744073709551616) (rfl))<|QA (V1 I I (R1) (⟨O,by generalize Q1*Y=B at *;omega⟩))<|QMW 7 I<|QA (Tt I I (R1/a1) (⟨O,O,rfl⟩))<|QMW 8 I<|QA (Kj I I (R1/a1*a1) (wi<|ep R1 a1))<|QA (V1 I I (R1%a1) (by have:=ba R1 a1;rw[aF]at this;have:=ep R1 a1;omega))<|QMW 3 I ?_
 refine MN (ι:=Unit) (λ_=>[(2,.int .u64 ((Y:Nat):Int)),(8,.int .u64 ((s:Nat):Int)),(14,.int .u64 ((v0:Nat):Int)),(15,.int .u64 ((Q1:Nat):Int)),(17,.int .u64 ((R1:Nat):Int)),(18,.int .u64 ((Q0:Nat):Int))]) (λ_=>[]) (λ_ _=>True) ?_ ?_
 ·refine QQ<|Xr (ι:=Nz a1 a0 R1 v0) (λi=>[(2,.int .u64 ((Y:Nat):Int)),(8,.int .u64 ((s:Nat):Int)),(9,.int .u64 ((a1:Nat):Int)),(10,.int .u64 ((a0:Nat):Int)),(14,.int .u64 ((v0:Nat):Int)),(15,.int .u64 ((Q1:Nat):Int)),(17,.int .u64 ((R1:Nat):Int)),(18,.int .u64 ((i.q:Nat):Int)),(16,.int .u64 ((i.r:Nat):Int))]) (λ_=>[]) (λ_ _=>True) (λi=>i.q) ⟨R1/a1,R1%a1,by rw[aF];exact ba R1 a1,E5 I hA1 hv0l,Bw I hA1 ha0l O,by have:=fh R1 (show a1>0 by omega);omega⟩ wb QKK wz λi=>wA 6 I ?_
  refine Qa (t:=104) rfl (λhb104=>?_) λhb104=>?_
  ·refine QMW 11 I ?_;refine QO I (λhc=>?_) λhc=>?_
   ·refine QMX 6 I<|QA (V1 (b:=1) rfl rfl (i.q-1) (⟨wk,by have:=i.up;have:=QLr hb104;omega⟩))<|QMW 7 I<|QA (V3 I I (i.r+a1) (wi i.lo))<|QMW 9 I ?_
    refine QO I (λhc=>?_) λhc=>?_
    ·refine Yh ?_
     repeat first|refine Jy ?_|refine Jp wu ?_
     refine Jz ?_;simp only[decide_eq_true_eq]at *;have more:=Z8 (un:=v0) (D:=4294967296) rfl O O O i.h (.inl O);exact ZP () ⟨rfl,rfl,rfl,rfl,rfl,congrArg (λn:Nat=>some (bQ .u64 (n:Int))) ((Hs I O ha0l (Z7 i.h O) (by rw[<-hQ0];rw[<-hQ0]at more;omega) (wi i.up) O).trans hQ0.symm),trivial⟩ QKK wz
    refine QN<|Qg ?_
    simp only[decide_eq_true_eq,decide_eq_false_iff_not]at *;have more:=Z8 (un:=v0) (D:=4294967296) rfl O O O i.h (.inl O);exact Qj (⟨i.q-1,i.r+a1,Z7 i.h O,O,wi i.up,O⟩:Nz a1 a0 R1 v0) (by show i.q-1<i.q;omega) wb QKK wz
   refine Yh ?_
   repeat first|refine Jy ?_|refine Jp wu ?_
   refine Jz ?_;cases hc
  refine wB 5 I<|QA (Kj I I (i.q*a0) (bV (AS (wi<|QLs hb104) ha0l)))<|wB 3 I<|QA (Kj (a:=4294967296) rfl rfl (4294967296*i.r) (wi i.lo))<|wB 3 I<|QA (V3 I I (4294967296*i.r+v0) (wi i.lo))<|QMW 5 I ?_
  refine QO I (λhc=>?_) λhc=>?_
  ·refine QMX 6 I<|QA (V1 (b:=1) rfl rfl (i.q-1) (⟨wk,by have:=i.up;have:=SY (QLr hc);omega⟩))<|QMW 7 I<|QA (V3 I I (i.r+a1) (wi i.lo))<|QMW 9 I ?_
   refine QO I (λhc=>?_) λhc=>?_
   ·refine Yh ?_
    repeat first|refine Jy ?_|refine Jp wu ?_
    refine Jz ?_;simp only[decide_eq_true_eq]at *;have more:=Z8 (un:=v0) (D:=4294967296) rfl O O O i.h (.inr O);exact ZP () ⟨rfl,rfl,rfl,rfl,rfl,congrArg (λn:Nat=>some (bQ .u64 (n:Int))) ((Hs I O ha0l (Z7 i.h O) (by rw[<-hQ0];rw[<-hQ0]at more;omega) (wi i.up) O).trans hQ0.symm),trivial⟩ QKK wz
   refine QN<|Qg ?_
   simp only[decide_eq_true_eq,decide_eq_false_iff_not]at *;have more:=Z8 (un:=v0) (D:=4294967296) rfl O O O i.h (.inr O);exact Qj (⟨i.q-1,i.r+a1,Z7 i.h O,O,wi i.up,O⟩:Nz a1 a0 R1 v0) (by show i.q-1<i.q;omega) wb QKK wz
  refine Yh ?_
  repeat first|refine Jy ?_|refine Jp wu ?_
  refine Jz ?_;simp only[decide_eq_false_iff_not]at *;exact ZP () ⟨rfl,rfl,rfl,rfl,rfl,congrArg (λn:Nat=>some (bQ .u64 (n:Int))) ((BK I O i.h i.le O).trans hQ0.symm),trivial⟩ QKK wz
 intro i;refine wS I<|QA (Kj (b:=4294967296) rfl rfl (Q1*4294967296) (gi hQ1l))<|QJm I<|QA (V3 I I (Q1*4294967296+Q0) (gj hQ1l hQ0l))<|QJm I<|QA (Kj (b:=4294967296) rfl rfl (R1*4294967296%18446744073709551616) (rfl))<|QJm I<|QA (V3 I I ((R1*4294967296+v0)%18446744073709551616) O)<|wB 2 I<|QA (Kj I I (Q0*Y%18446744073709551616) (rfl))<|QA (V1 I I (R0) (⟨O,by generalize Q0*Y=B at *;omega⟩))<|QJm I<|QA (PJ I I (R0/2^s) (⟨O,rfl⟩))<|QMW 5 I ?_
 exact X4 () I (wP I I) (by rw[hq,hr]) wz
open Go.RowKit Ig
def XX(x y:Int):Int:=x*y/W
def Jh(x y:Int):Int:=x*y%W
theorem Zo(x y:Int)(w:World)(hx:0<=x/\x<W)(hy:0<=y/\y<W):
  Calls prog 239 #[.int .u64 x,.int .u64 y] w λe w'=>e = .returned (.tuple #[.int .u64 (XX x y),.int .u64 (Jh x y)])/\w=w':=by
 obtain⟨a,rfl⟩:=aj hx.1;obtain⟨b,rfl⟩:=aj hy.1;have hW:W=18446744073709551616:=rfl;refine(bits_Mul64 a b O O w).mono ?_;rintro e w' ⟨rfl,rfl⟩;refine⟨?_,rfl⟩;unfold XX Jh;rw[hW];simp only[fu,fq,bI];rfl
def UZ(h l y:Int):Int:=(h*W+l)/y
def F2(h l y:Int):Int:=(h*W+l)%y
def GN(w:World):Gs:=λb=>match w.heap[b]? with | some (.cells c T _)=>some (c,T) | _=>none
theorem G8(w:World):Fits (GN w) w:=by
 refine⟨λb c T h=>?_,λb c fr h=>?_⟩
 ·unfold GN at h;split at h
  ·rename_i c' T' fr e;cases h;exact⟨fr,e⟩
  cases h
 unfold GN;rw[h]
theorem Nh(h l y:Int)(w:World)(hh:0<=h/\h<y)(hl:0<=l/\l<W)(hy:y<W):
  Calls prog 305 #[.int .u64 h,.int .u64 l,.int .u64 y] w λe w'=>e = .returned (.tuple #[.int .u64 (UZ h l y),.int .u64 (F2 h l y)])/\Ext w w':=by
 obtain⟨a,rfl⟩:=aj hh.1;obtain⟨b,rfl⟩:=aj hl.1;obtain⟨c,rfl⟩:=aj (show 0<=y by omega);have hW:W=18446744073709551616:=rfl;refine(xP (G8 w) (h:=a) (l:=b) (y:=c) O O O).2.mono ?_;rintro e w' ⟨_,F',rfl,hx,_⟩;refine⟨?_,hx.toBelow⟩;unfold UZ F2;rw[hW];simp only[fu,fq,bI,Int.natCast_add];rfl
theorem O3(x:Int)(w:World)(hx:0<x/\x<W):
  Calls prog 307 #[.int .u64 x] w λe w'=>(∃s:Nat,e = .returned (.int .i64 s)/\s<64/\x*2^s<W/\9223372036854775808<=x*2^s)/\w=w':=by
 obtain⟨a,rfl⟩:=aj (show 0<=x by omega);have hW:W=18446744073709551616:=rfl;obtain⟨s,h1,h2,h3,h4⟩:=AM (y:=a) O O;refine(bits_LeadingZeros64 (a:Int) w O O).mono ?_;rintro e w' ⟨rfl,rfl⟩;refine⟨⟨s,?_,h2,?_,?_⟩,rfl⟩
 ·rw[fm,h1]
 ·rw[hW];have:((a*2^s:Nat):Int)<18446744073709551616:=O;simpa[bI,bH]using this
 have:(9223372036854775808:Int)<=((a*2^s:Nat):Int):=O;simpa[bI,bH]using this
theorem Dj{x y o c:Int}(hx:0<=x/\x<W)(hy:0<=y/\y<W)(ho:0<=o/\o<W)(hc:0<=c/\c<W):
  (0<=XX x y/\XX x y<W)/\(0<=Jh x y/\Jh x y<W) /\
  (0<=J3 (Jh x y) o 0/\J3 (Jh x y) o 0<W) /\
  (0<=XX x y+XT (Jh x y) o 0/\XX x y+XT (Jh x y) o 0<W) /\
  (0<=J3 (J3 (Jh x y) o 0) c 0/\J3 (J3 (Jh x y) o 0) c 0<W) /\
  (0<=XX x y+XT (Jh x y) o 0+XT (J3 (Jh x y) o 0) c 0/\XX x y+XT (Jh x y) o 0+XT (J3 (Jh x y) o 0) c 0<W) /\
  J3 (J3 (Jh x y) o 0) c 0+W*(XX x y+XT (Jh x y) o 0+XT (J3 (Jh x y) o 0) c 0)=x*y+o+c:=by
 have hm0:0<=x*y:=ak hx.1 hy.1;have hm1:x*y<=(W-1)*(W-1):=fP O O hy.1 (by simp only[WD];omega);have e1:Jh x y+W*XX x y=x*y:=by unfold Jh XX;rw[ib];exact aA _ _
 have l0:0<=Jh x y:=bg _ wk;have l1:Jh x y<W:=aW _ JX;have h0:0<=XX x y:=aK hm0 wk;generalize x*y=m at *
 generalize Jh x y=lo at *
 generalize XX x y=hi at *
 have a:=WC (x:=lo) (y:=o) (c:=0) ⟨l0,l1⟩ ho wk;generalize J3 lo o 0=lo1 at *
 generalize XT lo o 0=c1 at *
 have a':=WC (x:=lo1) (y:=c) (c:=0) a.2.1 hc wk;generalize J3 lo1 c 0=lo2 at *
 generalize XT lo1 c 0=c2 at *
 simp only[WD]at *
 omega
def YO(la lb:List Int)(i j:Nat)(x:Int)(o:List Int)(c:Int):Prop :=
 o.length=la.length+lb.length/\DG W o/\(∀p,i+lb.length<=p->Qb o p=0)/\(0<=c/\c<W) /\
  dv W o+W^(i+j)*c=dv W (la.take i)*dv W lb+W^i*(x*dv W (lb.take j))
theorem YO.step{lb o:List Int}{x c:Int}(h:YO la lb i j x o c)(hx:0<=x/\x<W)(hb:DG W lb)(hj:j<lb.length)(hi:i<la.length):
  YO la lb i (j+1) x (o.set (i+j) (J3 (J3 (Jh x (Qb lb j)) (Qb o (i+j)) 0) c 0))
   (XX x (Qb lb j)+XT (Jh x (Qb lb j)) (Qb o (i+j)) 0+XT (J3 (Jh x (Qb lb j)) (Qb o (i+j)) 0) c 0):=by
 obtain⟨h1,h2,h3,h4,h5⟩:=h;obtain⟨_,_,_,_,m1,m2,m3⟩:=Dj hx (JH hb j) (JH h2 (i+j)) h4;refine⟨by simpa using h1,h2.set _ m1.1 m1.2,?_,m2,?_⟩
 ·intro p hp;rw[KP O,if_neg O];exact h3 p hp
 rw[Wq W O,Jr,<-Nat.add_assoc,aC];generalize J3 (J3 (Jh x (Qb lb j)) (Qb o (i+j)) 0) c 0=lo at *
 generalize XX x (Qb lb j)+XT (Jh x (Qb lb j)) (Qb o (i+j)) 0+XT (J3 (Jh x (Qb lb j)) (Qb o (i+j)) 0) c 0=hi at *
 have e:W^(i+j)*(lo+W*hi)=W^(i+j)*(x*Qb lb j+Qb o (i+j)+c):=by rw[m3]
 rw[fz]at *
 grind
theorem YO.row{lb o:List Int}{x c:Int}(h:YO la lb i lb.length x o c)(hi:i<la.length)(hx:x=Qb la i):
  YO la lb (i+1) 0 0 (o.set (i+lb.length) c) 0:=by
 obtain⟨h1,h2,h3,h4,h5⟩:=h;refine⟨by simpa using h1,h2.set _ h4.1 h4.2,?_,⟨bK _,JX⟩,?_⟩
 ·intro p hp;rw[KP O,if_neg O];exact h3 p O
 rw[Wq W O,h3 _ (ay _),Jr,<-hx];rw[eF]at h5;simp only[eT,ey,Int.zero_mul,Int.sub_zero];rw[h5];grind
def YO.start(la lb:List Int):YO la lb 0 0 0 (ai (la.length+lb.length) 0) 0:=by
 refine⟨wv,DG.replicate JX _,?_,⟨bK _,JX⟩,by rw[MF];simp⟩;intro p _;unfold Qb;split<;>simp
def YO.next{lb o:List Int}{c y:Int}(h:YO la lb i 0 0 o c)(x:Int)(hc:c=0)(hy:y=0):YO la lb i 0 x o y:=by
 obtain⟨h1,h2,h3,h4,h5⟩:=h;subst hc hy;exact⟨h1,h2,h3,h4,by simpa using h5⟩
theorem Hm(v v':Value)(la lb:List Int)(w:World)(ha:DG W la)(hb:DG W lb)(hs:SL w v JM la)(hs':SL w v' JM lb)(h1:la.length<=100000000000)(h2:lb.length<=100000000000):
  Calls prog 242 #[v,v'] w λe w'=>Xt w (λv w'=>∃l,SL w' v JM l/\DG W l/\NZ l/\dv W l=dv W la*dv W lb) e w':=by
 obtain⟨q,cap,rfl,hcap,hmax,hca⟩:=hs;obtain⟨q',cap',rfl,hcap',hmax',hcb⟩:=hs';have HA:=aa hca;clear hca;have HB:=aa hcb;clear hcb;have hmk:=λw=>Za (la.length+lb.length) O w;have ec:((la.length+lb.length:Nat):Int)=(la.length:Int)+lb.length:=O;simp only[ec]at hmk;clear ec;go_enter func242,ntmps242
 go_wp2
 go_loopw [22] (λi wr=>∃(k:Nat) (o:List Int),k<=la.length/\i = .int .i64 k/\YO la lb k 0 0 o 0/\Zy wr w.heap.size 283 JM o/\Ext w wr)
  (λi _=>la.length-(intOf i).toNat)
 case atStart=>exact⟨0,_,eD _,rfl,YO.start la lb,Zy.made w _ JM 0 _ _ rfl,(Ext.refl _).alloc _⟩
 case round =>
  obtain⟨k,o,hk,rfl,hI,hBl,hE⟩:=hrel;rename_i wr _;obtain⟨wo,rfl⟩:∃wo:World,wo=wr:=⟨_,rfl⟩;clear hmk;by_cases hlt:k<la.length
  ·obtain⟨b,off,rfl,hbl,hc⟩:=HA.out k hlt;rw[ZG hlt]at hc;have hc:=hE.cell hc;simp only[JM]at hc;have hx:=JH ha k;have HI:=aa hI;clear hI;have HBl:=aa hBl;clear hBl;go_wp2
   go_loopw [29,8] (λj c wr=>∃(m:Nat) (o:List Int) (cc:Int),m<=lb.length/\j = .int .i64 m/\c = .int .u64 cc/\YO la lb k m (Qb la k) o cc/\Zy wr w.heap.size 283 JM o/\Ext w wr)
    (λj _ _=>lb.length-(intOf j).toNat)
   case atStart=>exact⟨0,o,0,eD _,rfl,rfl,HI.out.next _ rfl rfl,HBl.out,hE⟩
   case round =>
    clear HI HBl hE hc;obtain⟨m,o,cc,hm,rfl,rfl,hI,hBl,hE⟩:=hrel;by_cases hlt2:m<lb.length
    ·obtain⟨b2,off2,rfl,hb2,hc2⟩:=HB.out m hlt2;rw[ZG hlt2]at hc2;have hc2:=hE.cell hc2;simp only[JM]at hc2;have hst:=hI.step hx hb hlt2 hlt;obtain⟨hd1,hd2,hd3,hd4,hd5⟩:=hI;clear hd3 hd5;have hd1':=aa hd1;have hol:k+m<o.length:=O;clear hd1;have hy:=JH hb m;have ho:=JH hd2 (k+m);have hcell:=hBl.cell (i:=k+m) hol;rw[ZG hol]at hcell;simp only[JM]at hcell;have hfr:=hBl.frozen (k+m);have HBs:=aa (hBl.set (k+m) (J3 (J3 (Jh (Qb la k) (Qb lb m)) (Qb o (k+m)) 0) cc 0));have HS:=aa hst;clear hst hBl;obtain⟨g1,g2,g3,g4,g5,g6,_⟩:=Dj hx hy ho hd4;generalize hmy:XX (Qb la k) (Qb lb m)=mh at *
     generalize hml:Jh (Qb la k) (Qb lb m)=ml at *
     have HMH:=aa hmy;have HML:=aa hml;clear hmy hml;have ha1:=λw=>Z4 ml (Qb o (k+m)) 0 g2.1 ho.1 wk wk w;have ha2:=λw=>Z4 (J3 ml (Qb o (k+m)) 0) cc 0 g3.1 hd4.1 wk wk w;have b1:0<=mh+XT ml (Qb o (k+m)) 0:=g4.1;have b2:mh+XT ml (Qb o (k+m)) 0<=18446744073709551615:=by have:=g4.2;simp only[WD]at this;omega
     have b3:0<=mh+XT ml (Qb o (k+m)) 0+XT (J3 ml (Qb o (k+m)) 0) cc 0:=g6.1;have b4:mh+XT ml (Qb o (k+m)) 0+XT (J3 ml (Qb o (k+m)) 0) cc 0<=18446744073709551615:=by have:=g6.2;simp only[WD]at this;omega
     go_wp2_with (go_at_call 239;refine(Zo _ _ _ hx hy).mono ?_;rw[HMH.out,HML.out];rintro e w' ⟨rfl,rfl⟩)
     go_roundw
     case rel=>exact⟨m+1,_,_,O,by go_num,rfl,HS.out,HBs.out,aY hE wv _⟩
     case measure=>simp[intOf];omega
    have hk':m=lb.length:=O;subst hk';have hst:=hI.row hlt rfl;obtain⟨hd1,hd2,hd3,hd4,hd5⟩:=hI;clear hd3 hd5;have hol:k+lb.length<o.length:=O;clear hd1;have hcell:=hBl.cell (i:=k+lb.length) hol;rw[ZG hol]at hcell;simp only[JM]at hcell;have hfr:=hBl.frozen (k+lb.length);have HBs:=aa (hBl.set (k+lb.length) cc);have HS:=aa hst;clear hst hBl;go_wp2
    go_roundw
    case rel=>exact⟨k+1,_,O,by go_num,HS.out,HBs.out,aY hE wv _⟩
    case measure=>simp[intOf];omega
  have hk':k=la.length:=O;subst hk';obtain⟨hd1,hd2,hd3,hd4,hd5⟩:=hI;have hSL:=SL.Wn hBl (la.length+lb.length) O O;rw[ah O,hd1]at hSL;have HSL:=aa hSL;rw[eF]at hd5;have HF:=aa hd5;clear hd5 hSL hd1 hBl;go_wp2_with (go_at_call 306;refine(Yn _ _ _ HSL.out).mono ?_;rintro e w' ⟨⟨v',rfl,hv⟩,rfl⟩)
  go_ret
  exact⟨_,rfl,⟨_,hv,hd2.Qx,XN _,by rw[Ju];have:=HF.out;simpa using this⟩,hE⟩
def p2(s:Nat):Int:=2^s
def Zk(s:Nat):0<p2 s:=lP wk
theorem V6(h:s<64):p2 (64-s)*p2 s=W:=by
 unfold p2;rw[<-fz,show 64-s+s=64 from by omega];rfl
def PR:p2 0=1:=rfl
def yW(h:s<64):2*p2 s<=W:=by
 have h1:=V6 h;have h2:2<=p2 (64-s):=by
  unfold p2;rw[show 64-s=(63-s)+1 from by omega,aC];have:=Zk (63-s);unfold p2 at this;omega
 have h3:2*p2 s<=p2 (64-s)*p2 s:=af h2 (au (Zk s));omega
theorem Uy{x:Int}(hs:s<64):x*p2 s%W=p2 s*(x%p2 (64-s)):=by
 rw[<-V6 hs,aV (p2 (64-s)) (p2 s),aV x (p2 s),Int.mul_emod_mul_of_pos _ _ (Zk s)]
def Ly{x:Int}(hs:s<64):x*p2 s/W=x/p2 (64-s):=by
 rw[<-V6 hs];exact Int.mul_ediv_mul_of_pos_left x _ (Zk s)
theorem PS{x:Int}(hs:s<64)(h0:0<=h)(h1:h<p2 s):bits .or .u64 h (x*p2 s%W)=h+x*p2 s%W/\h+x*p2 s%W<W:=by
 have e:=Uy (x:=x) hs;have k0:=Zk (64-s);have b0:0<=x%p2 (64-s):=bg _ O;have b1:x%p2 (64-s)<p2 (64-s):=aW _ k0;have hb:p2 s*(x%p2 (64-s))+h<W:=by
  have:p2 s*(x%p2 (64-s)+1)<=p2 s*p2 (64-s):=ae O (au (Zk s));rw[aV (p2 s) (p2 (64-s)),V6 hs,fA]at this;omega
 have hb0:0<=p2 s*(x%p2 (64-s)):=ak (au (Zk s)) b0;rw[e];refine⟨?_,O⟩;obtain⟨a,ha⟩:=aj b0;obtain⟨c,rfl⟩:=aj h0;rw[ha]at *
 have e2:p2 s*(a:Int)=((2^s*a:Nat):Int):=by simp[p2]
 have h1':c<2^s:=by
  have:(c:Int)<((2^s:Nat):Int):=(by simpa[p2]using h1);omega
 rw[e2]at hb ⊢;have hW:=WD;rw[u64_or_nat _ _ O O,Nat.or_comm,<-fH h1'];omega
def BV(l:List Int)(s k:Nat)(ds:List Int)(h:Int):Prop :=
 ds.length=k/\DG W ds/\(0<=h/\h<p2 s)/\dv W ds+W^k*h=dv W (l.take k)*p2 s
theorem BV.step{l:List Int}(hi:BV l s k ds h)(hs:s<64)(hl:DG W l):
  BV l s (k+1) (ds++[h+Qb l k*p2 s%W]) (Qb l k/p2 (64-s)):=by
 obtain⟨h1,h2,h3,h4⟩:=hi;obtain⟨_,b⟩:=PS (x:=Qb l k) hs h3.1 h3.2;have hd:=JH hl k;have l0:0<=Qb l k*p2 s%W:=bg _ wk;have q:=aA (Qb l k*p2 s) W;have hk:0<=Qb l k/p2 (64-s)/\Qb l k/p2 (64-s)<p2 s:=by
  refine⟨aK hd.1 (au (Zk _)),?_⟩;refine bS (Zk _) ?_;rw[aV,V6 hs];exact hd.2
 refine⟨by simp[h1],h2.append (DG.cons O b (DG.nil _)),hk,?_⟩;rw[XG,h1,Jr,aC,<-Ly hs];generalize Qb l k*p2 s/W=a at *
 generalize Qb l k*p2 s%W=c at *
 have e:W^k*(W*a+c)=W^k*(Qb l k*p2 s):=by rw[q]
 grind
def BV.zero{l:List Int}(hi:BV l 0 k ds h):h=0:=by
 have:=hi.2.2.1;rw[PR]at this;omega
def ET(x:Int)(s:Nat):IntKind.u64.wrap (x*2^s)=x*p2 s%W:=by
 simp[iQ,iG,bZ,p2,WD]
def W4(ds:List α)(x y:α)(r:List α)(k:Nat)(h:ds.length=k):(ds++x::r).set k y=ds++y::r:=by
 subst h;rw[fY _ _ (ay _),fj,List.set_cons_zero]
def L3(ds:List α)(x y z:α)(r:List α)(k:Nat)(h:ds.length=k):(ds++z::x::r).set (k+1) y=(ds++[z])++y::r:=by
 have:=W4 (ds++[z]) x y r (k+1) (by simp[h]);rw[bN]at this;exact this
set_option maxRecDepth 100000 in
theorem PB(s:Nat)(q:Option Addr)(cap:Nat)(l:List Int)(w:World)(hs:s<64)(hl:DG W l)(hc:Cells w q JM l)(hlen:l.length<=100000000000):
  Calls prog 308 #[.slice q l.length cap,.int .i64 s] w λe w' =>
   Xt w (λv w'=>∃l':List Int,v = .slice (some ⟨w.heap.size,0,none⟩) (l.length+1) (l.length+1)/\Zy w' w.heap.size 283 JM l'/\l'.length=l.length+1/\DG W l'/\dv W l'=dv W l*p2 s) e w':=by
 have HC:=aa hc;clear hc;have hmk:=λw=>Za (l.length+1) O w;have ec:((l.length+1:Nat):Int)=(l.length:Int)+1:=O;simp only[ec]at hmk;clear ec;go_enter func308,ntmps308
 go_wp2
 go_loopw [14] (λi wr=>∃(k:Nat) (ds:List Int) (h:Int),k<=l.length/\i = .int .i64 k/\BV l s k ds h/\Zy wr w.heap.size 283 JM (ds++h::ai (l.length-k) 0)/\Ext w wr)
  (λi _=>l.length-(intOf i).toNat)
 case atStart=>exact⟨0,[],0,eD _,rfl,⟨rfl,DG.nil _,⟨bK _,Zk _⟩,wv⟩,Zy.made w _ JM 0 _ _ rfl,(Ext.refl _).alloc _⟩
 case round =>
  obtain⟨k,ds,h,hk,rfl,hI,hB,hE⟩:=hrel;clear hmk;by_cases hlt:k<l.length
  ·obtain⟨b,off,rfl,hb,hc⟩:=HC.out k hlt;rw[ZG hlt]at hc;have hc:=hE.cell hc;simp only[JM]at hc;have hst:=hI.step hs hl;obtain⟨hd1,hd2,hd3,hd4⟩:=hI;have hor:=(PS (x:=Qb l k) hs hd3.1 hd3.2).1;have HO:=aa hor;clear hor hd4;have hlen1:k<(ds++h::ai (l.length-k) 0).length:=by simp[hd1]
   have hlen2:k+1<(ds++h::ai (l.length-k) 0).length:=by simp[hd1];omega
   have hcell:=hB.cell hlen1;have hcell2:=hB.cell hlen2;have hg:(ds++h::ai (l.length-k) 0).getD k default=h:=by subst hd1;simp[ew]
   rw[hg]at hcell;simp only[JM]at hcell hcell2;have hfr:=hB.frozen k;have hfr2:=hB.frozen (k+1);have hx0:(0:Int)<=(k:Int):=O;have hx1:(k:Int)<(l.length:Int)+1:=O;generalize (ds++h::ai (l.length-k) 0).getD (k+1) default=z at hcell2;have HD1:=aa hd1;have HB:=aa hB;clear hg hd1 hB hlen1 hlen2;by_cases hs0:0<s
   ·go_wp2
    go_still_tail 9,wj
    go_wp2
    go_roundw
    case rel =>
     refine⟨k+1,ds++[h+Qb l k*p2 s%W],Qb l k/p2 (64-s),O,by go_num,hst,?_,((hE.XR wv _).XR wv _).drew⟩;rw[ET,HO.out];have h1:=HB.out.set k (h+Qb l k*p2 s%W);rw[W4 _ _ _ _ _ HD1.out,show l.length-k=(l.length-(k+1))+1 from by omega,eZ]at h1;have h2:=h1.set (k+1) (Qb l k/p2 (64-s));rw[L3 _ _ _ _ _ _ HD1.out]at h2;exact h2.drew
    case measure=>simp[intOf];omega
   have hz:Hid (Qb l k/p2 (64-s)=0):=by
    have e:s=0:=O;subst e;exact hst.zero
   go_wp2
   go_still_tail 9,wj
   go_wp2
   go_roundw
   case rel =>
    refine⟨k+1,ds++[h+Qb l k*p2 s%W],Qb l k/p2 (64-s),O,by go_num,hst,?_,(hE.XR wv _).drew⟩;rw[ET,HO.out,hz.out];have h1:=HB.out.set k (h+Qb l k*p2 s%W);rw[W4 _ _ _ _ _ HD1.out,show l.length-k=(l.length-(k+1))+1 from by omega,eZ]at h1;rw[bN];exact h1.drew
   case measure=>simp[intOf];omega
  have hk':k=l.length:=O;subst hk';obtain⟨hd1,hd2,hd3,hd4⟩:=hI;have HF:Hid (dv W ds+W^l.length*h=dv W l*p2 s):=by rw[eF]at hd4;exact hd4
  have HD1:=aa hd1;rw[fj,ee]at hB;have HB:=aa hB;have hh:h<W:=by have:=yW hs;have:=Zk s;omega
  clear hd1 hd4 hB;go_wp2
  go_ret
  exact⟨_,rfl,⟨_,rfl,HB.out,by simp[HD1.out],hd2.append (DG.cons hd3.1 hh (DG.nil _)),by rw[XG,HD1.out,HF.out]⟩,hE⟩
theorem Bm(s:Nat)(v:Value)(l:List Int)(w:World)(hs:s<64)(hl:DG W l)(hv:SL w v JM l)(hlen:l.length<=100000000000):
  Calls prog 308 #[v,.int .i64 s] w λe w' =>
   Xt w (λv w'=>∃l':List Int,v = .slice (some ⟨w.heap.size,0,none⟩) (l.length+1) (l.length+1)/\Zy w' w.heap.size 283 JM l'/\l'.length=l.length+1/\DG W l'/\dv W l'=dv W l*p2 s) e w':=by
 obtain⟨q,cap,rfl,_,_,hc⟩:=hv;exact PB s q cap l w hs hl hc hlen
def ZX(u v:List Int)(n:Nat)(q r over:Int):Prop :=
 (0<=q/\q<W)/\(0<=r/\r<W)/\(0<=over/\over<=1)/\q*Qb v (n+1)+r+W*over=Qb u (n+2)*W+Qb u (n+1)/\dv W u<(q+1)*dv W v
abbrev VO(u v:List Int)(n:Nat):Prop:=Kx W u v n
theorem Kx.Ft{v:List Int}{n:Nat}(h:VO u v n)(hge:Qb v (n+1)<=Qb u (n+2)):
  ZX u v n (W-1) (J3 (Qb u (n+1)) (Qb v (n+1)) 0) (XT (Qb u (n+1)) (Qb v (n+1)) 0):=by
 have e:=fD (Kx.top DV h) hge;obtain⟨a,b,c⟩:=WC (JH h.hu _) (JH h.hv _) (by decide:(0:Int)<=0/\(0:Int)<=1);refine⟨wk,b,c,?_,?_⟩
 ·grind
 have:=h.lt;trivial
theorem Kx.Fu{v:List Int}{n:Nat}(h:VO u v n)(hlt:Qb u (n+2)<Qb v (n+1)):
  ZX u v n (UZ (Qb u (n+2)) (Qb u (n+1)) (Qb v (n+1))) (F2 (Qb u (n+2)) (Qb u (n+1)) (Qb v (n+1))) 0:=by
 obtain⟨a1,a2,a3⟩:=ZV DV h.hu h.lu;obtain⟨b1,b2,b3⟩:=Ye DV h.hv h.lv;have d0:=JH h.hu (n+2);have d1:=JH h.hu n;have d2:=JH h.hu (n+1);have d3:=JH h.hv n;have d4:=JH h.hv (n+1);have hp:=pow_pos JX n;have hz:=h.nz;have hW:=JX;unfold UZ F2;unfold ZX;rw[a1,b1];generalize W^n=D at *
 generalize dv W (v.take n)=v' at *
 generalize dv W _=u' at *
 generalize Qb u _=u0 at *
 generalize Qb u (n+1)=u1 at *
 generalize Qb u n=u2 at *
 generalize Qb v (n+1)=v1 at *
 generalize Qb v n=v2 at *
 have m0:0<=u0*W:=ak d0.1 O;have m1:(u0+1)*W<=v1*W:=af O O;have q1:=aA (u0*W+u1) v1;have q2:=bg (u0*W+u1) (by omega:v1≠0);have q3:=aW (u0*W+u1) hz;have q4:0<=(u0*W+u1)/v1:=aK O O;have q5:(u0*W+u1)/v1<W:=by
  refine bS hz ?_
  grind
 generalize (u0*W+u1)/v1=q at *
 refine⟨⟨q4,q5⟩,⟨q2,O⟩,O,by grind,?_⟩;have k1:(u0*W+u1+1)<=(q+1)*v1:=by grind
 have k2:(u0*W+u1+1)*(W*D)<=(q+1)*v1*(W*D):=af k1 (ak O O);have k3:0<=(q+1)*(v2*D):=ak O (ak d3.1 O);have k4:0<=(q+1)*v':=ak O b2;have k5:(u2+1)*D<=W*D:=af O O
 grind
theorem ZX.less{v:List Int}{n:Nat}{q r:Int}(h:VO u v n)(g:ZX u v n q r 0)(hb:r*W+Qb u n<q*Qb v n):
  ZX u v n (q-1) (J3 r (Qb v (n+1)) 0) (XT r (Qb v (n+1)) 0):=by
 obtain⟨g1,g2,g3,g4,g5⟩:=g;obtain⟨a1,a2,a3⟩:=ZV DV h.hu h.lu;obtain⟨b1,b2,b3⟩:=Ye DV h.hv h.lv;obtain⟨a,b,c⟩:=WC g2 (JH h.hv _) (by decide:(0:Int)<=0/\(0:Int)<=1);have hp:=pow_pos JX n;have d1:=JH h.hu n;have q1:1<=q:=by
  refine Int.not_lt.1 λhc=>?_;have:q=0:=O;subst this;have:0<=r*W:=ak g2.1 wk;omega
 refine⟨O,b,c,?_,?_⟩
 ·grind
 rw[show q-1+1=q from by omega,a1,b1];refine E2 b2 a3 hp O ?_;generalize Qb u _=u0 at *
 generalize Qb v _=v1 at *
 generalize Qb v n=v2 at *
 have e:q*(v1*W+v2)=(q*v1+r)*W-r*W+q*v2:=by grind
 grind
theorem ZX.fin{v:List Int}{n:Nat}{q r over:Int}(h:VO u v n)(g:ZX u v n q r over)(hb:over=0->q*Qb v n<=r*W+Qb u n):
  (q-1)*dv W v<=dv W u/\dv W u<(q+1)*dv W v:=by
 obtain⟨g1,g2,g3,g4,g5⟩:=g;refine⟨?_,g5⟩;obtain⟨a1,a2,a3⟩:=ZV DV h.hu h.lu;obtain⟨b1,b2,b3⟩:=Ye DV h.hv h.lv;have hp:=pow_pos JX n;have d1:=JH h.hu n;have d3:=JH h.hv n;have hz:=h.nz;rw[a1,b1];have hR:q*Qb v n<=(r+W*over)*W+Qb u n:=by
  have:over=0\/over=1:=O;rcases this with rfl | rfl
  ·simp_all
  have k1:q*Qb v n<=W*W:=fP O O d3.1 wk;have k2:0<=r*W:=ak g2.1 wk
  grind
 refine SP hp b3 a2 g1.1 ?_ ?_ b2
 ·rw[<-g4]
  grind
 have k1:1*W<=Qb v (n+1)*W:=af O wk;omega
def H4(u v:List Int)(q:Int)(k:Nat)(ds:List Int)(b c:Int):Prop :=
 ds.length=k/\DG W ds/\(0<=b/\b<=1)/\(0<=c/\c<W)/\dv W ds-W^k*(b+c)=dv W (u.take k)-q*dv W (v.take k)
def H4.start(u v:List Int)(q:Int):H4 u v q 0 [] 0 0:=⟨rfl,DG.nil _,wk,wk,wv⟩
theorem H4.step{v:List Int}{q b c:Int}(h:H4 u v q k ds b c)(hu:DG W u)(hv:DG W v)(hq:0<=q/\q<W):
  H4 u v q (k+1) (ds++[ZE (Qb u k) (J3 (Jh q (Qb v k)) c 0) b]) (VD (Qb u k) (J3 (Jh q (Qb v k)) c 0) b)
   (XX q (Qb v k)+XT (Jh q (Qb v k)) c 0):=by
 obtain⟨h1,h2,h3,h4,h5⟩:=h;obtain⟨_,m1,m2,m3,m4,_,_⟩:=Dj hq (JH hv k) h4 (by decide:(0:Int)<=0/\(0:Int)<W);obtain⟨a1,_,_⟩:=WC m1 h4 (by decide:(0:Int)<=0/\(0:Int)<=1);obtain⟨s1,s2,s3⟩:=Hb (JH hu k) m2 h3;have e1:Jh q (Qb v k)+W*XX q (Qb v k)=q*Qb v k:=by grind[Jh,XX,ib,aA]
 refine⟨by grind,h2.append (DG.cons s2.1 s2.2 (DG.nil _)),s3,m3,?_⟩;rw[XG,h1,Jr,Jr,aC]
 grind
theorem Ot{v:List Int}{q b c:Int}{n:Nat}(h:VO u v n)(m:H4 u v q (n+2) ds b c)(hq:(q-1)*dv W v<=dv W u/\dv W u<(q+1)*dv W v)
  (hb:VD (Qb u (n+2)) c b=0) :
  DG W (ds++[ZE (Qb u (n+2)) c b])/\q=dv W u/dv W v/\dv W (ds++[ZE (Qb u (n+2)) c b])=dv W u%dv W v:=by
 obtain⟨h1,h2,h3,h4,h5⟩:=m;obtain⟨s1,s2,s3⟩:=Hb (JH h.hu (n+2)) h4 h3;rw[ah (by have:=h.lv;omega:v.length<=n+2)]at h5;have e:=Jr u (n+2);rw[ah (by have:=h.lu;omega:u.length<=n+2+1)]at e;have hD:=h2.append (DG.cons s2.1 s2.2 (DG.nil _));have h0:=Qw JX hD;have hvp:0<dv W v:=by
  grind
 have hv:dv W (ds++[ZE (Qb u (n+2)) c b])=dv W u-q*dv W v:=by
  grind[XG,ZE,Qb]
 rw[hv]at h0 ⊢
 grind[Xy,ZK]
theorem jj{v es:List Int}{q b c k:Int}{n:Nat}(h:VO u v n)(m:H4 u v q (n+2) ds b c)(hq:(q-1)*dv W v<=dv W u/\dv W u<(q+1)*dv W v)
  (hb:VD (Qb u (n+2)) c b=1) (ha:BZ ds v (n+2) es k) :
  q-1=dv W u/dv W v/\dv W es=dv W u%dv W v/\ZE (Qb u (n+2)) c b+k=W:=by
 obtain⟨h1,h2,h3,h4,h5⟩:=m;obtain⟨a1,a2,a3,a4⟩:=ha;obtain⟨s1,s2,s3⟩:=Hb (JH h.hu (n+2)) h4 h3;rw[ah (by have:=h.lv;omega:v.length<=n+2)]at h5 a4;rw[ah (by omega:ds.length<=n+2)]at a4;have e:=Jr u (n+2);rw[ah (by have:=h.lu;omega:u.length<=n+2+1)]at e;have hvp:0<dv W v:=by
  grind
 have d1:=Zh JX a2;have d0:=Qw JX a2;have dd0:=Qw JX h2;have dd1:=Zh JX h2;have v1:=Zh JX h.hv;rw[h.lv]at v1;rw[a1]at d1;rw[h1]at dd1;rw[hb]at s1;have hp:=pow_pos JX (n+2);generalize ZE (Qb u (n+2)) c b=sl at *
 have key:dv W ds+W^(n+2)*(sl-W)=dv W u-q*dv W v:=by
  grind
 have hneg:dv W u<q*dv W v:=by
  have:W^(n+2)*(sl-W)<=W^(n+2)*(-1):=ae O O;omega
 have e1:(q-1)*dv W v=q*dv W v-dv W v:=by grind
 have e2:(q-1+1)*dv W v=q*dv W v:=wv;have hR:dv W u-(q-1)*dv W v=dv W es+W^(n+2)*(sl+k-W):=by
  have e3:W^(n+2)*(sl+k-W)=W^(n+2)*(sl-W)+W^(n+2)*k:=by rw[<-fA];congr 1;omega
  omega
 have hk:sl+k=W:=by
  have r0:0<=dv W u-(q-1)*dv W v:=O;have r1:dv W u-(q-1)*dv W v<W^(n+2):=O;rw[hR]at r0 r1;rcases eE (sl+k) W with g | g | g
  ·have:W^(n+2)*(sl+k-W)<=W^(n+2)*(-1):=ae O O;omega
  ·exact g
  have:W^(n+2)*1<=W^(n+2)*(sl+k-W):=ae O O;omega
 refine⟨(Xy hvp O (by rw[e2];exact hneg)).symm,?_,hk⟩
 grind[ZK]
structure Gg(B:Nat)(w w':World):Prop where
 os:w'.os=w.os
 tape:w'.tape=w.tape
 output:w'.output=w.output
 size:w.heap.size<=w'.heap.size
 block:∀k,k<w.heap.size->k≠B->w'.heap[k]?=w.heap[k]?
def Gg.refl(B:Nat)(w:World):Gg B w w:=⟨rfl,rfl,rfl,ay _,λ_ _ _=>rfl⟩
theorem Gg.vu(B:Nat)(h:Ext w w'):Gg B w w':=⟨h.os,h.tape,h.output,h.size,λk hk _=>h.block k hk⟩
theorem Gg.trans{a b c:World}(h:Gg B a b)(k:Gg B b c):Gg B a c :=
 ⟨k.os.trans h.os,k.tape.trans h.tape,k.output.trans h.output,eu h.size k.size,λi hi hn=>(k.block i (aT hi h.size) hn).trans (h.block i hi hn)⟩
def Gg.ext{a b c:World}(h:Gg B a b)(k:Ext b c):Gg B a c:=h.trans (Gg.vu B k)
def Gg.drew{a b:World}(h:Gg B a b):Gg B a b.drew:=⟨h.os,h.tape,h.output,h.size,h.block⟩
def Gg.setCell{a b:World}(h:Gg B a b)(off:Nat)(v:Value):Gg B a (b.setCell ⟨B,off,none⟩ v) :=
 h.trans ⟨rfl,rfl,rfl,wv,λk _ hn=>fe _ _ _ _ hn⟩
theorem Gg.vG{a b c:World}(h:Gg B b c)(k:Ext a b)(hB:a.heap.size<=B):Ext a c :=
 ⟨h.os.trans k.os,h.tape.trans k.tape,h.output.trans k.output,eu k.size h.size,λi hi=>(h.block i (aT hi k.size) O).trans (k.block i hi)⟩
def Gg.cell(h:Gg B w w'){p:Addr}{v:Value}(hp:p.block≠B)(hv:w.cell? p=some v):w'.cell? p=some v:=by
 rw[ic (h.block _ (fT w p hv) hp)];exact hv
theorem Gg.cells[Inhabited α]{B:Nat}{w w':World}(h:Gg B w w'){q:Option Addr}{enc:BA α}{l:List α}(hq:∀a,q=some a->a.block≠B)(hc:Cells w q enc l):Cells w' q enc l:=by
 intro i hi;obtain⟨b,off,h1,h2,h3⟩:=hc i hi;exact⟨b,off,h1,(by obtain⟨c,fr,e⟩:=id h2;exact⟨c,fr,by rw[h.block b h2.lt (show b≠B from hq ⟨b,off,none⟩ h1)];exact e⟩),h.cell (show b≠B from hq ⟨b,off,none⟩ h1) h3⟩
def Gg.Y1(h:Gg B w w'){enc:BA α}{l:List α}(hb:b≠B)(k:Zy w b E enc l):Zy w' b E enc l:=by
 unfold Zy;rw[h.block b k.lt hb];exact k
theorem T7{pre r:List Int}{x:Int}(hj:pre.length=j)(hk:ds.length=k):(pre++((ds++x::r)++post)).getD (j+k) default=x:=by
 simp_all
theorem T6{pre r:List Int}{x:Int}(hj:pre.length=j)(hk:ds.length=k):j+k<(pre++((ds++x::r)++post)).length:=by
 simp_all
theorem Dk{pre r:List Int}{x:Int}(hj:pre.length=j)(hk:ds.length=k)(y:Int):(pre++((ds++x::r)++post)).set (j+k) y=pre++((ds++y::r)++post):=by
 simp_all
theorem UD{l:List Int}{n:Nat}(h:DG W l)(hn:NZ l)(h1:W^n<=dv W l)(h2:dv W l<W^(n+1)):l.length=n+1:=by
 have a:=Zh JX h;have hl:l≠[]:=by rintro rfl;have:=pow_pos JX n;simp at h1;omega
 have b:=By JX h hn hl;rcases fk l.length (n+1)with g | g | g
 ·have:=YI (b:=W) wk (m:=l.length) (n:=n) O;omega
 ·exact g
 have:=YI (b:=W) wk (m:=n+1) (n:=l.length-1) O;omega
def zC(la:List Int)(y:Int)(k:Nat)(qs:List Int)(r:Int):Prop :=
 qs.length+k=la.length/\DG W qs/\(0<=r/\r<y)/\dv W (la.drop k)=y*dv W qs+r
theorem zC.step{qs:List Int}{y r:Int}(h:zC la y (k+1) qs r)(ha:DG W la)(hy:0<y/\y<W):
  zC la y k (UZ r (Qb la k) y::qs) (F2 r (Qb la k) y):=by
 obtain⟨h1,h2,h3,h4⟩:=h;have hd:=JH ha k;have m0:0<=r*W:=ak h3.1 wk;have m1:(r+1)*W<=y*W:=af O wk;have q1:=aA (r*W+Qb la k) y;have q2:=bg (r*W+Qb la k) (by omega:y≠0);have q3:=aW (r*W+Qb la k) hy.1;have q4:0<=(r*W+Qb la k)/y:=aK O O;have q5:(r*W+Qb la k)/y<W:=by
  refine bS hy.1 ?_
  grind
 refine⟨by grind,DG.cons q4 q5 h2,⟨q2,q3⟩,?_⟩
 grind[XL,YL,UZ,F2,Qb]
def K1(U V:Int)(n k m:Nat)(o qs:List Int):Prop :=
 o.length=m+1/\DG W o/\qs.length+k=m-(n+2)+1/\DG W qs/\U=V*(W^k*dv W qs)+dv W o/\dv W o<W^k*V
theorem K1.start{o:List Int}{n m:Nat}{A B:Int}(ho:o.length=m+1)(hd:DG W o)(hv:dv W o=A*p2 s)(hs:s<64)(hA:A<W^m)
  (hB:W^(n+1)*9223372036854775808<=B*p2 s) (hm:n+2<=m):K1 (A*p2 s) (B*p2 s) n (m-(n+2)+1) m o []:=by
 refine⟨ho,hd,wv,DG.nil _,by simp[hv],?_⟩;have hp:=yW hs;have hp0:=Zk s;have k1:=Int.mul_lt_mul_of_pos_right hA hp0;have k2:W^m*p2 s<=W^m*9223372036854775808:=ae (by grind[WD]) (au (pow_pos JX m));have k3:W^(m-(n+2)+1)*(W^(n+1)*9223372036854775808)<=W^(m-(n+2)+1)*(B*p2 s):=ae hB (au (pow_pos JX _));have e:W^(m-(n+2)+1)*(W^(n+1)*9223372036854775808)=W^m*9223372036854775808:=by
  rw[<-Int.mul_assoc,<-fz,show m-(n+2)+1+(n+1)=m from by omega]
 omega
theorem K1.kh{U V:Int}{n m:Nat}{o qs v:List Int}(h:K1 U V n (j+1) m o qs)(hv:DG W v)(lv:v.length=n+2)(nz:0<Qb v (n+1))(hV:dv W v=V)(_hm:n+2<=m):
  ∃pre u post,o=pre++(u++post)/\pre.length=j/\VO u v n/\dv W post=0/\post.length=m-(j+n+2)/\j+n+2<=m:=by
 obtain⟨h1,h2,h3,h4,h5,h6⟩:=h;have hj:j+n+2<=m:=O;have e1:o=o.take j++((o.drop j).take (n+3)++(o.drop j).drop (n+3)):=by grind[eU]
 have l1:(o.take j).length=j:=by grind
 have l2:((o.drop j).take (n+3)).length=n+3:=by rw[ao,iJ];omega
 have l3:((o.drop j).drop (n+3)).length=m-(j+n+2):=by grind
 have d1:=h2.take j;have d2:DG W ((o.drop j).take (n+3)):=(h2.drop j).take _;have d3:DG W ((o.drop j).drop (n+3)):=(h2.drop j).drop _;have e2:dv W o=dv W (o.take j)+W^j*(dv W ((o.drop j).take (n+3))+W^(n+3)*dv W ((o.drop j).drop (n+3))):=by
  rw[Ys W o j O,Ys W (o.drop j) (n+3) (by grind)]
 generalize o.take j=pre at *
 generalize (o.drop j).take (n+3)=u at *
 generalize (o.drop j).drop (n+3)=post at *
 have n1:=Qw JX d1;have n2:=Qw JX d2;have n3:=Qw JX d3;have hp:=pow_pos JX j;have vlt:=Zh JX hv;rw[lv,hV]at vlt;have e3:W^(j+1)*V=W^j*(W*V):=by grind
 have hU:dv W u+W^(n+3)*dv W post<W*V:=by
  refine Int.not_le.1 λhc=>?_;have:=ae hc (au hp);omega
 have hpost:dv W post=0:=by
  refine fD (Int.not_lt.1 λhc=>?_) n3;have k1:W^(n+3)*1<=W^(n+3)*dv W post:=ae O (au (pow_pos JX _));have k2:W*V<=W*W^(n+2):=ae O wk
  grind[aC]
 refine⟨pre,u,post,e1,l1,⟨d2,hv,l2,lv,nz,?_⟩,hpost,l3,hj⟩;simp_all
theorem K1.step{U V:Int}{n m:Nat}{pre u qs v u':List Int}(h:K1 U V n (j+1) m (pre++(u++post)) qs)(lj:pre.length=j)(lu:u.length=n+3)
  (hd':DG W u') (lu':u'.length=n+3) (hV:dv W v=V) (hVp:0<V) (hpost:dv W post=0) (hq:dv W u/dv W v<W) (hu0:0<=dv W u) (hval:dv W u'=dv W u%dv W v) :
  K1 U V n j m (pre++(u'++post)) (dv W u/dv W v::qs):=by
 obtain⟨h1,h2,h3,h4,h5,h6⟩:=h;rw[hV]at *
 have q0:0<=dv W u/V:=aK hu0 O;have q1:=aA (dv W u) V;have r1:=aW (dv W u) hVp;have dpre:=h2.left;have dpost:=h2.right.right;have p1:=Zh JX dpre;have hp:=pow_pos JX j;rw[Xx,Xx,lj,hpost]at h5 h6;refine⟨by simp_all,dpre.append (hd'.append dpost),by grind,DG.cons q0 hq h4,?_,?_⟩
 ·rw[Xx,Xx,lj,hpost,YL,hval,h5,aC]
  grind
 rw[Xx,Xx,lj,hpost,hval];have k1:W^j*(dv W u%V+1)<=W^j*V:=ae O O
 grind
def KE(o:List Int)(s k:Nat)(ds:List Int):Prop :=
 ds.length=k/\DG W ds/\dv W ds*p2 s+Qb o 0%p2 s=dv W (o.take k)+W^k*(Qb o k%p2 s)
def KE.start(o:List Int)(s:Nat):KE o s 0 []:=⟨rfl,DG.nil _,wv⟩
theorem Ux{x:Int}(hs:s<64)(hx:0<=x/\x<W):0<=x/p2 s/\x/p2 s<p2 (64-s):=by
 simp_all[aK,au,Zk,bS,V6]
theorem KE.step{o:List Int}(h:KE o s k ds)(ho:DG W o)(hs:s<64)(hs0:0<s):
  KE o s (k+1) (ds++[Qb o k/p2 s+Qb o (k+1)*p2 (64-s)%W]):=by
 obtain⟨h1,h2,h3⟩:=h;have hx:=JH ho k;have b:=Ux hs hx;obtain⟨_,c⟩:=PS O b.1 b.2;have hy:0<=Qb o (k+1)*p2 (64-s)%W:=bg _ wk;refine⟨by grind,h2.append (DG.cons O c (DG.nil _)),?_⟩;rw[XG,h1,Jr,aC];have e1:Qb o (k+1)*p2 (64-s)%W=p2 (64-s)*(Qb o (k+1)%p2 s):=by
  grind[Uy,Qb]
 grind[aA,Qb,p2,V6]
theorem KE.Lx{o:List Int}(h:KE o 0 k ds)(ho:DG W o):KE o 0 (k+1) (ds++[Qb o k/p2 0]):=by
 obtain⟨h1,h2,h3⟩:=h;have hx:=JH ho k;simp[PR,lK,Int.ediv_one,lR,eT,ey]at *
 exact⟨by grind,h2.append (DG.cons hx.1 hx.2 (DG.nil _)),by simp[PR,lK,lR,eT,ey];grind[XG,Jr]⟩
theorem xO{o qs:List Int}{n m:Nat}{A B:Int}(h:K1 (A*p2 s) (B*p2 s) n 0 m o qs)(hs:s<64)(hB:0<B)(hBn:B*p2 s<W^(n+2))(hm:n+2<=m)
  (hr:KE o s (n+2) ds):dv W qs=A/B/\dv W ds=A%B:=by
 obtain⟨h1,h2,h3,h4,h5,h6⟩:=h;obtain⟨r1,r2,r3⟩:=hr;simp only[Int.pow_zero,lQ]at h5 h6;have hp:=Zk s;have n0:=Qw JX h2;have e2:=Ys W o (n+2) O;have t0:=Qw JX (h2.take (n+2));have t1:=Qw JX (h2.drop (n+2));have z:dv W (o.drop (n+2))=0:=by
  refine fD (Int.not_lt.1 λhc=>?_) t1;have k1:W^(n+2)*1<=W^(n+2)*dv W (o.drop (n+2)):=ae O (au (pow_pos JX _));omega
 have zd:Qb o (n+2)=0:=by
  have e3:=XL (l:=o) (k:=n+2) O;rw[e3,YL]at z;have d0:=JH h2 (n+2);have d1:=Qw JX (h2.drop (n+2+1));have d2:0<=W*dv W (o.drop (n+2+1)):=ak wk d1;omega
 rw[zd,Int.zero_emod,eT,ey]at r3;rw[z,eT,ey]at e2;have hmod:Qb o 0%p2 s=0:=by
  have f1:dv W o=Qb o 0+W*dv W (o.drop 1):=by
   have:=XL (l:=o) (k:=0) O;rw[iT]at this;rw[congrArg (dv W) this,YL]
  have f2:dv W o=p2 s*(A-B*dv W qs):=by grind
  have f3:Qb o 0=p2 s*(A-B*dv W qs-p2 (64-s)*dv W (o.drop 1)):=by
   grind[V6,Qb,p2,dv]
  simp_all
 rw[hmod,ey,<-e2]at r3;have key:A=B*dv W qs+dv W ds:=by
  have:p2 s*A=p2 s*(B*dv W qs+dv W ds):=by grind
  grind[fS]
 have hlt:dv W ds<B:=by
  refine Int.not_le.1 λhc=>?_;have:=af hc (au hp);omega
 have hds:=Qw JX r2;have g1:dv W qs*B<=A:=by grind
 grind[dv,lS,aV,Xy,ZK]
def P9(A B:Int)(r:Value)(w':World):Prop :=
 ∃p p' lq lr,r = .tuple #[p,p']/\SL w' p JM lq/\SL w' p' JM lr/\(DG W lq/\NZ lq)/\(DG W lr/\NZ lr)/\dv W lq=A/B/\dv W lr=A%B
theorem Wv{x y:Int}(h:y<=x):0<=YY x y:=by grind[YY]
theorem Si(v v':Value)(la lb:List Int)(w:World)(ha:DG W la)(hb:DG W lb)(na:NZ la)(nb:NZ lb)(hs:SL w v JM la)(hs':SL w v' JM lb)(hlt:dv W la<dv W lb):
  Calls prog 221 #[v,v'] w λe w'=>Xt w (P9 (dv W la) (dv W lb)) e w':=by
 have H3:=aa (VM hlt);have H0:=aa (Qw JX ha);have HL:=aa hlt;go_enter func221,ntmps221
 go_wp2_with (refine(X1 _ _ _ _ _ ha hb na nb hs hs').mono ?_;rw[H3.out];rintro e w' ⟨rfl,hx⟩)
 go_ret2
 exact⟨_,rfl,⟨_,_,[],la,rfl,SL.nil _ _,hs.ext hx,⟨DG.nil _,by simp[NZ]⟩,⟨ha,na⟩,(ia H0.out HL.out).symm,(bO H0.out HL.out).symm⟩,hx⟩
def Rh(x z:α)(k:Nat)(qs:List α):(ai (k+1) z++qs).set k x=ai k z++x::qs:=by
 simp[ir,bN,fY]
set_option maxRecDepth 100000 in
set_option maxHeartbeats 800000 in
theorem UX(v:Value)(q':Option Addr)(cap':Nat)(la:List Int)(y:Int)(w:World)(ha:DG W la)(hy:0<y/\y<W)(na:NZ la)(hs:SL w v JM la)(hs':SL w (.slice q' 1 cap') JM [y])(hge:y<=dv W la)(h1:la.length<=100000000000):
  Calls prog 221 #[v,.slice q' 1 cap'] w λe w'=>Xt w (P9 (dv W la) y) e w':=by
 have H3:0<=YY (dv W la) y:=Wv hge;have hb:DG W [y]:=DG.cons O hy.2 (DG.nil _);have nb:NZ [y]:=by grind[NZ]
 have HS:=aa hs;obtain⟨q,cap,rfl,hcap,hmax,hca⟩:=hs;have HA:=aa hca;have HS':=aa hs';obtain⟨q2,cap2,e2,hcap2,hmax2,hcb⟩:=hs';obtain⟨by1,oy,hq,hby,hcy⟩:=hcb 0 wv;simp only[bA,iO,Value.slice.injEq]at e2;obtain⟨rfl,_,rfl⟩:=e2;subst hq;have hcy:w.cell? ⟨by1,oy,none⟩=some (.int .u64 y):=by trivial
 have hmk:=λw=>Za la.length O w;clear hca hcb;go_enter func221,ntmps221
 go_wp2_with (go_at_call 280;refine(X1 _ _ _ _ _ ha hb na nb HS.out HS'.out).mono ?_;rintro e w1 ⟨rfl,hx1⟩)
 go_loopw [8,7] (λi r wr=>∃(k:Nat) (qs:List Int) (rr:Int),k<=la.length/\i = .int .i64 ((k:Int)-1)/\r = .int .u64 rr/\zC la y k qs rr/\Zy wr w1.heap.size 283 JM (ai k 0++qs)/\Ext w1 wr)
  (λi _ _=>(intOf i+1).toNat)
 case atStart=>exact⟨la.length,[],0,ay _,rfl,rfl,⟨wv,DG.nil _,⟨bK _,hy.1⟩,wv⟩,by rw[fy];exact Zy.made w1 _ JM 0 _ _ I,(Ext.refl _).alloc _⟩
 case round =>
  obtain⟨k,qs,rr,hk,rfl,rfl,hI,hB,hE⟩:=hrel;clear hmk;cases k with
  |zero =>
   obtain⟨i1,i2,i3,i4⟩:=hI;have hW:=WD;have hdr:DG W [rr]:=DG.cons i3.1 O (DG.nil _);simp only[ee,eR]at hB;have hSL:=SL.Wn hB la.length O O;rw[ah O,show qs.length=la.length from by omega]at hSL;have HSL:=aa hSL;have HB:=aa hB;have HF:Hid (dv W qs=dv W la/y/\rr=dv W la%y):=by
    rw[iT]at i4;have g1:dv W qs*y<=dv W la:=by rw[aV];omega
    have g2:dv W la<(dv W qs+1)*y:=by rw[lS,aV (dv W qs)];omega
    exact⟨(Xy hy.1 g1 g2).symm,by rw[ZK g1 g2,aV (dv W qs)];omega⟩
   clear hSL hB i1 i4 hW;go_wp2_with fail
   refine(Yn _ _ _ HSL.out).mono ?_;rintro e w' ⟨⟨v1,rfl,hv1⟩,rfl⟩;go_wp2_with fail
   refine(Yn _ [rr] _ ⟨_,1,rfl,ay _,wk,(Zy.new _ 283 JM [rr] _ I).row.cells (Zy.new _ 283 JM [rr] _ I).E4⟩).mono ?_;rintro e w' ⟨⟨v2,rfl,hv2⟩,rfl⟩;go_wp2
   go_ret2
   refine⟨_,rfl,⟨_,_,_,_,rfl,hv1.ext ((Ext.refl _).alloc _),hv2,⟨i2.Qx,XN _⟩,⟨hdr.Qx,XN _⟩,by rw[Ju];exact HF.out.1,by rw[Ju];simpa using HF.out.2⟩,(hx1.trans hE).alloc _⟩
  |succ k =>
   have hlt:k<la.length:=O;have hst:=hI.step ha hy;obtain⟨i1,i2,i3,i4⟩:=hI;obtain⟨b,off,rfl,hba,hc⟩:=HA.out k hlt;rw[ZG hlt]at hc;simp only[JM]at hc;have hx2:=hx1.trans hE;have hc:=hx2.cell hc;have hcy2:=hx2.cell hcy;have hx:=JH ha k;have hlen:k<(ai (k+1) 0++qs).length:=wy;have hcell:=hB.cell hlen;have hz:(ai (k+1) (0:Int)++qs).getD k default=0:=by simp[ew,fM]
   rw[hz]at hcell;simp only[JM]at hcell;have hfr:=hB.frozen k;have HB:=aa hB;have HST:=aa hst;have e1:((k+1:Nat):Int)-1=(k:Int):=O;have hk0:(0:Int)<=(k:Int):=O;have hk1:(k:Int)<(la.length:Int):=O;have hbne:b≠w1.heap.size:=wi<|aT hba.lt hx1.size
   have hyne:by1≠w1.heap.size:=wi<|aT hby.lt hx1.size
   clear hB hlen hz hst i4 i1;rw[e1];clear e1;go_wp2
   go_region_held3 (λw'=>w'.cell? ⟨b,off+k,none⟩=some (.int .u64 (Qb la k))/\w'.cell? ⟨by1,oy,none⟩=some (.int .u64 y))
    (first | exact⟨hdx.cell hc,hdx.cell hcy2⟩ | exact⟨XM hbne (hdx.cell hc),XM hyne (hdx.cell hcy2)⟩ | go_keep)
    (first | (go_at_call 305;refine(Nh _ _ _ _ i3 hx hy.2).mono ?_;rintro e w' ⟨rfl,hdx⟩;have hcell':=hdx.cell hcell;have hfr':=(HB.out.ext (((Ext.refl _).drewN _).trans hdx)).frozen k))
   have hBs:=(HB.out.ext (((Ext.refl _).drewN _).trans hdx)).set k (UZ rr (Qb la k) y);rw[Rh]at hBs;have HBs:=aa hBs;clear hBs;go_wp2
   go_roundw
   case rel=>exact⟨k,_,_,O,by go_num,rfl,HST.out,HBs.out,(hE.trans (((Ext.refl _).drewN _).trans hdx)).XR (ay _) _⟩
   case measure=>simp[intOf]
structure VP(w:World)(u v pre post:List Int)(n j B bv ov:Nat):Prop where
 hB:Zy w B 283 JM (pre++(u++post))
 hv:Cells w (some ⟨bv,ov,none⟩) JM v
def VP.ext{v pre:List Int}{n bv ov:Nat}(h:VP w u v pre post n j B bv ov)(k:Ext w w'):VP w' u v pre post n j B bv ov :=
 ⟨h.hB.ext k,h.hv.ext k⟩
theorem VP.atu{v pre:List Int}{n bv ov:Nat}(h:VP w u v pre post n j B bv ov)(hj:pre.length=j)(i:Nat)(hi:i<u.length):
  w.cell? ⟨B,j+i,none⟩=some (.int .u64 (Qb u i)):=by
 have h1:=h.hB.cell (i:=j+i) wy;have e:(pre++(u++post)).getD (j+i) default=Qb u i:=by
  rw[Xz hi];subst hj;simp only[ew];rw[List.getElem?_append_right O,fV,fM hi,List.getElem?_eq_getElem hi];rfl
 rw[e]at h1;exact h1
theorem VP.atv{v pre:List Int}{n bv ov:Nat}(h:VP w u v pre post n j B bv ov)(i:Nat)(hi:i<v.length):
  w.cell? ⟨bv,ov+i,none⟩=some (.int .u64 (Qb v i)):=by
 obtain⟨b,o,e,_,hc⟩:=h.hv i hi;cases e;rw[ZG hi]at hc;exact hc
set_option maxRecDepth 100000 in
set_option maxHeartbeats 4000000 in
theorem FG(u v pre post:List Int)(n j B capu capv bv ov:Nat)(w:World)(h:VO u v n)(hj:pre.length=j)(hmax:n<=100000000000)
  (hM:VP w u v pre post n j B bv ov) (hne:bv≠B) :
  Calls prog 309 #[.slice (some ⟨B,j,none⟩) (n+3) capu,.slice (some ⟨bv,ov,none⟩) (n+2) capv] w λe w' =>
   (e = .returned (.int .u64 (dv W u/dv W v))/\∃u',Zy w' B 283 JM (pre++(u'++post))/\u'.length=n+3/\DG W u'/\dv W u'=dv W u%dv W v)/\Gg B w w':=by
 have hlu:=aa h.lu;have hlv:=aa h.lv;have HJ:=aa hj;clear hj;have hw1:IntKind.i64.wrap ((n:Int)+2-1)=(n:Int)+1:=by rw[show(n:Int)+2-1=(n:Int)+1 from by omega];exact bj _ O
 have ht1:((n:Int)+1).toNat=n+1:=O;have h01:0<=(n:Int)+1:=O;have h02:(n:Int)+1<(n:Int)+2:=O;have ht2:((n:Int)+2).toNat=n+2:=O;have h03:0<=(n:Int)+2:=O;have h04:(n:Int)+2<(n:Int)+3:=O;have h05:(n:Int)+1<(n:Int)+3:=O;have hu2:=hM.atu HJ.out (n+2) (wi hlu.out);have hu1:=hM.atu HJ.out (n+1) (wi hlu.out);have hv1:=hM.atv (n+1) (wi hlv.out);have du1:=JH h.hu (n+1);have du2:=JH h.hu (n+2);have dv1:=JH h.hv (n+1);go_enter func309,ntmps309
 go_wp2_with fail
 go_quiet (fail)
 go_upto_if 30 with (fail)
 go_cut [6,7,8] λq r o wx=>∃qq rr oo,q = .int .u64 qq/\r = .int .u64 rr/\o = .int .u64 oo/\ZX u v n qq rr oo/\Ext w wx
 case first =>
  by_cases hge:Qb v (n+1)<=Qb u (n+2)
  ·have HG:=aa (Kx.Ft h hge);have ha:=λw=>Z4 (Qb u (n+1)) (Qb v (n+1)) 0 du1.1 dv1.1 wk wk w;go_wp2
   go_quiet (fail)
   go_wp2
   go_meet
   exact⟨_,_,_,rfl,rfl,rfl,HG.out,(((Ext.refl w).drewN _).drewN _)⟩
  have HG:=aa (Kx.Fu h O);have hdy:Qb v (n+1)<W:=dv1.2;have hdh:0<=Qb u (n+2)/\Qb u (n+2)<Qb v (n+1):=⟨du2.1,O⟩;go_wp2
  go_region_held3 (λw'=>w'.cell? ⟨B,j+(n+2),none⟩=some (.int .u64 (Qb u (n+2)))/\w'.cell? ⟨B,j+(n+1),none⟩=some (.int .u64 (Qb u (n+1)))/\w'.cell? ⟨bv,ov+(n+1),none⟩=some (.int .u64 (Qb v (n+1))))
   (first | go_keep | exact⟨hx.cell hu2,hx.cell hu1,hx.cell hv1⟩)
   (first | (go_at_call 305;refine(Nh _ _ _ _ hdh du1 hdy).mono ?_;rintro e w' ⟨rfl,hx⟩))
  go_wp2
  go_meet
  exact⟨_,_,_,rfl,rfl,rfl,HG.out,((Ext.refl w).drewN _).trans hx⟩
 case rest =>
  obtain⟨q1,r1,o1,rfl,rfl,rfl,hG,hE⟩:=hcut;have HM0:=aa hM;clear hu2 hu1 hv1 du1 du2 hM;go_upto_block 0 with (fail)
  go_cut [6] λq wx=>∃qq,q = .int .u64 qq/\(0<=qq/\qq<W)/\((qq-1)*dv W v<=dv W u/\dv W u<(qq+1)*dv W v)/\Ext w wx
  case first =>
   have hw2:IntKind.i64.wrap ((n:Int)+2-2)=(n:Int):=by rw[show(n:Int)+2-2=(n:Int)from by omega];exact bj _ O
   have hn0:(0:Int)<=(n:Int):=O;go_wp2_with fail
   go_loopw [6,7,8] (λq r o wr=>∃qq rr oo,q = .int .u64 qq/\r = .int .u64 rr/\o = .int .u64 oo/\ZX u v n qq rr oo/\Ext w wr) λ_ r o _=>(2*W-(intOf r+W*intOf o)).toNat
   case atStart=>exact⟨_,_,_,rfl,rfl,rfl,hG,hE⟩
   case round =>
    clear hG hE;obtain⟨qq,rr,oo,rfl,rfl,rfl,hG,hE⟩:=hrel;obtain⟨g1,g2,g3,g4,g5⟩:=id hG;have HG:=aa hG;clear hG g4 g5;by_cases ho:oo=0
    ·subst ho;have hM:=HM0.out.ext hE;have hv0:=hM.atv n (wi hlv.out);have hv1:=hM.atv (n+1) (wi hlv.out);have hu0:=hM.atu HJ.out n (wi hlu.out);have dv0:=JH h.hv n;have du0:=JH h.hu n;have e1:Jh qq (Qb v n)+W*XX qq (Qb v n)=qq*Qb v n:=by unfold Jh XX;rw[ib];exact aA _ _
     have l0:0<=Jh qq (Qb v n)/\Jh qq (Qb v n)<W:=⟨bg _ wk,aW _ JX⟩;have HY:Hid (qq*Qb v n<=rr*W+Qb u n->(qq-1)*dv W v<=dv W u/\dv W u<(qq+1)*dv W v):=λhy=>HG.out.fin h (λ_=>hy);have HN:Hid (rr*W+Qb u n<qq*Qb v n->ZX u v n (qq-1) (J3 rr (Qb v (n+1)) 0) (XT rr (Qb v (n+1)) 0)):=λhy=>HG.out.less h hy;have hq1:Hid (rr*W+Qb u n<qq*Qb v n->1<=qq):=λhy=>by
      have:=(HN.out hy).1;omega
     have hnz:=h.nz;have hq2:qq<=18446744073709551615:=by have:=g1.2;simp only[WD]at this;omega
     have hme:Hid (2*W-(J3 rr (Qb v (n+1)) 0+W*XT rr (Qb v (n+1)) 0)<2*W-(rr+W*0)):=by
      have:=(WC g2 dv1 (by decide:(0:Int)<=0/\(0:Int)<=1)).1;show _<_;omega
     have hme2:Hid (0<2*W-(rr+W*0)):=by show _<_;omega
     have ha:=λw=>Z4 rr (Qb v (n+1)) 0 g2.1 dv1.1 wk wk w;generalize hmy:XX qq (Qb v n)=mh at *
     generalize hml:Jh qq (Qb v n)=ml at *
     have HMH:=aa hmy;have HML:=aa hml;have E1:Hid (qq*Qb v n=ml+W*mh):=e1.symm;clear hmy hml e1;have cmpY:Hid (mh<rr->qq*Qb v n<=rr*W+Qb u n):=λhh=>by
      have:W*(mh+1)<=W*rr:=ae O wk;rw[E1.out];grind
     have cmpY2:Hid (mh=rr->ml<=Qb u n->qq*Qb v n<=rr*W+Qb u n):=λhh hl=>by
      rw[E1.out,hh];grind
     have cmpN:Hid (rr<mh->rr*W+Qb u n<qq*Qb v n):=λhh=>by
      have:W*(rr+1)<=W*mh:=ae O wk;rw[E1.out];grind
     have cmpN2:Hid (mh=rr->Qb u n<ml->rr*W+Qb u n<qq*Qb v n):=λhh hl=>by
      rw[E1.out,hh];grind
     rcases eE mh rr with g | g | g
     ·have HF:=aa (HY.out (cmpY.out g));go_wp2_with (go_at_call 239;refine(Zo _ _ _ g1 dv0).mono ?_;rw[HMH.out,HML.out];rintro e w' ⟨rfl,rfl⟩)
      go_meet
      exact⟨_,rfl,HG.out.1,HF.out,hE⟩
     ·have gb:(mh==rr)=true:=by simpa using g
      have gl:rr<=mh:=O;have G:=aa g;clear g;by_cases hl:ml<=Qb u n
      ·have HF:=aa (HY.out (cmpY2.out G.out hl));go_wp2_with (go_at_call 239;refine(Zo _ _ _ g1 dv0).mono ?_;rw[HMH.out,HML.out];rintro e w' ⟨rfl,rfl⟩)
       go_meet
       exact⟨_,rfl,HG.out.1,HF.out,hE⟩
      have hl':Qb u n<ml:=O;have HF:=aa (HN.out (cmpN2.out G.out hl'));have hq1:=hq1.out (cmpN2.out G.out hl');clear hl;go_wp2_with (go_at_call 239;refine(Zo _ _ _ g1 dv0).mono ?_;rw[HMH.out,HML.out];rintro e w' ⟨rfl,rfl⟩)
      go_roundw
      case rel=>exact⟨_,_,_,rfl,rfl,rfl,HF.out,hE⟩
      case measure=>have:=hme.out;have:=hme2.out;simp only[intOf];omega
     have HF:=aa (HN.out (cmpN.out g));have hq1:=hq1.out (cmpN.out g);have gb:(mh==rr)=false:=wy;go_wp2_with (go_at_call 239;refine(Zo _ _ _ g1 dv0).mono ?_;rw[HMH.out,HML.out];rintro e w' ⟨rfl,rfl⟩)
     go_roundw
     case rel=>exact⟨_,_,_,rfl,rfl,rfl,HF.out,hE⟩
     case measure=>have:=hme.out;have:=hme2.out;simp only[intOf];omega
    have ho1:(oo==0)=false:=by simpa using ho
    have HF:=aa (HG.out.fin h λe=>absurd e ho);go_wp2
    go_meet
    exact⟨_,rfl,HG.out.1,HF.out,hE⟩
  case rest =>
   clear hG hE;obtain⟨qq,rfl,hq,hF,hE⟩:=hcut;have HF:=aa hF;have HB0:=aa (HM0.out.ext hE).hB;have HU0:Hid (Gg B w _):=(Gg.refl B w).ext hE;clear hF hE dv1 h05 h02 h04;go_wp2
   go_loopw [105,11,12] (λi b c wr=>∃(k:Nat) (ds:List Int) (bb cc:Int),k<=n+2/\i = .int .i64 k/\b = .int .u64 bb/\c = .int .u64 cc/\H4 u v qq k ds bb cc/\Zy wr B 283 JM (pre++((ds++u.drop k)++post))/\Gg B w wr)
    (λi _ _ _=>n+2-(intOf i).toNat)
   case atStart=>exact⟨0,[],0,0,O,rfl,rfl,rfl,H4.start u v qq,HB0.out,HU0.out⟩
   case round =>
    clear HB0 HU0;obtain⟨k,ds,bb,cc,hk,rfl,rfl,rfl,hI,hB,hU⟩:=hrel;by_cases hlt:k<n+2
    ·have hst:=hI.step h.hu h.hv hq;obtain⟨hd1,hd2,hd3,hd4,hd5⟩:=hI;have HD1:=aa hd1;have hvk:=hU.cell (p:=⟨bv,ov+k,none⟩) hne (HM0.out.atv k (wi hlv.out));rw[XL (wi hlu.out)]at hB;have hcell:=hB.cell (T6 HJ.out HD1.out);rw[T7 HJ.out HD1.out]at hcell;simp only[JM]at hcell;have hfr:=hB.frozen (j+k);have hBs:=hB.set (j+k) (ZE (Qb u k) (J3 (Jh qq (Qb v k)) cc 0) bb);rw[Dk HJ.out HD1.out,iL ds]at hBs;have HBs:=aa hBs;have HS:=aa hst;have hy:=JH h.hv k;have hx:=JH h.hu k;obtain⟨_,g2,g3,g4,g5,_,_⟩:=Dj hq hy hd4 (by decide:(0:Int)<=0/\(0:Int)<W);clear hd1 hd5 hB hBs hst;generalize hmy:XX qq (Qb v k)=mh at *
     generalize hml:Jh qq (Qb v k)=ml at *
     have HMH:=aa hmy;have HML:=aa hml;clear hmy hml;have ha1:=λw=>Z4 ml cc 0 g2.1 hd4.1 wk wk w;have ha2:=λw=>W5 (Qb u k) (J3 ml cc 0) bb hx g3 hd3 w;have b1:0<=mh+XT ml cc 0:=g4.1;have b2:mh+XT ml cc 0<=18446744073709551615:=by have:=g4.2;simp only[WD]at this;omega
     go_wp2_with (go_at_call 239;refine(Zo _ _ _ hq hy).mono ?_;rw[HMH.out,HML.out];rintro e w' ⟨rfl,rfl⟩)
     go_roundw
     case rel=>exact⟨k+1,_,_,_,O,by go_num,rfl,rfl,HS.out,HBs.out,hU.setCell _ _⟩
     case measure=>simp[intOf];omega
    have hk':k=n+2:=O;subst hk';have HI:=aa hI;obtain⟨hd1,hd2,hd3,hd4,hd5⟩:=hI;have HD1:=aa hd1;rw[XL (wi hlu.out)]at hB;have hcell:=hB.cell (T6 HJ.out HD1.out);rw[T7 HJ.out HD1.out]at hcell;simp only[JM]at hcell;have hfr:=hB.frozen (j+(n+2));have hBs:=hB.set (j+(n+2)) (ZE (Qb u (n+2)) cc bb);rw[Dk HJ.out HD1.out,bL (wi hlu.out)]at hBs;have HBs:=aa hBs;have hx:=JH h.hu (n+2);have hs:=(Hb hx hd4 hd3).2;have ha2:=λw=>W5 (Qb u (n+2)) cc bb hx hd4 hd3 w;clear hd1 hd5 hB hBs;have hs3:=hs.2;have hs2:=hs.1;clear hs;by_cases hb0:VD (Qb u (n+2)) cc bb=0
    ·have hR:=Ot h HI.out HF.out hb0;have HR:=aa hR;have hbb:(VD (Qb u (n+2)) cc bb==0)=true:=by simpa using hb0
     clear hR hb0;go_wp2
     go_ret
     exact⟨⟨congrArg (λx=>eO (.int .u64 x)) HR.out.2.1,_,HBs.out,by simp[HD1.out],HR.out.1,HR.out.2.2⟩,hU.setCell _ _⟩
    have hb1:VD (Qb u (n+2)) cc bb=1:=O;have hbb:(VD (Qb u (n+2)) cc bb==0)=false:=by simpa using hb0
    have HB1:=aa hb1;clear hb0 hb1;have HU1:Hid (Gg B w _):=hU.setCell (j+(n+2)) (JM (ZE (Qb u (n+2)) cc bb));have hdL:DG W (ds++[ZE (Qb u (n+2)) cc bb]):=hd2.append (DG.cons hs2.1 hs2.2 (DG.nil _));go_wp2
    go_loopw [157,17] (λi c wr=>∃(k:Nat) (es:List Int) (c2:Int),k<=n+2/\i = .int .i64 k/\c = .int .u64 c2/\BZ ds v k es c2/\Zy wr B 283 JM (pre++((es++(ds++[ZE (Qb u (n+2)) cc bb]).drop k)++post))/\Gg B w wr)
     (λi _ _=>n+2-(intOf i).toNat)
    case atStart=>exact⟨0,[],0,O,rfl,rfl,⟨rfl,DG.nil _,wk,wv⟩,HBs.out,HU1.out⟩
    case round =>
     clear HU1 HBs hcell hfr hU ha2;obtain⟨k,es,c2,hk,rfl,rfl,hA,hB,hU⟩:=hrel;have HA:=aa hA;obtain⟨he1,he2,he3,he4⟩:=hA;have HE1:=aa he1;clear he1 he4;have hll:(ds++[ZE (Qb u (n+2)) cc bb]).length=n+3:=by simp[HD1.out]
     rw[XL O]at hB;have HLL:=aa hll;clear hll;have hcell:=hB.cell (T6 HJ.out HE1.out);rw[T7 HJ.out HE1.out]at hcell;simp only[JM]at hcell;have hfr:=hB.frozen (j+k);by_cases hlt:k<n+2
     ·have hvk:=hU.cell (p:=⟨bv,ov+k,none⟩) hne (HM0.out.atv k (wi hlv.out));have hek:Hid (Qb (ds++[ZE (Qb u (n+2)) cc bb]) k=Qb ds k):=by
       have h1:k<ds.length:=wi HD1.out;show _=_;rw[Xz (wi HLL.out),Xz h1,List.getElem_append_left h1]
      rw[hek.out]at hcell hB;have hBs:=hB.set (j+k) (J3 (Qb ds k) (Qb v k) c2);rw[Dk HJ.out HE1.out,iL es]at hBs;have HBs:=aa hBs;have HS:=aa (HA.out.step hd2 h.hv);have hx:=JH hd2 k;have hy:=JH h.hv k;have ha1:=λw=>Z4 (Qb ds k) (Qb v k) c2 hx.1 hy.1 he3.1 he3.2 w;have hk0:(0:Int)<=(k:Int):=O;have hk1:(k:Int)<(n:Int)+2:=O;have hk2:(k:Int)<(n:Int)+3:=O;clear hBs hB;go_wp2
      go_region
      go_wp2
      go_roundw
      case rel=>exact⟨k+1,_,_,O,by go_num,rfl,HS.out,HBs.out.drew,(hU.setCell _ _).drew⟩
      case measure=>simp[intOf];omega
     have hk':k=n+2:=O;subst hk';have hR:=jj h HI.out HF.out HB1.out HA.out;have HR:=aa hR;clear hR;have hek:Hid (Qb (ds++[ZE (Qb u (n+2)) cc bb]) (n+2)=ZE (Qb u (n+2)) cc bb):=by
      show _=_;rw[Xz (wi HLL.out)];simp[HD1.out]
     rw[hek.out,bL (wi HLL.out)]at hB;rw[hek.out]at hcell;have hBs:=hB.set (j+(n+2)) 0;rw[Dk HJ.out HE1.out]at hBs;have HBs:=aa hBs;have hq1:1<=qq:=by
      have h0:=Qw JX h.hu;have h1:=Qw JX h.hv;have:=aK h0 h1;rw[<-HR.out.1]at this;omega
     have hq2:qq<=18446744073709551615:=by have:=hq.2;simp only[WD]at this;omega
     have hwr:IntKind.u64.wrap (ZE (Qb u (n+2)) cc bb+c2)=0:=by
      rw[HR.out.2.2];decide
     clear hB hBs;go_wp2
     go_ret
     exact⟨⟨congrArg (λx=>eO (.int .u64 x)) HR.out.1,_,HBs.out,by simp[HE1.out],he2.append (DG.cons (bK _) JX (DG.nil _)),by rw[XG,HR.out.2.1];simp⟩,hU.setCell _ _⟩
end Go.Proofs.YtphlgddkpboamaaGreatDoor
