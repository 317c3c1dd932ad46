/- Steps of the proof of the theorem in the last file. -/
import Derived.WalkKit
import Derived.WalkSpells
import Derived.WalkLawsBesides
import Derived.Lib.Hide
import Derived.Deep.RegionHeld3
import Derived.StillTail
import Derived.Deep.LoopGhost
import Derived.IntWalk
import Derived.Test.YtpmehagnedbkhaaGreatDoorProg
import Derived.KernelRfl
import Derived.Deep.QuietTactic
import Derived.BigQuiet
import Derived.Laws.Externs
import Derived.Shelf.Strings.Builder1
import Derived.Shelf.Strings.Builder2
import Derived.Shelf.Small.Bits
import Derived.Shelf.Small.Wraps
import Derived.Shelf.Strconv.Atoi
import Derived.Shelf.Strconv.Itoa0
import Derived.Shelf.Strconv.Itoa1
import Derived.Shelf.LaysM
import Derived.Shelf.Strconv.Itoa2
import Derived.Shelf.Strconv.Itoa3
import Derived.Shelf.Strings.Search1
import Derived.Shelf.Strings.Search2
import Derived.Shelf.Strings.Cut
import Derived.Shelf.Strings.Prefix
import Derived.Shelf.Bits.Mul64
import Derived.Shelf.Strings.Repeat
import Derived.Ground.Names2Prog
import Derived.Shelf.Slices.Clone
import Derived.Shelf.Slices.SearchI
import Derived.Ground.SlgnProg
import Derived.Shelf.SlicesE.Clone
import Derived.Laws.BitsAllLaws
import Derived.StillTailTactics
set_option linter.all false
set_option maxHeartbeats 4000000
open Go.Proofs.Tryz
open Go.Lib renaming hid → aa,bitLen → bh,run_eql_slice_nil → ew,trimPrefix → iD,hasPrefix → iV,pow10Tab → lz,cut → lA
open Array renaming getElem?_eq_none → ae,getElem?_setIfInBounds_ne → aN,getElem?_modify → bF,replicate → bM,ext' → ef,foldl_toList → eE,ext_getElem? → eF,range → fl,ext → lG
open List renaming take_of_length_le → af,replicate → ai,length_take → ar,length_append → aI,getElem?_eq_none → aJ,length_cons → aP,replicate_succ → bw,map_append → bA,append_assoc → bB,take_length → bG,getD → bH,Sublist → bP,drop_eq_getElem_cons → bS,map_cons → bU,nil_sublist → bW,nil_append → ek,getElem?_append → ey,replicate_zero → eB,getElem?_drop → eG,foldl_cons → eP,dropLast_concat_getLast → eQ,range → eY,mapM_cons → eZ,sublist_cons_self → fe,drop_eq_nil_of_le → ff,take_append_drop → fi,set_append_right → fj,erase_cons_head → fu,mem_map_of_mem → fC,set_cons_zero → fJ,nodup_append → fQ,zipIdx_cons → fW,getElem_mem → fX,cons_append → fY,append_nil → ij,take_zero → ir,drop_zero → iu,range' → iZ
open Int renaming mul_le_mul_of_nonneg_left → ag,eq_ofNat_of_zero_le → ah,mul_le_mul_of_nonneg_right → ay,pow_succ → aD,mul_nonneg → aK,natCast_pow → aV,natCast_mul → aW,le_of_lt → bm,le_refl → bK,mul_comm → bR,emod_eq_of_lt → bV,natCast_emod → bY,natCast_ediv → bZ,toNat_natCast → eM,emod_nonneg → eU,add_mul_emod_self_left → fa,mul_ediv_add_emod → fy,pow_add → fD,mul_add → fF,emod_lt_of_pos → fR,lt_trichotomy → fZ,ediv_nonneg → iw,mul_le_mul → iz,add_comm → lf,pow_pos → lD,one_mul → lE
open Option.some renaming injEq → aj,inj → aA
open Go.Sem renaming run_bind → ak,run_pure → aH
open Go.Result renaming andThen_ok → ao,ok → lk
open Go.Region renaming wanted → aq,ready → aB,binds → aG,Mode → aZ,waitsFor → bz,chainB → e8,sinkB → fc,waitsFor_spec → fg,seqB → iA
open Go.Shelf renaming Ren → au
open Nat renaming le_refl → av,lt_or_ge → ax,mul_comm → aC,add_mul → aF,min_eq_left → aT,div_add_mod → aU,div_lt_iff_lt_mul → aX,beq → aY,mul_le_mul_right → bc,zero_add → bC,mod_eq_of_lt → bJ,div_mul_le_self → bO,zero_le → bT,sub_self → ei,mod_lt → eH,add_right_comm → eI,le_trans → eK,pow_add → eO,two_pow_pos → eT,two_pow_add_eq_or_of_lt → eW,mul_lt_mul_of_pos_right → eX,add_zero → fh,mul_div_mul_right → fp,le_of_ble_eq_true → fq,mul_le_mul_left → fI,mul_right_comm → fN,lt_of_lt_of_le → fO,eq_zero_or_pos → fP,lt_trichotomy → fV,strongRecOn → iq,testBit_or → ix,mul_le_mul → iy,mul_assoc → iF,sub_zero → iX,ble → iY,one_mul → lB,mul_add → lC
open Go.Builtin renaming zeroCells → aE,append_ → bX,lenOf → eV,firstCells → fk,len_ → im
open Go.Value renaming int → aL
open Go.Oper renaming upon → aM,wp → bQ,apart_spec → eR
open Go.Instr renaming sureAddr → aO,loadAt → bN,fill → ee,buildSlice → fT,makeSlice → ic,slice → iW
open BitVec renaming ofInt → aQ,toNat_ofInt → fB,toNat_and → fM
open Option renaming map_some → aR
open Go.RowKit.Below renaming setCell → aS,heap_alloc → eN,heap_setCell → fG
open Go.Exit renaming inBlock → bj
open Go.Act renaming put_comm → bD,eval → fH,put → ig
open Bool renaming and_eq_true → bI,false_or → iE
open Go.IntKind renaming bits → bL,signed → fS,wrap → il
open Go.IntWalk renaming i64_in → ep
open Go.Extern.MathBitsCarry renaming m64 → er,three → fK,pair → fL
open Go.World renaming cell? → eu,setCell → eC,frozen? → fb
open Go.Calls renaming mono → eD
open List.Sublist renaming refl → e9
open Ne renaming symm → fm
open Go.Code renaming region → fz
open Go.Addr renaming add → fA
open Go.Ending renaming returned → fU
open Go.Rows renaming mono → hJ
open Go.Proofs.Builder renaming Extra → ia
open Go.Op renaming intBits → ib,shift → iU
open Go.Proofs.LaysM renaming n284 → iB,n171 → iC
open Go.Proofs.Lays renaming n99 → iG,n285 → iH,n283 → iI,n264 → iJ,n172 → iK,n169 → iL,n145 → iM,n134 → iN,n129 → iO,n125 → iP,n122 → iQ,n105 → iR,n103 → iS,n101 → iT
open Go.Next renaming value → lF
def I{α:Sort _}{a:α}:a=a:=.refl a
def O{p:Prop}(h:p:=by omega):p:=h
def wm{p:Prop}(h:p:=by kernel_rfl):p:=h
def wk{p q:Prop}(h:p)(k:p→q:=by intro;omega):q:=k h
def wu{p:Prop}(h:p:=by decide):p:=h
def wv{p:Prop}(h:p:=by decide +kernel):p:=h
def wy{p:Prop}(h:p:=by rfl):p:=h
def wz{p:Prop}(h:p:=by simp):p:=h
def w6{p:Prop}(h:p:=by simp;omega):p:=h
def w8{α:Sort _}{G:α→Prop}(a:α)(_:G a):True:=trivial
def w9{α:Sort _}{G:α→Prop}(a:α)(h:G a):G a:=h
def tA{α:Sort _}{G H:α→Prop}(a:α)(h:G a∧H a):G a:=h.1
def tB{α:Sort _}{G H:α→Prop}(a:α)(h:G a∧H a):H a:=h.2
def tC{α:Type _}{l:List α}:bP l l:=.refl l
def tD{α:Type _}{l:List α}:bP [] l:=bW l
def tE{α:Type _}{a:α}{l:List α}:bP [a] (a::l):=.cons_cons _ (bW _)
def tF{α:Type _}{a b:α}{l:List α}:bP [a,b] (a::b::l):=.cons_cons _ (.cons_cons _ (bW _))
def tG{α:Type _}{a b c:α}{l:List α}:bP [a,b,c] (a::b::c::l):=.cons_cons _ (.cons_cons _ (.cons_cons _ (bW _)))
def tH{α:Type _}{a b:α}(h:a=b:=by kernel_rfl):some a=some b:=congrArg some h
namespace Go.Proofs.YtpmehagnedbkhaaGreatDoor
variable{w w' w0:World}{E N b bytes i k n off:Nat}{a:Act}{c cs l l' news z:List Value}{o:Obj}{u v1 v3 v4 v5 x2 x3 x4 x5 x6 x7 x8:Value}{A0 A1 A2 A3 A4 A5 A6 A7 A8 A9 α γ ι:Type}{T T' t yT:TypeId}{ops:Array Oper}{Q Q':Exit->Act->World->Prop}{tl:List Oper}{K:Act->World->Prop}{g:Bool}{x y:Operand}{bs bs' bs0 ob:List (Nat×Obj)}{fr:Nat×Nat}{P:Program}{f:Obj->List (Nat×Obj)}{fn:Func}{aft:Array Edge}{gd:Option (Nat×Bool)}{x1:Nat×Obj}{ps:List (Nat×Value)}{s:ByteArray}{pl:List (Nat×Nat)}{ds:List Int}{h:Int}
open Go.RowKit
structure MF(α:Type) where
 val:α->Value
 ty:TypeId
instance{α:Type}:CoeFun (MF α) (λ_=>α->Value):=⟨MF.val⟩
def Jl:MF Int:=⟨λx=>.int .u64 x,289⟩
def VZ(w:World)(b:Nat)(E:TypeId):Prop:=∃c fr,w.heap[b]?=some (.cells c E fr)
theorem VZ.lt(h:VZ w b E):b<w.heap.size:=by
 obtain⟨c,fr,h⟩:=h;rcases ax b w.heap.size with g | g
 ·exact g
 rw[ae g]at h;cases h
theorem VZ.uniq{E':Nat}(h:VZ w b E)(h':VZ w b E'):E=E':=by
 obtain⟨c,fr,h⟩:=h;obtain⟨c',fr',h'⟩:=h';rw[h]at h';cases h';rfl
def Row{α:Type}[Inhabited α](w:World)(b off:Nat)(enc:MF α)(l:List α):Prop:=∀i,i<l.length->w.cell? ⟨b,off+i,none⟩=some (enc (l.getD i default))
abbrev Ext(w w':World):Prop:=Below w.heap.size w w'
def Ext.refl(w:World):Ext w w:=Below.refl _ _
def Ext.trans{a b c:World}(h:Ext a b)(k:Ext b c):Ext a c:=Below.trans h (Below.mono k h.size)
def Ext.QBI{a:World}(h:Ext a w)(h1:w'.os=w.os)(h2:w'.tape=w.tape)(h3:w'.output=w.output)(h4:w.heap.size<=w'.heap.size)(h5:∀i,i<a.heap.size->w'.heap[i]?=w.heap[i]?):Ext a w' :=
 ⟨h1.trans h.os,h2.trans h.tape,h3.trans h.output,eK h.size h4,λi hi=>(h5 i hi).trans (h.block i hi)⟩
def Ext.alloc{a:World}(h:Ext a w)(o:Obj):Ext a (w.alloc o):=Below.alloc h h.size o
def Ext.drew{a:World}(h:Ext a w):Ext a w.drew:=Below.drew h
def Ext.drewN{a:World}(h:Ext a w)(n:Nat):Ext a (w.drewN n):=⟨h.os,h.tape,h.output,h.size,h.block⟩
def Ext.cell(h:Ext w w'){p:Addr}{v:Value}(hv:w.cell? p=some v):w'.cell? p=some v:=by
 rw[Below.cell h (World.block_lt_of_cell? w p hv)];exact hv
def Ext.X5{a:World}(h:Ext a w){p:Addr}(hp:a.heap.size<=p.block)(u:Value):Ext a (w.setCell p u):=aS h hp u
theorem VZ.ext(h:VZ w b E)(k:Below w.heap.size w w'):VZ w' b E:=by
 obtain⟨c,fr,e⟩:=id h;exact⟨c,fr,by rw[k.block b h.lt];exact e⟩
def Cells{α:Type}[Inhabited α](w:World)(q:Option Addr)(enc:MF α)(l:List α):Prop :=
 ∀i,i<l.length->∃b off,q=some ⟨b,off,none⟩/\VZ w b enc.ty/\w.cell? ⟨b,off+i,none⟩=some (enc (l.getD i default))
def Xx{o b' o':Nat}{v:Value}(h:b≠b')(hc:w.cell? ⟨b,o,none⟩=some u):(w.setCell ⟨b',o',none⟩ v).cell? ⟨b,o,none⟩=some u:=by
 rw[World.cell?_setCell_other _ _ _ _ (λe=>h (congrArg Addr.block e).symm)];exact hc
def SL{α:Type}[Inhabited α](w:World)(v:Value)(enc:MF α)(l:List α):Prop :=
 ∃q cap,v = .slice q l.length cap/\l.length<=cap/\(cap:Int)<=9223372036854775807/\Cells w q enc l
theorem Cells.ext[Inhabited α]{w w':World}(h:Ext w w'){q:Option Addr}{enc:MF α}{l:List α}(hr:Cells w q enc l):Cells w' q enc l:=by
 intro i hi;obtain⟨b,off,h1,h2,h3⟩:=hr i hi;exact⟨b,off,h1,h2.ext h,h.cell h3⟩
def SL.ext[Inhabited α]{w w':World}(h:Ext w w'){v:Value}{enc:MF α}{l:List α}(hs:SL w v enc l):SL w' v enc l:=by
 obtain⟨q,cap,h1,h2,h3,h4⟩:=hs;exact⟨q,cap,h1,h2,h3,h4.ext h⟩
def SL.nil[Inhabited α](w:World)(enc:MF α):SL w (.slice none 0 0) enc ([]:List α) :=
 ⟨none,0,rfl,av _,wu,λi hi=>by cases hi⟩
theorem Cells.take[Inhabited α]{w:World}{q:Option Addr}{enc:MF α}{l:List α}(hr:Cells w q enc l)(n:Nat):Cells w q enc (l.take n):=by
 intro i hi;have h1:i<l.length:=by rw[ar]at hi;omega
 have h2:i<n:=by rw[ar]at hi;omega
 have e:(l.take n).getD i default=l.getD i default:=by simp[bH,h2]
 rw[e];exact hr i h1
theorem Row.cells[Inhabited α]{w:World}{b off:Nat}{enc:MF α}{l:List α}(hr:Row w b off enc l)(hb:VZ w b enc.ty):Cells w (some ⟨b,off,none⟩) enc l :=
 λi hi=>⟨b,off,rfl,hb,hr i hi⟩
def Y5{α:Type}(w:World)(b:Nat)(E:TypeId)(enc:MF α)(l:List α):Prop:=w.heap[b]?=some (.cells (l.map enc.val).toArray E (0,0))
def Y5.cell[Inhabited α]{w:World}{b E:Nat}{enc:MF α}{l:List α}(h:Y5 w b E enc l){i:Nat}(hi:i<l.length):w.cell? ⟨b,i,none⟩=some (enc (l.getD i default)):=by
 have h':w.heap[b]?=some (.cells (l.map enc.val).toArray E (0,0)):=h;simp[eu,h',hi,bH]
def Y5.frozen{enc:MF α}{l:List α}(h:Y5 w b E enc l)(i:Nat):w.frozen? ⟨b,i,none⟩=false:=by
 have h':w.heap[b]?=some (.cells (l.map enc.val).toArray E (0,0)):=h;simp[fb,h']
theorem Y5.lt{enc:MF α}{l:List α}(h:Y5 w b E enc l):b<w.heap.size:=by
 have h':w.heap[b]?=some (.cells (l.map enc.val).toArray E (0,0)):=h;rcases ax b w.heap.size with g | g
 ·exact g
 rw[ae g]at h';cases h'
def Y5.set{enc:MF α}{l:List α}(h:Y5 w b E enc l)(i:Nat)(x:α):Y5 (w.setCell ⟨b,i,none⟩ (enc x)) b E enc (l.set i x):=by
 have h':w.heap[b]?=some (.cells (l.map enc.val).toArray E (0,0)):=h;have hs:(l.set i x).map enc.val=(l.map enc.val).set i (enc x):=List.map_set;unfold Y5 eC;simp[bF,h',hs]
def Y5.ext{enc:MF α}{l:List α}(h:Y5 w b E enc l)(k:Ext w w'):Y5 w' b E enc l:=by
 have:=k.block b h.lt;unfold Y5;rw[this];exact h
theorem Y5.row[Inhabited α]{w:World}{b E:Nat}{enc:MF α}{l:List α}(h:Y5 w b E enc l):Row w b 0 enc l:=by
 intro i hi;rw[bC];exact h.cell hi
def Y5.new(w:World)(E:Nat)(enc:MF α)(l:List α)(c:Array Value)(hc:c=(l.map enc.val).toArray):Y5 (w.alloc (.cells c E)) w.heap.size E enc l:=by
 subst hc;show(w.heap.push _)[w.heap.size]?=_;simp
def Y5.QHX(w:World)(b E:Nat)(enc:MF α)(l:List α)(c:Array Value)(hc:c=(l.map enc.val).toArray)(hb:b=w.heap.size):Y5 (w.alloc (.cells c E)) b E enc l:=by
 subst hb;exact Y5.new w E enc l c hc
def Y5.drew{enc:MF α}{l:List α}(h:Y5 w b E enc l):Y5 w.drew b E enc l:=h
theorem Y5.made(w:World)(E:Nat)(enc:MF α)(x:α)(n:Nat)(z:Value)(hz:z=enc x):Y5 (w.alloc (.cells (madeCells #[z] n) E)) w.heap.size E enc (ai n x):=by
 refine Y5.new w E enc _ _ ?_;subst hz;apply lG
 ·simp[madeCells]
 intro i h1 h2;simp[madeCells,Nat.mod_one]
def Y5.Rg{enc:MF α}{l:List α}(h:Y5 w b E enc l):VZ w b E:=⟨_,_,h⟩
def SL.BP[Inhabited α]{w:World}{b:Nat}{enc:MF α}{l:List α}(h:Y5 w b enc.ty enc l)(n:Nat)(hn:n<=l.length)(hm:(l.length:Int)<=9223372036854775807):
  SL w (.slice (some ⟨b,0,none⟩) n l.length) enc (l.take n) :=
 ⟨_,l.length,by rw[ar,aT hn],by rw[ar];omega,hm,(h.row.cells h.Rg).take n⟩
def Bx(w:World)(b:Nat)(T:TypeId)(cs:List Value):Prop:=w.heap[b]?=some (.cells cs.toArray T (0,0))
def Bx.new(w:World)(T:TypeId)(c:Array Value):Bx (w.alloc (.cells c T)) w.heap.size T c.toList:=by
 show(w.heap.push _)[w.heap.size]?=_;simp
theorem Bx.lt{T:Nat}(h:Bx w b T cs):b<w.heap.size:=by
 have h':w.heap[b]?=some (.cells cs.toArray T (0,0)):=h;rcases ax b w.heap.size with g | g
 ·exact g
 rw[ae g]at h';cases h'
def Bx.ext{T:Nat}(h:Bx w b T cs)(k:Ext w w'):Bx w' b T cs:=by
 unfold Bx;rw[k.block b h.lt];exact h
def Bx.alloc{T:Nat}(h:Bx w b T cs)(o:Obj):Bx (w.alloc o) b T cs:=h.ext ((Ext.refl w).alloc o)
def Bx.drew{T:Nat}(h:Bx w b T cs):Bx w.drew b T cs:=h
def Bx.at{T:Nat}(h:Bx w b T cs)(i:Nat)(c:Value)(hi:cs[i]?=some c):w.cell? ⟨b,i,none⟩=some c:=by
 have h':w.heap[b]?=some (.cells cs.toArray T (0,0)):=h;simp[eu,h',hi]
def Bx.free{T:Nat}(h:Bx w b T cs)(i:Nat):w.frozen? ⟨b,i,none⟩=false:=by
 have h':w.heap[b]?=some (.cells cs.toArray T (0,0)):=h;simp[fb,h']
def Bx.two{T:Nat}{c0 c1:Value}(h:Bx w b T [c0,c1]):w.cell? ⟨b,0,none⟩=some c0/\w.cell? ⟨b,1,none⟩=some c1/\w.frozen? ⟨b,0,none⟩=false/\w.frozen? ⟨b,1,none⟩=false :=
 ⟨h.at 0 c0 rfl,h.at 1 c1 rfl,h.free 0,h.free 1⟩
def Bx.Rg{T:Nat}(h:Bx w b T cs):VZ w b T:=⟨_,_,h⟩
def DT(E:TypeId):Prop:=E=289\/E=3
instance(E:TypeId):Decidable (DT E):=by unfold DT;infer_instance
structure Kp(w w':World):Prop where
 size:w.heap.size<=w'.heap.size
 block:∀b E,VZ w b E->DT E->w'.heap[b]?=w.heap[b]?
def Kp.refl(w:World):Kp w w:=⟨av _,λ_ _ _ _=>rfl⟩
theorem Kp.trans{a b c:World}(h:Kp a b)(k:Kp b c):Kp a c :=
 ⟨eK h.size k.size,λi E hi hE=>by
  have e:=h.block i E hi hE;have hi':VZ b i E:=by obtain⟨x,fr,hx⟩:=hi;exact⟨x,fr,by rw[e];exact hx⟩
  exact(k.block i E hi' hE).trans e⟩
theorem Kp.set{a:World}(h:Kp a w){R T:Nat}(hT:VZ w R T)(hD:¬DT T)(i:Nat)(v:Value):Kp a (w.setCell ⟨R,i,none⟩ v) :=
 h.trans ⟨by simp[eC],λb E hb hE=>fG _ _ _ _ (by rintro rfl;exact hD ((hb.uniq hT) ▸ hE))⟩
theorem VZ.set{T:Nat}(h:VZ w b T)(R i:Nat)(v:Value):VZ (w.setCell ⟨R,i,none⟩ v) b T:=by
 obtain⟨c,fr,h⟩:=h;by_cases e:b=R
 ·subst e;exact⟨_,_,by unfold eC;simp[bF,h];exact⟨rfl,rfl⟩⟩
 exact⟨c,fr,by rw[fG _ _ _ _ e];exact h⟩
theorem VZ.kp(h:VZ w b E)(k:Kp w w')(hE:DT E):VZ w' b E:=by
 obtain⟨c,fr,e⟩:=id h;exact⟨c,fr,by rw[k.block b E h hE];exact e⟩
theorem Cells.kp[Inhabited α]{w w':World}(k:Kp w w'){q:Option Addr}{enc:MF α}(hE:DT enc.ty){l:List α}(hr:Cells w q enc l):Cells w' q enc l:=by
 intro i hi;obtain⟨b,off,h1,h2,h3⟩:=hr i hi;exact⟨b,off,h1,h2.kp k hE,by rw[World.cell?_of_block (w:=w) (k.block b _ h2 hE)];exact h3⟩
open Go
section
variable{P:Program}{md:aZ}
def WZ(md:aZ)(ops:Array Oper)(n:Nat):Bool :=
 (eY n).all λi=>match ops[i]? with
  |some o=>o.after.all λe=>!Region.binds md e||decide (e.on<i)
  |none=>false
def ZC(h:WZ md ops n=true){i:Nat}(hi:i<n):∃o,ops[i]?=some o/\∀e∈o.after,aG md e=true->e.on<i:=by
 have h1:=List.all_eq_true.1 h i (List.mem_range.2 hi);cases ho:ops[i]? with
 |none=>rw[ho]at h1;cases h1
 |some o =>
  rw[ho]at h1;refine⟨o,rfl,λe he hb=>?_⟩;have h2:=Array.all_eq_true_iff_forall_mem.1 h1 e he;simpa[hb]using h2
def VS(n m:Nat):Array Bool:=(fl m).map λi=>decide (i<n)
theorem IB{m:Nat}{listed:Array Bool}(hs:listed.size=m)(h1:∀i,i<n->i<m->listed.getD i false=true)(h2:∀i,n<=i->i<m->listed.getD i false=false):listed=VS n m:=by
 apply lG
 ·simp[VS,hs]
 intro i hi hj;have him:i<m:=O;by_cases h:i<n
 ·have:=h1 i h him;simp[hi]at this;simp[VS,h,this]
 have:=h2 i O him;simp[hi]at this;simp[VS,h,this]
def Ar(P:Program)(ops:Array Oper)(Q:Exit->Act->World->Prop)(tl:List Oper):Exit->Act->World->Prop
 |.normal,a,w=>wpList P ops Q tl a w
 |e,a,w=>Q e a w
theorem Aa{o:Oper}{K':Act->World->Prop}(h:∀a w,K a w->K' a w)
  (hh:o.wp P a w K (Ar P ops Q tl)):o.wp P a w K' Q:=by
 unfold bQ at *
 generalize (execOp a.eval o).run P w=r at *
 cases r with
 |ok n w' =>
  cases n<;>simp only[aM]at hh ⊢ <;>
   first
    |exact h _ _ hh
    |exact eD hh λe w'' he=>by cases e<;>first | exact h _ _ he | exact he
    |exact hJ hh λ_ _ he=>h _ _ he
 |halt x w'=>cases x<;>simp only[aM]at hh ⊢<;>exact hh
def Ef{l:List Oper}(hi:i<n):(l.take n).toArray[i]?=l.toArray[i]?:=by
 simp[hi]
theorem RJ{l:List Oper}{lh la:Array Bool}(hn:n<l.length)(hs:fc md l.toArray n=true)(hc:e8 md l.toArray n=true)(ho:WZ md l.toArray n=true)
  (inv:HeadInv md l.toArray n la) (hsz:lh.size=n) (hrel:∀i,i<n->la.getD i true=lh.getD i true) {k:Nat} (hk:k<n) (hun:lh.getD k true=false) :
  (∀i,i∈aB md l.toArray la↔i∈aB md (l.take n).toArray lh)/\aB md (l.take n).toArray lh≠[]:=by
 have hrel2:∀i,i<n->la.getD i false=lh.getD i false:=by
  intro i hi;have h:=hrel i hi;have h1:i<la.size:=by rw[inv.size];simp;omega
  have h2:i<lh.size:=O;simp[h1,h2]at h ⊢;exact h
 have hhead:∀i,i<n->(i∈aB md l.toArray la↔i∈aB md (l.take n).toArray lh):=by
  intro i hi;rw[mem_ready,mem_ready,hrel i hi,Ef hi];refine and_congr_right λ_=>exists_congr λo=>and_congr_right λhoi=>?_;obtain⟨o',ho',hed⟩:=ZC ho hi;have:o'=o:=aA (ho'.symm.trans hoi);subst this;refine forall_congr' λe=>forall_congr' λhe=>forall_congr' λhb=>?_;rw[hrel2 e.on (wk<|hed e he hb)]
 have hex:∃i,i<n/\lh.getD i true=false/\∀j,j<i->lh.getD j true=true:=by
  clear hhead hrel hrel2
  induction k using iq with
  |_ k ih =>
   by_cases h:∃j,j<k/\lh.getD j true=false
   ·obtain⟨j,hj,hj2⟩:=h;exact ih j hj O hj2
   exact⟨k,hk,hun,λj hj=>by
    cases hv:lh.getD j true with
    |true=>rfl
    |false=>exact absurd ⟨j,hj,hv⟩ h⟩
 refine⟨λi=>?_,?_⟩
 ·by_cases hi:i<n
  ·exact hhead i hi
  constructor
  ·intro h;exact absurd h (tail_waits hs hc (by simpa using hn) inv _ k rfl hk (by rw[hrel k hk];exact hun) i O)
  intro h;obtain⟨_,o,ho',_⟩:=mem_ready.1 h;have:=(Array.getElem?_eq_some_iff.1 ho').1;simp at this;omega
 obtain⟨i,hi,h1,h2⟩:=hex;intro hnil;have:i∈aB md (l.take n).toArray lh:=by
  rw[mem_ready];obtain⟨o',ho',hed⟩:=ZC ho hi;refine⟨h1,o',by rw[Ef hi];exact ho',λe he hb=>?_⟩;have h3:=h2 e.on (hed e he hb);have h4:e.on<lh.size:=wk<|hed e he hb
  simp[h4]at h3 ⊢;exact h3
 rw[hnil]at this;cases this
theorem Pv:∀(f:Nat) (listed:Array Bool) (a:Act) (w:World),wpAny P md ops Q f listed a w->wpAny P md ops Q (f+1) listed a w
 |0,listed,a,w,h=>⟨λ_=>h.2,λi hi=>(by rw[h.1]at hi;cases hi)⟩
 |f+1,listed,a,w,h=>⟨h.1,λi hi=>wpOp_mono (λa' w' h'=>Pv f _ a' w' h') (h.2 i hi)⟩
def Ae(f:Nat)(listed:Array Bool)(a:Act)(w:World)(g:Nat)(h:wpAny P md ops Q g listed a w):wpAny P md ops Q (f+g) listed a w:=by
 induction f with
 |zero=>rw[bC];exact h
 |succ f ih=>rw[show f+1+g=(f+g)+1 by omega];exact Pv _ _ _ _ ih
theorem Si(h:LetsOut (Ar P ops Q tl)):LetsOut Q:=by
 obtain⟨a,w,h⟩:=h;exact⟨a,w,h⟩
def Us(ops:Array Oper)(n:Nat):Bool :=
 (eY n).all λi=>match ops[i]? with
  |some o=>(match o.guard with | none=>true | some (g,_)=>decide (g<n))
  |none=>false
def UB{l:List Oper}{g:Nat}(hg:g<n)(t:Array Value):yielded (l.take n).toArray t g=yielded l.toArray t g:=by
 unfold yielded;rw[Ef hg]
theorem qF{l:List Oper}(hi:i<n)(hgd:Us l.toArray n=true)
  (h:wpOp P (l.take n).toArray (Ar P l.toArray Q tl) i K a w):wpOp P l.toArray Q i K a w:=by
 unfold wpOp at *
 rw[Ef hi]at h;cases ho:l.toArray[i]? with
 |none=>simp only[ho]at h ⊢;exact h
 |some o =>
  simp only[ho]at h ⊢;have hw:aq o (yielded (l.take n).toArray a.tmps)=aq o (yielded l.toArray a.tmps):=by
   have h1:=List.all_eq_true.1 hgd i (List.mem_range.2 hi);rw[ho]at h1;unfold aq;cases hg:o.guard with
   |none=>rfl
   |some gw =>
    obtain⟨g,want⟩:=gw;simp only[hg]at h1;simp only[UB (l:=l) (by simpa using h1)]
  rw[hw]at h;split
  ·rename_i hw2;rw[if_pos hw2]at h;rcases h with h | ⟨h1,h2⟩
   ·exact .inl (Aa (λ_ _ h=>h) h)
   exact .inr ⟨h1,Si h2⟩
  rename_i hw2;rw[if_neg hw2]at h;exact h
theorem Ad{l:List Oper}(hn:n<l.length)(hs:fc md l.toArray n=true)(hc:e8 md l.toArray n=true)(ho:WZ md l.toArray n=true)
  (hgd:Us l.toArray n=true) (hseq:iA md l.toArray (l.length-n) n (VS n l.length)=true) :
  ∀(f:Nat) (lh la:Array Bool) (a:Act) (w:World),HeadInv md l.toArray n la->lh.size=n->(∀i,i<n->la.getD i true=lh.getD i true) ->
   wpAny P md (l.take n).toArray (Ar P l.toArray Q (l.drop n)) f lh a w->wpAny P md l.toArray Q (f+(l.length-n)) la a w:=by
 have fin:∀(f:Nat) (lh la:Array Bool) (a:Act) (w:World),HeadInv md l.toArray n la->lh.size=n->(∀i,i<n->la.getD i true=lh.getD i true) ->
   aB md (l.take n).toArray lh=[]->wpList P l.toArray Q (l.drop n) a w->wpAny P md l.toArray Q (f+(l.length-n)) la a w:=by
  intro f lh la a w inv hsz hrel hr h;have hall:∀i,i<n->lh.getD i true=true:=by
   intro i hi;cases hv:lh.getD i true with
   |true=>rfl
   |false=>exact absurd hr (RJ hn hs hc ho inv hsz hrel hi hv).2
  have hla:la=VS n l.length:=by
   refine IB (by simpa using inv.size) (λi hi hi2=>?_) λi hi hi2=>?_
   ·have h1:=(hrel i hi).trans (hall i hi);have h2:i<la.size:=by rw[inv.size];simpa using hi2
    simp[h2]at h1 ⊢;exact h1
   exact getD_both (inv.tail i hi (by simpa using hi2))
  subst hla;refine Ae f _ _ _ _ ?_;have:=wpAny_of_seq (P:=P) (Q':=Q) (l.drop n) n (VS n l.length) a w (λj=>by simp[eG]) (by simpa using hseq) h;simpa using this
 intro f
 induction f with
 |zero=>intro lh la a w inv hsz hrel h;exact fin 0 lh la a w inv hsz hrel h.1 h.2
 |succ f ih =>
  intro lh la a w inv hsz hrel h;by_cases hr:aB md (l.take n).toArray lh=[]
  ·exact fin (f+1) lh la a w inv hsz hrel hr (h.1 hr)
  obtain⟨k,hk⟩:=List.exists_mem_of_ne_nil _ hr;have hk2:=(mem_ready.1 hk);have hkn:k<n:=by
   obtain⟨_,o,ho',_⟩:=hk2;have:=(Array.getElem?_eq_some_iff.1 ho').1;simp at this;omega
  have hiff:=(RJ hn hs hc ho inv hsz hrel hkn hk2.1).1;rw[show f+1+(l.length-n)=(f+(l.length-n))+1 by omega];refine⟨λh0=>absurd ((hiff k).2 hk) (by rw[h0];simp),λi hi=>?_⟩;have hi':=(hiff i).1 hi;have hin:i<n:=by
   obtain⟨_,o,ho',_⟩:=mem_ready.1 hi';have:=(Array.getElem?_eq_some_iff.1 ho').1;simp at this;omega
  have h2:=qF hin hgd (h.2 i hi');refine wpOp_mono (λa' w' h3=>ih _ _ a' w' (inv.set hi hin) (by simpa using hsz) (λj hj=>?_) h3) h2;by_cases hij:i=j
  ·subst hij;have h1:i<la.size:=by rw[inv.size];simp;omega
   have h2:i<lh.size:=O;simp[h1,h2]
  rw[getD_set_ne true hij,getD_set_ne true hij];exact hrel j hj
def RE(l:List Oper)(n:Nat):Bool :=
 decide (n<l.length)&&fc .any l.toArray n&&e8 .any l.toArray n&&WZ .any l.toArray n&&Us l.toArray n&&iA .any l.toArray (l.length-n) n (VS n l.length)
theorem Nc{id:Nat}{l:List Oper}(n:Nat)(hm:P.follows .mixedOrders=true)(hB:RE l n=true)
  (h:wpAny P .any (l.take n).toArray (Ar P l.toArray Q (l.drop n)) n (bM n false) a { w with drawn:=w.drawn+1 }):(fz id l.toArray true).wp P Q a w:=by
 simp only[RE,bI,decide_eq_true_eq]at hB;obtain⟨⟨⟨⟨⟨hn,hs⟩,hc⟩,ho⟩,hg⟩,hseq⟩:=hB;refine wp_region_any hm ?_;have QCI:HeadInv .any l.toArray n (bM l.toArray.size false) :=
  ⟨wz,λj oj _ hl=>(by rw[getD_replicate_false]at hl;cases hl),λt _ ht=>getD_in (by simpa using ht) (getD_replicate_false _ _)⟩
 have:=Ad (P:=P) (md:=.any) (Q:=Q) hn hs hc ho hg hseq n (bM n false) (bM l.toArray.size false) a { w with drawn:=w.drawn+1 } QCI wz
  (λi hi=>by
   have h1:i<l.length:=O;simp[hi,h1]) h
 rw[show n+(l.length-n)=l.toArray.size by simp;omega]at this;exact this
def Jy:Op->Bool
 |.move _ | .assign _ | .pick .. | .nilCheck _ | .binOp .. | .unOp .. | .convert .. | .fieldAddr .. | .field .. | .indexAddr .. | .index .. | .extract .. | .slice .. | .build .. | .load .. | .makeFunc .. | .lookup ..=>true
 |.call { callee:=.builtin b,.. }=>match b with | .len | .cap | .min | .max=>true | _=>false
 |_=>false
section
variable{ops:Array Oper}{Q:Exit->Act->World->Prop}{S:World->Prop}
def Sh(P:Program)(ops:Array Oper)(Q:Exit->Act->World->Prop)(S:World->Prop):List Nat->Act->World->Prop
  | [],a,w=>Q .normal a w
  | i::r,a,w=>∃o,ops[i]?=some o /\
      ((Jy o.op=true/\∃v,YieldsIf P ops S o v a/\Sh P ops Q S r (a.put o.dst v) w) \/
       (Jy o.op=false/\wpOp P ops (λ_ _ _=>False) i (λa' w'=>S w'/\Sh P ops Q S r a' w') a w))
theorem dL{o:Oper}(hi:ops[i]?=some o)(h:wpOp P ops (λ_ _ _=>False) i K a w):
  ∃u w' d,K ({ a with defers:=d }.put o.dst u) w':=by
 unfold wpOp at h;simp only[hi]at h;split at h
 ·rcases h with h | ⟨_,_,_,h⟩
  ·unfold bQ at h;generalize (execOp a.eval o).run P w=r at *
   cases r with
   |ok n w' =>
    cases n<;>simp only[aM]at h
    case value u=>exact⟨u,w',a.defers,h⟩
    case skip=>exact⟨undef,w',a.defers,h⟩
    case defer d=>exact⟨undef,w',d::a.defers,h⟩
    case enter f args =>
     obtain⟨e,w'',fr,hR,_⟩:=h [];cases e with
     |returned u=>exact⟨u,w'',a.defers,hR⟩
     |panicked c=>exact hR.elim
     |outgrown=>obtain⟨_,_,h⟩:=hR;exact h.elim
    case row row args =>
     obtain⟨u,w'',hR,_⟩:=h default [];exact⟨u,w'',a.defers,hR⟩
    all_goals exact h.elim
   |halt x w'=>cases x<;>simp only[aM]at h<;>exact h.elim
  exact h.elim
 exact⟨undef,w,a.defers,h⟩
theorem Ab{j:Nat}{oi oj:Oper}{v:Value}(hj:ops[j]?=some oj)(hap:oi.apart ops oj=true)(hsj:∀cs b,oj.op≠.select cs b)
  {K:Act->World->Prop} {a:Act} {w:World} (h:wpOp P ops (λ_ _ _=>False) j (λa' w'=>K (a'.put oi.dst v) w') a w) :
  wpOp P ops (λ_ _ _=>False) j K (a.put oi.dst v) w:=by
 obtain⟨h1,h2,h3⟩:=eR hap;unfold wpOp at *
 simp only[hj]at *
 rw[wanted_put oj a oi.dst v h1];split
 ·rename_i hw;simp only[hw,if_true]at h;rcases h with h | ⟨hasks,hlets⟩
  case inr=>exact .inr ⟨by unfold Oper.asks at *;rw[execOp_put oj hsj a oi.dst v h1];exact hasks,hlets⟩
  refine .inl ?_;unfold bQ at *
  rw[execOp_put oj hsj a oi.dst v h1];generalize (execOp a.eval oj).run P w=r at *
  cases r with
  |ok n w' =>
   cases n<;>simp only[aM]at h ⊢
   case value u=>rw[bD a v u h2];exact h
   case skip=>rw[bD a v undef h2];exact h
   case defer d=>rw[Act.put_defers,bD _ v undef h2];exact h
   case enter f args =>
    refine eD h λe w'' he=>?_;cases e with
    |returned u=>show K _ _;rw[bD a v u h2];exact he
    |panicked c=>exact he
    |outgrown=>exact he
   case row row args=>exact hJ h λu w'' he=>(by rw[bD a v u h2];exact he)
  |halt x w'=>cases x<;>simp only[aM]at h ⊢
 rename_i hw;simp only[hw]at h;rw[bD a v undef h2];exact h
def YieldsIf.uniq{o:Oper}{v v':Value}(hS:S w)(h:YieldsIf P ops S o v a)(h':YieldsIf P ops S o v' a):v=v':=by
 rcases h with ⟨h1,h2⟩ | ⟨h1,h2⟩<;>rcases h' with ⟨g1,g2⟩ | ⟨g1,g2⟩
 ·have:=(h2 w hS).symm.trans (g2 w hS);simpa using this
 ·rw[h1]at g1;cases g1
 ·rw[h1]at g1;cases g1
 rw[h2,g2]
def SB{x y:Oper}(h:x.apart ops y=true):y.apart ops x=true:=by
 obtain⟨h1,h2,h3⟩:=eR h;unfold Oper.apart;cases hx:x.dst with
 |none=>cases hy:y.dst with
  |none=>rfl
  |some e=>simpa using h3 e hy
 |some d =>
  have g1:=h1 d hx;have g2:=h2 d hx;cases hy:y.dst with
  |none=>simpa using g1
  |some e =>
   have g3:=h3 e hy;rw[hy]at g2;simp only[ne_eq,aj]at g2;simp[g3,g1];exact λh=>g2 h.symm
theorem Dw{j:Nat}{oj:Oper}{post:List Nat}(hoj:ops[j]?=some oj)(hq:Jy oj.op=true)(hsel:∀(j:Nat) (o:Oper) cs b,ops[j]?=some o->o.op≠.select cs b):
  ∀(pre:List Nat) (a:Act) (w:World),(∀k∈pre,∀ok,ops[k]?=some ok->oj.apart ops ok=true)->Sh P ops Q S (pre++j::post) a w ->
   ∃v,YieldsIf P ops S oj v a/\Sh P ops Q S (pre++post) (a.put oj.dst v) w
 |[],a,w,_,h=>by
  obtain⟨o,ho,h⟩:=h;have:o=oj:=aA (ho.symm.trans hoj);subst this;rcases h with ⟨_,v,h1,h2⟩ | ⟨h1,_⟩
  ·exact⟨v,h1,h2⟩
  rw[hq]at h1;cases h1
 |k::pre,a,w,hap,h=>by
  obtain⟨ok,hok,h⟩:=h;have hk:=hap k wz ok hok;obtain⟨p1,p2,p3⟩:=eR hk;rcases h with ⟨hqk,vk,hyk,h⟩ | ⟨hqk,h⟩
  ·obtain⟨v,hy,h⟩:=Dw hoj hq hsel pre _ w (λi hi=>hap i (by simp[hi])) h;have hy':YieldsIf P ops S oj v a:=by
    refine hy.of_same ?_ ?_
    ·exact(execOp_put oj (λcs b=>hsel j oj cs b hoj) a ok.dst vk p3).symm
    exact(wanted_put oj a ok.dst vk p3).symm
   refine⟨v,hy',ok,hok,.inl ⟨hqk,vk,?_,?_⟩⟩
   ·refine hyk.of_same ?_ ?_
    ·exact execOp_put ok (λcs b=>hsel k ok cs b hok) a oj.dst v p1
    exact wanted_put ok a oj.dst v p1
   rw[bD a v vk p2];exact h
  have h2:=wpOp_mono (λa' w' (h:S w'/\Sh P ops Q S (pre++j::post) a' w')=>(⟨h.1,Dw hoj hq hsel pre a' w' (λi hi=>hap i (by simp[hi])) h.2⟩ :
   S w'/\∃v,YieldsIf P ops S oj v a'/\Sh P ops Q S (pre++post) (a'.put oj.dst v) w')) h
  obtain⟨u,w1,d,hS1,v0,hy0,_⟩:=dL hok h2;have back:∀(d:List Deferred) (u v:Value),YieldsIf P ops S oj v ({ a with defers:=d }.put ok.dst u)->YieldsIf P ops S oj v a:=λd u v hy=>by
   refine hy.of_same ?_ ?_
   ·rw[execOp_put oj (λcs b=>hsel j oj cs b hoj) _ ok.dst u p3];rfl
   rw[wanted_put oj _ ok.dst u p3]
  have hya:=back d u v0 hy0;refine⟨v0,hya,ok,hok,.inr ⟨hqk,?_⟩⟩;refine Ab hok hk (λcs b=>hsel k ok cs b hok) ?_;have h3:wpOp P ops (λ_ _ _=>False) k (λa' w'=>(YieldsIf P ops S oj v0 a')/\(S w'/\∃v,YieldsIf P ops S oj v a'/\Sh P ops Q S (pre++post) (a'.put oj.dst v) w')) a w:=by
   have keep:∀(u:Value),YieldsIf P ops S oj v0 (a.put ok.dst u):=λu=>by
    refine hya.of_same ?_ ?_
    ·exact execOp_put oj (λcs b=>hsel j oj cs b hoj) a ok.dst u p3
    exact wanted_put oj a ok.dst u p3
   have keepd:∀(d:Deferred) (u:Value),YieldsIf P ops S oj v0 ({ a with defers:=d::a.defers }.put ok.dst u):=λd u=>by
    refine hya.of_same ?_ ?_
    ·rw[execOp_put oj (λcs b=>hsel j oj cs b hoj) _ ok.dst u p3];rfl
    rw[wanted_put oj _ ok.dst u p3]
   clear h;unfold wpOp at h2 ⊢;simp only[hok]at h2 ⊢;split
   ·rename_i hw;simp only[hw,if_true]at h2;rcases h2 with h2 | h2
    case inr=>exact .inr h2
    refine .inl ?_;unfold bQ at *
    generalize (execOp a.eval ok).run P w=r at *
    cases r with
    |ok n w' =>
     cases n<;>simp only[aM]at h2 ⊢
     case value u=>exact⟨keep u,h2⟩
     case skip=>exact⟨keep _,h2⟩
     case defer d=>exact⟨keepd d _,h2⟩
     case enter f args =>
      refine eD h2 λe w'' he=>?_;cases e with
      |returned u=>exact⟨keep u,he⟩
      |panicked c=>exact he
      |outgrown=>exact he
     case row row args=>exact hJ h2 λu w'' he=>⟨keep u,he⟩
    |halt x w'=>cases x<;>simp only[aM]at h2 ⊢
   rename_i hw;simp only[hw]at h2;exact⟨keep _,h2⟩
  refine wpOp_mono (λa' w' h=>?_) h3;obtain⟨hy,hS,v,hy2,hl⟩:=h;have:v=v0:=YieldsIf.uniq hS hy2 hy;subst this;exact⟨hS,hl⟩
end
section
variable{ops:Array Oper}{Q:Exit->Act->World->Prop}{S:World->Prop}
theorem Ac(h:wpOp P ops (λ_ _ _=>False) i K a w):wpOp P ops Q i K a w:=by
 unfold wpOp at *
 cases ho:ops[i]? with
 |none=>simp only[ho]at h ⊢;exact h
 |some o =>
  simp only[ho]at h ⊢;split
  ·rename_i hw;rw[if_pos hw]at h;rcases h with h | ⟨_,_,_,h⟩
   ·refine .inl ?_;unfold bQ at *
    generalize (execOp a.eval o).run P w=r at *
    cases r with
    |ok n w' =>
     cases n<;>simp only[aM]at h ⊢
     all_goals first
      |exact h
      |exact eD h λe w'' he=>by
        cases e with
        |returned u=>exact he
        |panicked c=>exact he.elim
        |outgrown=>obtain⟨_,_,h⟩:=he;exact h.elim
    |halt x w'=>cases x<;>simp only[aM]at h ⊢
   exact h.elim
  rename_i hw;rw[if_neg hw]at h;exact h
def Du(md:aZ)(acc:List Nat)(o:Oper):Nat:=o.after.foldl (λs e=>if aG md e then s ||| 2^e.on ||| acc.getD e.on 0 else s) 0
def Ra(md:aZ)(ops:List Oper):List Nat:=ops.foldl (λacc o=>acc++[Du md acc o]) []
theorem Rl{md:aZ}{acc:List Nat}:∀(l:List Edge) (s:Nat),(l.foldl (λs e=>if aG md e then s ||| 2^e.on ||| acc.getD e.on 0 else s) s).testBit i=true ->
  s.testBit i=true\/∃e∈l,aG md e=true/\(i=e.on\/(acc.getD e.on 0).testBit i=true)
 |[],s,h=>.inl h
 |e::l,s,h=>by
  rw[eP]at h;rcases Rl l _ h with h | ⟨e',he',h⟩
  ·split at h
   ·rename_i hb;rw[ix,ix,Nat.testBit_two_pow]at h;simp only[Bool.or_eq_true,decide_eq_true_eq]at h;rcases h with (h | h) | h
    ·exact .inl h
    ·exact .inr ⟨e,wz,hb,.inl h.symm⟩
    exact .inr ⟨e,wz,hb,.inr h⟩
   exact .inl h
  exact .inr ⟨e',by simp[he'],h⟩
def Fj{md:aZ}{acc:List Nat}{o:Oper}(h:(Du md acc o).testBit i=true):∃e∈o.after,aG md e=true/\(i=e.on\/(acc.getD e.on 0).testBit i=true):=by
 unfold Du at h;rw[<-eE]at h;rcases Rl _ _ h with h | ⟨e,he,h⟩
 ·simp at h
 exact⟨e,by simpa using he,h⟩
theorem TZ(md:aZ):∀(l:List Oper) (acc:List Nat),∃r,l.foldl (λacc o=>acc++[Du md acc o]) acc=acc++r/\r.length=l.length /\
  ∀k o,l[k]?=some o->r[k]?=some (Du md (acc++r.take k) o)
 |[],acc=>⟨[],wz,rfl,λk o h=>by simp at h⟩
 |o::l,acc=>by
  obtain⟨r,h1,h2,h3⟩:=TZ md l (acc++[Du md acc o]);refine⟨Du md acc o::r,by simp[h1],by simp[h2],λk o' h=>?_⟩;cases k with
  |zero=>simp at h;subst h;simp
  |succ k =>
   simp at h;have:=h3 k o' h;simpa using this
theorem OF{md:aZ}{l:List Oper}{o:Oper}(ho:l[k]?=some o)(hord:∀e∈o.after,aG md e=true->e.on<k)(h:((Ra md l).getD k 0).testBit i=true):
  ∃e∈o.after,aG md e=true/\(i=e.on\/((Ra md l).getD e.on 0).testBit i=true):=by
 obtain⟨r,h1,h2,h3⟩:=TZ md l [];have e1:Ra md l=r:=by unfold Ra;rw[h1];simp
 rw[e1]at h ⊢;have h4:=h3 k o ho;rw[bH,h4]at h;obtain⟨e,he,hb,hi⟩:=Fj h;refine⟨e,he,hb,hi.imp id λhi=>?_⟩;have hlt:=hord e he hb;have hk:k<r.length:=by rcases ax k r.length with g | g;exact g;rw[aJ g]at h4;cases h4
 have e2:([]++r.take k).getD e.on 0=r.getD e.on 0:=by simp[bH,hlt]
 rw[e2]at hi;exact hi
def lexB(md:aZ)(l:List Oper):Bool :=
 let ms:=Ra md l
 Region.noSelect l.toArray&&WZ md l.toArray l.length&&(eY l.length).all λj=>match l[j]? with
  |none=>false
  |some oj=>(eY j).all λi=>match l[i]? with
   |none=>false
   |some oi=>if Jy oi.op||Jy oj.op then(bz md l.toArray j i||oi.apart l.toArray oj)else(ms.getD j 0).testBit i
theorem Ma{l:List Oper}(h:lexB md l=true){i j:Nat}(hij:i<j){oi oj:Oper}(hi:l[i]?=some oi)(hj:l[j]?=some oj):
  if Jy oi.op||Jy oj.op then(bz md l.toArray j i||oi.apart l.toArray oj)=true else((Ra md l).getD j 0).testBit i=true:=by
 simp only[lexB,bI]at h;have hjl:j<l.length:=by rcases ax j l.length with g | g;exact g;rw[aJ g]at hj;cases hj
 have h1:=List.all_eq_true.1 h.2 j (List.mem_range.2 hjl);rw[hj]at h1;have h2:=List.all_eq_true.1 h1 i (List.mem_range.2 hij);rw[hi]at h2;simp only at h2;split
 ·rename_i g;rw[if_pos g]at h2;exact h2
 rename_i g;rw[if_neg g]at h2;exact h2
theorem Fi{l:List Oper}{listed:Array Bool}(hord:WZ md l.toArray l.length=true)(hcl:∀j oj,l.toArray[j]?=some oj->listed.getD j false=true->∀e∈oj.after,aG md e=true->listed.getD e.on false=true):
  ∀(k:Nat) (o:Oper),l[k]?=some o->(∀e∈o.after,aG md e=true->listed.getD e.on false=true)->∀i,((Ra md l).getD k 0).testBit i=true->listed.getD i false=true:=by
 intro k
 induction k using iq with
 |_ k ih =>
  intro o ho hd i hi;have hk:k<l.length:=by rcases ax k l.length with g | g;exact g;rw[aJ g]at ho;cases ho
  obtain⟨o',ho',hed⟩:=ZC hord hk;have:o'=o:=aA (ho'.symm.trans (by simpa using ho));subst this;obtain⟨e,he,hb,h⟩:=OF ho hed hi;have h1:=hd e he hb;rcases h with rfl | h
  ·exact h1
  have hlt:=hed e he hb;obtain⟨oe,hoe,_⟩:=ZC hord (Nat.lt_trans hlt hk);exact ih e.on hlt oe (by simpa using hoe) (hcl e.on oe hoe h1) i h
theorem pX{l:List Oper}(hB:lexB md l=true)(hQ:∀c a d v w,Q (.panic c) (ig a d v) w->Q (.panic c) a w):
  ∀(m:Nat) (r:List Nat) (listed:Array Bool) (a:Act) (w:World),r.length=m->r.Pairwise (·<·)->(∀i,i∈r↔i<l.length/\listed.getD i true=false)->listed.size=l.length ->
   (∀j oj,l.toArray[j]?=some oj->listed.getD j false=true->∀e∈oj.after,aG md e=true->listed.getD e.on false=true)->S w->Sh P l.toArray Q S r a w->wpAnyH P md l.toArray Q S m listed a w:=by
 have hB':=hB;simp only[lexB,bI]at hB';obtain⟨⟨hns,hord⟩,_⟩:=hB';have hsel:=Region.noSelect_spec hns;intro m
 induction m with
 |zero =>
  intro r listed a w hm hs hr hsz hcl hS h;have:r=[]:=List.length_eq_zero_iff.1 hm;subst this;refine⟨?_,h⟩;rw[List.eq_nil_iff_forall_not_mem];intro i hi;obtain⟨h1,o,ho,_⟩:=mem_ready.1 hi;have hlt:i<l.length:=by have:=(Array.getElem?_eq_some_iff.1 ho).1;simpa using this
  have:=(hr i).2 ⟨hlt,h1⟩;cases this
 |succ m ih =>
  intro r listed a w hm hs hr hsz hcl hS h
  match r,hm,hs,hr,h with
  |i::r,hm,hs,hr,h =>
  have hil:=(hr i).1 wz;have hmin:∀j,j<i->listed.getD j false=true:=by
   intro j hj;cases hv:listed.getD j false with
   |true=>rfl
   |false =>
    have hjl:j<l.length:=O;have:=(hr j).2 ⟨hjl,getD_in O hv⟩;rcases List.mem_cons.1 this with e | e
    ·omega
    have:=(List.pairwise_cons.1 hs).1 j e;omega
  obtain⟨oi,hoi,hed⟩:=ZC hord hil.1;have hri:i∈aB md l.toArray listed:=mem_ready.2 ⟨hil.2,oi,hoi,λe he hb=>hmin _ (hed e he hb)⟩;have next:∀j,j∈aB md l.toArray listed->j∈(i::r)->∀a' w',S w'->Sh P l.toArray Q S ((i::r).erase j) a' w'->wpAnyH P md l.toArray Q S m (listed.setIfInBounds j true) a' w':=by
   intro j hj hjr a' w' hS' h';have hjsz:j<listed.size:=by rw[hsz];exact((hr j).1 hjr).1
   refine ih ((i::r).erase j) _ a' w' (by rw[List.length_erase_of_mem hjr];simp at hm ⊢;omega) (hs.sublist List.erase_sublist) (λk=>?_) (by simpa using hsz) (λk ok hk hl e he hb=>?_) hS' h'
   ·rw[List.Nodup.mem_erase_iff (hs.imp λh=>Nat.ne_of_lt h),hr k];by_cases hjk:j=k
    ·subst hjk;simp[hjsz]
    rw[getD_set_ne true hjk];simp[fm hjk]
   by_cases hjk:j=k
   ·subst hjk;obtain⟨_,oj,hoj,hall⟩:=mem_ready.1 hj;have:ok=oj:=aA (hk.symm.trans hoj);subst this;exact getD_set_true (hall e he hb)
   rw[getD_set_ne false hjk]at hl;exact getD_set_true (hcl k ok hk hl e he hb)
  have take:∀j oj,j∈aB md l.toArray listed->l.toArray[j]?=some oj->Jy oj.op=true->j∈(i::r)->wpAnyH P md l.toArray Q S (m+1) listed a w:=by
   intro j oj hj hoj hq hjr;obtain⟨pre,post,hpp⟩:=List.append_of_mem hjr;have hjs:=mem_ready.1 hj;have happ:∀k ok,l.toArray[k]?=some ok->k≠j->listed.getD k true=false->(∀e∈ok.after,aG md e=true->e.on≠j)->oj.apart l.toArray ok=true:=by
    intro k ok hok hkj hun hno;have hnw:bz md l.toArray k j=false:=by
     cases hv:bz md l.toArray k j with
     |false=>rfl
     |true =>
      obtain⟨o',ho',e,he,hb,hon⟩:=fg hv;have:o'=ok:=aA (ho'.symm.trans hok);subst this;exact absurd hon (hno e he hb)
    have hnw2:bz md l.toArray j k=false:=by
     cases hv:bz md l.toArray j k with
     |false=>rfl
     |true =>
      obtain⟨o',ho',e,he,hb,hon⟩:=fg hv;obtain⟨_,o2,ho2,hall⟩:=hjs;have:o'=o2:=aA (ho'.symm.trans ho2);subst this;have:=hall e he hb;rw[hon,getD_both hun]at this;cases this
    rcases Nat.lt_or_gt_of_ne hkj with hlt | hgt
    ·have:=Ma hB hlt (by simpa using hok) (by simpa using hoj);rw[if_pos (by simp[hq]),hnw2]at this;exact SB (by simpa using this)
    have:=Ma hB hgt (by simpa using hoj) (by simpa using hok);rw[if_pos (by simp[hq]),hnw]at this;simpa using this
   have hfront:=Dw (P:=P) (Q:=Q) (S:=S) hoj hq hsel pre a w (post:=post) (λk hk ok hok=>by
    have hkr:k∈(i::r):=by rw[hpp];simp[hk]
    have hkj:k<j:=by
     rw[hpp]at hs;exact(List.pairwise_append.1 hs).2.2 k hk j wz
    refine happ k ok hok O ((hr k).1 hkr).2 (λe he hb heq=>?_);obtain⟨o',ho',hed'⟩:=ZC hord ((hr k).1 hkr).1;have:o'=ok:=aA (ho'.symm.trans hok);subst this;have:=hed' e he hb;omega) (by rw[<-hpp];exact h)
   obtain⟨v,hy,h'⟩:=hfront;have herase:(i::r).erase j=pre++post:=by
    rw[hpp,List.erase_append_right,fu];intro hmem;rw[hpp]at hs;have:=(List.pairwise_append.1 hs).2.2 j hmem j wz;omega
   exact wpAnyH_first hoj hsel (λc a w h=>hQ c a _ v w h) m listed a w happ hj hy hS (next j hj hjr _ w hS (by rw[herase];exact h'))
  by_cases hex:∃j oj,j∈aB md l.toArray listed/\l.toArray[j]?=some oj/\Jy oj.op=true
  ·obtain⟨j,oj,hj,hoj,hq⟩:=hex;have hjl:j<l.length:=by have:=(Array.getElem?_eq_some_iff.1 hoj).1;simpa using this
   exact take j oj hj hoj hq ((hr j).2 ⟨hjl,(mem_ready.1 hj).1⟩)
  have hone:∀j∈aB md l.toArray listed,j=i:=by
   intro j hj;obtain⟨hjun,oj,hoj,hall⟩:=mem_ready.1 hj;have hjl:j<l.length:=by have:=(Array.getElem?_eq_some_iff.1 hoj).1;simpa using this
   have hjr:=(hr j).2 ⟨hjl,hjun⟩;rcases List.mem_cons.1 hjr with e | e
   ·exact e
   have hlt:=(List.pairwise_cons.1 hs).1 j e;have hqj:Jy oj.op=false:=by
    cases hv:Jy oj.op with
    |false=>rfl
    |true=>exact absurd ⟨j,oj,hj,hoj,hv⟩ hex
   have hqi:Jy oi.op=false:=by
    cases hv:Jy oi.op with
    |false=>rfl
    |true=>exact absurd ⟨i,oi,hri,hoi,hv⟩ hex
   have:=Ma hB hlt (by simpa using hoi) (by simpa using hoj);rw[if_neg (by simp[hqi,hqj])]at this;have:=Fi hord hcl j oj (by simpa using hoj) hall i this;rw[getD_both hil.2]at this;cases this
  refine⟨λh0=>(by rw[h0]at hri;cases hri),λj hj=>?_⟩;have:=hone j hj;subst this;obtain⟨o,ho,h⟩:=h;have:o=oi:=aA (ho.symm.trans hoi);subst this;rcases h with ⟨hq,_⟩ | ⟨_,h⟩
  ·exact absurd ⟨j,o,hri,ho,hq⟩ hex
  refine Ac (wpOp_mono (λa' w' h=>⟨h.1,?_⟩) h);exact next j hri wz a' w' h.1 (by rw[fu];exact h.2)
end
section
variable{Q:Exit->Act->World->Prop}{S:World->Prop}
def Fo(P:Program)(ops:Array Oper)(Q:Exit->Act->World->Prop)(S:World->Prop):List Oper->Act->World->Prop
  | [],a,w=>Q .normal a w
  | o::r,a,w =>
      (Jy o.op=true/\∃v,YieldsIf P ops S o v a/\Fo P ops Q S r (a.put o.dst v) w) \/
       (Jy o.op=false/\if aq o (yielded ops a.tmps)then o.wp P a w (λa' w'=>S w'/\Fo P ops Q S r a' w') (λ_ _ _=>False)else S w/\Fo P ops Q S r (a.put o.dst undef) w)
theorem V0:∀(l:List Oper) (k:Nat) (a:Act) (w:World),(∀j,j<l.length->l[j]?=ops[k+j]?)->Fo P ops Q S l a w->Sh P ops Q S (iZ k l.length) a w
 |[],k,a,w,_,h=>h
 |o::l,k,a,w,hl,h=>by
  have h0:ops[k]?=some o:=by simpa using(hl 0 wz).symm
  have hl':∀j,j<l.length->l[j]?=ops[k+1+j]?:=λj hj=>by
   have:=hl (j+1) w6;rw[show k+1+j=k+(j+1) by omega,<-this];simp
  rw[aP,List.range'_succ];refine⟨o,h0,?_⟩;rcases h with ⟨h1,v,h2,h3⟩ | ⟨h1,h2⟩
  ·exact .inl ⟨h1,v,h2,V0 l (k+1) _ w hl' h3⟩
  refine .inr ⟨h1,?_⟩;unfold wpOp;simp only[h0];split
  ·rename_i hw;rw[if_pos hw]at h2;exact .inl (Oper.wp_mono (λa' w' h=>⟨h.1,V0 l (k+1) a' w' hl' h.2⟩) h2)
  rename_i hw;rw[if_neg hw]at h2;exact⟨h2.1,V0 l (k+1) _ w hl' h2.2⟩
theorem DO{l:List Oper}(hB:lexB .any l=true)(hQ:∀c a w,¬Q' (.panic c) a w){a:Act}{w:World}(hS:S w)(h:Fo P l.toArray Q' S l a w):
  wpAny P .any l.toArray Q' l.length (bM l.length false) a w:=by
 refine wpAny_of_held _ _ _ _ (pX hB (λc a d v w h=>absurd h (hQ c _ w)) l.length (iZ 0 l.length) _ a w wz List.pairwise_lt_range' (λi=>?_) wz (λj oj _ hl=>(by rw[getD_replicate_false]at hl;cases hl)) hS (V0 l 0 a w (λj _=>wz) h));rw[List.mem_range'_1];constructor
 ·intro h;have:i<l.length:=O;simp[this]
 intro h;omega
def ZD(K:Act->World->Prop):Exit->Act->World->Prop
 |.normal,a,w=>K a w
 |_,_,_=>False
theorem Oper.xi{o:Oper}{Q:Exit->Act->World->Prop}(hq:∀e a w,Q e a w->Q' e a w)(h:o.wp P a w K Q):o.wp P a w K Q':=by
 unfold bQ at *
 generalize (execOp a.eval o).run P w=r at *
 cases r with
 |ok n w' =>
  cases n<;>simp only[aM]at h ⊢
  all_goals first
   |exact h
   |exact eD h λe w'' he=>by
     cases e with
     |returned u=>exact he
     |panicked c=>exact hq _ _ _ he
     |outgrown=>obtain⟨a,w,h⟩:=he;exact⟨a,w,hq _ _ _ h⟩
 |halt x w'=>cases x<;>simp only[aM]at h ⊢;exact hq _ _ _ h
theorem Lb{Q:Exit->Act->World->Prop}(hq:∀e a w,Q e a w->Q' e a w)(h:wpOp P ops Q i K a w):wpOp P ops Q' i K a w:=by
 unfold wpOp at *
 cases ho:ops[i]? with
 |none=>simp only[ho]at h ⊢;exact h
 |some o =>
  simp only[ho]at h ⊢;split
  ·rename_i hw;rw[if_pos hw]at h;exact h.imp (Oper.xi hq) λ⟨h1,a,w,h2⟩=>⟨h1,a,w,hq _ _ _ h2⟩
  rename_i hw;rw[if_neg hw]at h;exact h
theorem Ws{Q:Exit->Act->World->Prop}(hq:∀e a w,Q e a w->Q' e a w):∀(f:Nat) (listed:Array Bool) (a:Act) (w:World),wpAny P md ops Q f listed a w->wpAny P md ops Q' f listed a w
 |0,_,_,_,h=>⟨h.1,hq _ _ _ h.2⟩
 |f+1,_,_,_,h=>⟨λh0=>hq _ _ _ (h.1 h0),λi hi=>Lb hq (wpOp_mono (λa' w' h'=>Ws hq f _ a' w' h') (h.2 i hi))⟩
theorem SZ{id:Nat}{l:List Oper}(hm:P.follows .mixedOrders=true)(hB:lexB .any l=true)(hS:S { w with drawn:=w.drawn+1 })
  (h:Fo P l.toArray (ZD (Q .normal)) S l a { w with drawn:=w.drawn+1 }):(fz id l.toArray true).wp P Q a w:=by
 refine wp_region_any hm ?_;have:=DO (P:=P) (Q':=ZD (Q .normal)) hB (λc a w h=>h) hS h;simpa using Ws (Q':=Q) (λe a w h=>by cases e<;>first | exact h | exact h.elim) _ _ _ _ this
def DD{id:Nat}{l:List Oper}(n:Nat)(hm:P.follows .mixedOrders=true)(hB:RE l n=true)(hB2:lexB .any (l.take n)=true)(hS:S { w with drawn:=w.drawn+1 })
  (h:Fo P (l.take n).toArray (ZD λa w=>wpList P l.toArray Q (l.drop n) a w) S (l.take n) a { w with drawn:=w.drawn+1 }):(fz id l.toArray true).wp P Q a w:=by
 refine Nc n hm hB ?_;have hn:n<l.length:=by simp only[RE,bI,decide_eq_true_eq]at hB;exact hB.1.1.1.1.1
 have:=DO (P:=P) hB2 (λc a w h=>h) hS h;have e:(l.take n).length=n:=w6;rw[e]at this;exact Ws (λe a w h=>by cases e<;>first | exact h | exact h.elim) _ _ _ _ this
end
end
abbrev Gs:=Nat->Option (Array Value×TypeId)
variable{F F0:Gs}{G:Gs->Prop}
def Gs.le(F F':Gs):Prop:=∀b x,F b=some x->F' b=some x
theorem Gs.le_refl(F:Gs):Gs.le F F:=λ_ _ h=>h
theorem Gs.le_trans{F' F'':Gs}(h:Gs.le F F')(k:Gs.le F' F''):Gs.le F F'':=λb x hx=>k b x (h b x hx)
class Dr where
 on:Prop
instance(priority:=10) QJr:Dr:=⟨False⟩
class Df where
 ds:List Deferred
instance(priority:=10) DX:Df:=⟨[]⟩
structure Sx[Dr](w w':World):Prop extends Below w.heap.size w w' where
 dr:Dr.on->w.drawn<=w'.drawn
section
variable[Dr]
theorem Sx.refl(w:World):Sx w w:=⟨Ext.refl w,λ_=>av _⟩
theorem Sx.trans{a b c:World}(h:Sx a b)(k:Sx b c):Sx a c:=⟨Ext.trans h.toBelow k.toBelow,λd=>eK (h.dr d) (k.dr d)⟩
theorem Sx.alloc{a:World}(h:Sx a w)(o:Obj):Sx a (w.alloc o):=⟨Ext.alloc h.toBelow o,h.dr⟩
theorem Sx.drew{a:World}(h:Sx a w):Sx a w.drew:=⟨Ext.drew h.toBelow,λd=>Nat.le_succ_of_le (h.dr d)⟩
end
def Sx.of(h:Ext w w'):Sx w w':=⟨h,λd=>d.elim⟩
section
variable[Dr][df:Df]
structure Fits(F:Gs)(w:World):Prop where
 row:∀b c T,F b=some (c,T)->∃fr,w.heap[b]?=some (.cells c T fr)
 all:∀b c fr,w.heap[b]?=some (.cells c 289 fr)->F b=some (c,289)
theorem Fits.drew(h:Fits F w):Fits F w.drew:=⟨h.row,h.all⟩
theorem Fits.lt(h:Fits F w){b:Nat}{x:Array Value×TypeId}(hb:F b=some x):b<w.heap.size:=by
 obtain⟨fr,h⟩:=h.row b x.1 x.2 hb;rcases ax b w.heap.size with g | g
 ·exact g
 rw[ae g]at h;cases h
theorem Fits.none(h:Fits F w){b:Nat}(hb:w.heap.size<=b):F b=none:=by
 cases hv:F b with
 |none=>rfl
 |some x=>have:=h.lt hv;omega
abbrev Sl:=List (Nat×Value)
def look:Sl->Nat->Option Value
 |[],_=>none
 |(k,v)::r,t=>bif aY k t then some v else look r t
def upd(m:Sl):Option Tmp->Value->Sl
 |some d,v=>(d,v)::m
 |none,_=>m
def ev(m:Sl):Operand->Option Value
 |.tmp t=>look m t
 |.const v=>some v
 |.global g=>some (.pointer (some ⟨g,0,none⟩))
 |.func f=>some (.func (.func f) #[] #[])
def MD(m:Sl):List Operand->Option (List Value)
 |[]=>some []
 |x::r=>match ev m x,MD m r with
  |some v,some l=>some (v::l)
  |_,_=>none
def J2(N:Nat)(d:Option Tmp):Bool:=match d with | some d=>Nat.blt d N | none=>true
structure JH(N:Nat)(m:Sl)(a:Act):Prop where
 size:a.tmps.size=N
 df:a.defers=Df.ds
 get:∀t v,look m t=some v->a.tmps[t]?=some v
theorem JH.ev{m:Sl}(h:JH N m a){x:Operand}{v:Value}(hx:ev m x=some v):a.eval x=v:=by
 cases x with
 |tmp t=>have:=h.get t v hx;simp[fH,this]
 |const v'=>simpa[YtpmehagnedbkhaaGreatDoor.ev,fH]using hx
 |global g=>simpa[YtpmehagnedbkhaaGreatDoor.ev,fH]using hx
 |func f=>simpa[YtpmehagnedbkhaaGreatDoor.ev,fH]using hx
theorem JH.MD{m:Sl}(h:JH N m a):∀ {l:List Operand} {vs:List Value},MD m l=some vs->l.map a.eval=vs
 |[],vs,e=>by simpa[YtpmehagnedbkhaaGreatDoor.MD]using e
 |x::l,vs,e=>by
  unfold YtpmehagnedbkhaaGreatDoor.MD at e;cases hx:YtpmehagnedbkhaaGreatDoor.ev m x with
  |none=>rw[hx]at e;simp at e
  |some v =>
   cases hl:YtpmehagnedbkhaaGreatDoor.MD m l with
   |none=>rw[hx,hl]at e;simp at e
   |some r =>
    rw[hx,hl]at e;simp only[aj]at e;subst e;rw[bU,h.ev hx,h.MD hl]
theorem JH.put{m:Sl}(h:JH N m a){d:Option Tmp}(hd:J2 N d=true)(v:Value):JH N (upd m d v) (a.put d v):=by
 cases d with
 |none=>exact h
 |some d =>
  have hd':d<N:=by simpa[J2]using hd
  refine⟨by simp[ig,h.size],h.df,λt u ht=>?_⟩;simp only[upd,look]at ht;cases hb:aY d t with
  |true =>
   rw[hb]at ht;have:d=t:=by simpa using hb
   subst this;have:v=u:=by simpa using ht
   subst this;simp[ig,h.size,hd']
  |false =>
   rw[hb]at ht;have hne:d≠t:=by intro e;subst e;simp at hb
   have:=h.get t u (by simpa using ht);simp[ig,aN hne,this]
def Y8(m:Sl):Sl->Prop
 |[]=>True
 |(t,v)::r=>look m t=some v/\Y8 m r
theorem JH.sub{m:Sl}(h:JH N m a):∀ {m':Sl},Y8 m m'->JH N m' a
 |[],_=>⟨h.size,h.df,λt v e=>by simp[look]at e⟩
 |(k,u)::r,⟨h1,h2⟩=>by
  refine⟨h.size,h.df,λt v e=>?_⟩;simp only[look]at e;cases hb:aY k t with
  |true =>
   rw[hb]at e;have:k=t:=by simpa using hb
   subst this;have:u=v:=by simpa using e
   subst this;exact h.get _ _ h1
  |false=>rw[hb]at e;exact(h.sub h2).get t v (by simpa using e)
structure Env where
 w0:World
 F0:Gs
 bs:List (Nat×Obj)
 G:Gs->Prop
structure xC(E:Env)(w:World)(F:Gs):Prop where
 le:Gs.le E.F0 F
 old:∀b,b<E.w0.heap.size->F b=E.F0 b
 fits:Fits F w
 ext:Sx E.w0 w
 bx:∀k∈E.bs,w.heap[k.1]?=some k.2/\E.w0.heap.size<=k.1/\F k.1=none
 nd:(E.bs.map (·.1)).Nodup
 g:∀F',Gs.le F F'->E.G F'
def St(E:Env)(w:World):Prop:=∃F,xC E w F
theorem xC.drew{E:Env}(h:xC E w F):xC E w.drew F:=⟨h.le,h.old,h.fits.drew,h.ext.drew,h.bx,h.nd,h.g⟩
theorem St.drew{E:Env}(h:St E w):St E w.drew:=h.imp λ_ h=>h.drew
theorem xC.hG{E:Env}(h:xC E w F):E.G F:=h.g F (Gs.le_refl F)
theorem St.start(hf:Fits F w){G:Gs->Prop}(hg:∀F',Gs.le F F'->G F'):St ⟨w,F,[],G⟩ w :=
 ⟨F,Gs.le_refl F,λ_ _=>rfl,hf,Sx.refl w,λ_ h=>(by cases h),List.nodup_nil,hg⟩
theorem St.imp{G':Gs->Prop}(h:St ⟨w0,F0,bs,G⟩ w)(hb:bs'.Sublist bs)(hg:∀F,G F->G' F):St ⟨w0,F0,bs',G'⟩ w:=by
 obtain⟨F,h⟩:=h;exact⟨F,h.le,h.old,h.fits,h.ext,λk hk=>h.bx k (hb.subset hk),(hb.map _).nodup h.nd,λF' hF'=>hg F' (h.g F' hF')⟩
theorem St.DJ{G':Gs->Prop}(h:St ⟨w0,F0,bs,G⟩ w)(hg:∀F,G F->G' F):St ⟨w0,F0,bs,G'⟩ w:=h.imp (e9 _) hg
theorem TR{x:α}{l r:List α}(h:(l++x::r).Nodup):x∉l++r/\(l++r).Nodup:=by
 have h1:=h;rw[fQ]at h1;obtain⟨a,b,c⟩:=h1;obtain⟨d,e⟩:=List.nodup_cons.1 b;refine⟨λhx=>?_,?_⟩
 ·rcases List.mem_append.1 hx with hx | hx
  ·exact c x hx x wz rfl
  exact d hx
 rw[fQ];exact⟨a,e,λy hy z hz=>c y hy z (by simp[hz])⟩
theorem St.alloc(h:St ⟨w0,F0,bs,G⟩ w)(o:Obj)(ho:∀c fr,o≠.cells c 289 fr):St ⟨w0,F0,(w.heap.size,o)::bs,G⟩ (w.alloc o):=by
 obtain⟨F,h⟩:=h;have hne:∀k∈bs,k.1≠w.heap.size:=λk hk e=>by
  have:=(h.bx k hk).1;rw[e,ae (av _)]at this;cases this
 refine⟨F,⟨h.le,h.old,⟨λb c T hb=>?_,λb c fr hb=>?_⟩,h.ext.alloc o,λk hk=>?_,?_,h.g⟩⟩
 ·obtain⟨fr,e⟩:=h.fits.row b c T hb;exact⟨fr,by rw[eN _ _ _ (h.fits.lt hb)];exact e⟩
 ·rcases ax b w.heap.size with g | g
  ·rw[eN _ _ _ g]at hb;exact h.fits.all b c fr hb
  have hb':(w.heap.push o)[b]?=some (.cells c 289 fr):=hb;rw[Array.getElem?_push]at hb';split at hb'
  ·exact absurd (aA hb') (ho c fr)
  rw[ae g]at hb';cases hb'
 ·rcases List.mem_cons.1 hk with rfl | hk
  ·exact⟨by show(w.heap.push o)[w.heap.size]?=_;simp,h.ext.size,h.fits.none (av _)⟩
  obtain⟨h1,h2,h3⟩:=h.bx k hk;have hlt:k.1<w.heap.size:=by
   rcases ax k.1 w.heap.size with g | g
   ·exact g
   rw[ae g]at h1;cases h1
  exact⟨by rw[eN _ _ _ hlt];exact h1,h2,h3⟩
 show(w.heap.size::bs.map (·.1)).Nodup;refine List.nodup_cons.2 ⟨λhm=>?_,h.nd⟩;obtain⟨k,hk,e⟩:=List.mem_map.1 hm;exact hne k hk e
theorem xC.freeze{pre post:List (Nat×Obj)}{c:Array Value}(h:xC ⟨w0,F0,pre++(b,.cells c T fr)::post,G⟩ w F):
  xC ⟨w0,F0,pre++post,G⟩ w (λi=>if i=b then some (c,T)else F i)/\Gs.le F (λi=>if i=b then some (c,T)else F i):=by
 obtain⟨h1,h2,h3⟩:=h.bx (b,.cells c T fr) wz;have hle:Gs.le F (λi=>if i=b then some (c,T)else F i):=λi x hx=>by
  by_cases e:i=b
  ·subst e;rw[h3]at hx;cases hx
  show(if i=b then _ else _)=_;rw[if_neg e];exact hx
 have hnd:=h.nd;simp only[bA,bU]at hnd;have hnd2:=(TR hnd);refine⟨⟨Gs.le_trans h.le hle,λi hi=>?_,⟨λi c' T' hi=>?_,λi c' fr' hi=>?_⟩,h.ext,λk hk=>?_,?_,λF' hF'=>h.g F' (Gs.le_trans hle hF')⟩,hle⟩
 ·have:i≠b:=by rintro rfl;exact absurd hi (Nat.not_lt.2 h2)
  rw[if_neg this];exact h.old i hi
 ·by_cases e:i=b
  ·subst e;rw[if_pos rfl]at hi;cases hi;exact⟨fr,h1⟩
  rw[if_neg e]at hi;exact h.fits.row i c' T' hi
 ·by_cases e:i=b
  ·subst e;have:=h1.symm.trans hi;cases this;rw[if_pos rfl]
  rw[if_neg e];exact h.fits.all i c' fr' hi
 ·obtain⟨g1,g2,g3⟩:=h.bx k (by
   rcases List.mem_append.1 hk with h | h
   ·simp[h]
   simp[h])
  refine⟨g1,g2,?_⟩;have hkb:k.1≠b:=by
   rintro rfl;refine hnd2.1 ?_;rw[<-bA];exact fC hk
  rw[if_neg hkb];exact g3
 show((pre++post).map (·.1)).Nodup;rw[bA];exact hnd2.2
theorem St.freeze(pre:List (Nat×Obj)){post:List (Nat×Obj)}{b:Nat}{c:Array Value}{T:TypeId}{fr:Nat×Nat}{G:Gs->Prop}{w:World}(h:St ⟨w0,F0,pre++(b,.cells c T fr)::post,G⟩ w):
  St ⟨w0,F0,pre++post,λF=>G F/\F b=some (c,T)⟩ w:=by
 obtain⟨F,h⟩:=h;obtain⟨h1,hle⟩:=h.freeze;exact⟨_,h1.le,h1.old,h1.fits,h1.ext,h1.bx,h1.nd,λF' hF'=>⟨h1.g F' hF',hF' b _ (by show(if b=b then _ else _)=_;rw[if_pos rfl])⟩⟩
theorem St.write(pre:List (Nat×Obj)){post:List (Nat×Obj)}{b:Nat}{o o':Obj}{G:Gs->Prop}{w w':World}(h:St ⟨w0,F0,pre++(b,o)::post,G⟩ w)
  (hw:w'.heap=w.heap.setIfInBounds b o'/\w'.os=w.os/\w'.tape=w.tape/\w'.output=w.output/\w'.drawn=w.drawn) (ho:∀c fr,o'≠.cells c 289 fr):St ⟨w0,F0,pre++(b,o')::post,G⟩ w':=by
 obtain⟨F,h⟩:=h;obtain⟨h1,h2,h3⟩:=h.bx (b,o) wz;have hlt:b<w.heap.size:=by
  rcases ax b w.heap.size with g | g
  ·exact g
  rw[ae g]at h1;cases h1
 have hne:∀i,i≠b->w'.heap[i]?=w.heap[i]?:=λi hi=>by rw[hw.1,aN (fm hi)]
 have heq:w'.heap[b]?=some o':=by rw[hw.1];simp[hlt]
 have hsz:w'.heap.size=w.heap.size:=by rw[hw.1];simp
 have hnd:=h.nd;simp only[bA,bU]at hnd;have hnd2:=(TR hnd);refine⟨F,⟨h.le,h.old,⟨λi c T hi=>?_,λi c fr hi=>?_⟩,⟨Ext.QBI h.ext.toBelow ?_ ?_ ?_ ?_ ?_,λd=>by rw[hw.2.2.2.2];exact h.ext.dr d⟩,λk hk=>?_,?_,h.g⟩⟩
 ·have:i≠b:=by rintro rfl;rw[h3]at hi;cases hi
  rw[hne i this];exact h.fits.row i c T hi
 ·by_cases e:i=b
  ·subst e;rw[heq]at hi;exact absurd (aA hi) (ho c fr)
  rw[hne i e]at hi;exact h.fits.all i c fr hi
 ·exact hw.2.1
 ·exact hw.2.2.1
 ·exact hw.2.2.2.1
 ·omega
 ·intro i hi;exact hne i (by rintro rfl;exact absurd hi (Nat.not_lt.2 h2))
 ·have key:k=(b,o')\/k∈pre++post:=by
   rcases List.mem_append.1 hk with h | h
   ·exact .inr (by simp[h])
   rcases List.mem_cons.1 h with h | h
   ·exact .inl h
   exact .inr (by simp[h])
  rcases key with rfl | hk'
  ·exact⟨heq,h2,h3⟩
  obtain⟨g1,g2,g3⟩:=h.bx k (by
   rcases List.mem_append.1 hk' with h | h
   ·simp[h]
   simp[h])
  have hkb:k.1≠b:=by
   rintro rfl;refine hnd2.1 ?_;rw[<-bA];exact fC hk'
  exact⟨by rw[hne _ hkb];exact g1,g2,g3⟩
 show((pre++(b,o')::post).map (·.1)).Nodup;simp only[bA,bU];exact hnd
end
variable{m:Sl}
section
variable[Dr][df:Df]
section
variable{P:Program}{Q:Exit->Act->World->Prop}{N:Nat}{m:Sl}{E:Env}
def Fin(Q:Exit->Act->World->Prop)(e:Exit)(N:Nat)(m:Sl)(E:Env):Prop:=∀a w,JH N m a->St E w->Q e a w
def J(P:Program)(c:Code)(Q:Exit->Act->World->Prop)(N:Nat)(m:Sl)(E:Env):Prop:=∀a w,JH N m a->St E w->c.wp P Q a w
def JS(P:Program)(ops:Array Oper)(Q:Exit->Act->World->Prop)(l:List Oper)(N:Nat)(m:Sl)(E:Env):Prop:=∀a w,JH N m a->St E w->wpList P ops Q l a w
def JD(P:Program)(ops:Array Oper)(Q:Exit->Act->World->Prop)(E0:Env)(l:List Oper)(N:Nat)(m:Sl)(E:Env):Prop:=(∀w,St E w->St E0 w)->∀a w,JH N m a->St E w->Fo P ops Q (St E0) l a w
theorem QG{x y:Code}(h:J P x (Exit.then (y.wp P Q) Q) N m E):J P (.seq x y) Q N m E:=λa w ha hw=>wp_seq (h a w ha hw)
theorem QV{id:Nat}{c:Code}(h:J P c (bj id Q) N m E):J P (.block id c) Q N m E:=λa w ha hw=>wp_block (h a w ha hw)
theorem QN(h:Fin Q .normal N m E):J P .skip Q N m E:=λa w ha hw=>wp_skip (h a w ha hw)
theorem Q2{id:Nat}(h:Fin Q (.exit id) N m E):J P (.exit id) Q N m E:=λa w ha hw=>wp_exit (h a w ha hw)
theorem QW(h:Fin Q .ret N m E):J P .ret Q N m E:=λa w ha hw=>wp_ret (h a w ha hw)
theorem QO{c:Operand}{x y:Code}{t:Bool}(hc:ev m c=some (.bool t))(ht:t=true->J P x Q N m E)(hf:t=false->J P y Q N m E):J P (.cond c x y) Q N m E :=
 λa w ha hw=>wp_cond_split (ha.ev hc) (λh=>ht h a w ha hw) λh=>hf h a w ha hw
theorem YV{c:Operand}{x y:Code}(hc:ev m c=some (.bool false))(h:J P y Q N m E):J P (.cond c x y) Q N m E:=QO hc (λh=>by cases h) λ_=>h
theorem QC{y:Code}(h:J P y Q N m E):Fin (Exit.then (y.wp P Q) Q) .normal N m E:=h
theorem QY{id:Nat}(h:Fin Q (.exit id) N m E):Fin (Exit.then K Q) (.exit id) N m E:=h
theorem Q4(h:Fin Q .ret N m E):Fin (Exit.then K Q) .ret N m E:=h
theorem Qk{id:Nat}(h:Fin Q .normal N m E):Fin (bj id Q) .normal N m E:=h
theorem Qy{id:Nat}(h:Fin Q .ret N m E):Fin (bj id Q) .ret N m E:=h
theorem QZ{id:Nat}(h:Fin Q .normal N m E):Fin (bj id Q) (.exit id) N m E:=λa w ha hw=>by simp only[bj,if_true];exact h a w ha hw
theorem QP{id id':Nat}(hid:aY id' id=false)(h:Fin Q (.exit id') N m E):Fin (bj id Q) (.exit id') N m E:=λa w ha hw=>by
 have:id'≠id:=by rintro rfl;simp at hid
 simp only[bj,if_neg this];exact h a w ha hw
def qC{ι:Type}(N:Nat)(w0:World)(F0:Gs)(M:ι->Sl)(B:ι->List (Nat×Obj))(H:ι->Gs->Prop)(μ:ι->Nat)(i:ι)(a:Act)(w:World):Prop :=
 ∃j,μ j<μ i/\JH N (M j) a/\St ⟨w0,F0,B j,H j⟩ w
theorem YA{c:Code}(M:ι->Sl)(B:ι->List (Nat×Obj))(H:ι->Gs->Prop)(μ:ι->Nat)(i0:ι)
  (hm:Y8 m (M i0)) (hb:(B i0).Sublist bs) (hg:∀F,G F->H i0 F)
  (round:∀i,J P c (Exit.then (qC N w0 F0 M B H μ i) Q) N (M i) ⟨w0,F0,B i,H i⟩):J P (.loop c) Q N m ⟨w0,F0,bs,G⟩:=by
 intro a w ha hw;refine wp_loop_ghost (λn a w=>∃i,μ i=n/\JH N (M i) a/\St ⟨w0,F0,B i,H i⟩ w) (μ i0) ⟨i0,rfl,ha.sub hm,hw.imp hb hg⟩ ?_;rintro n a w ⟨i,rfl,ha,hw⟩;refine wp_mono (round i a w ha hw) ?_;intro e a' w' h;cases e with
 |normal=>obtain⟨j,h1,h2,h3⟩:=h;exact⟨μ j,h1,j,rfl,h2,h3⟩
 |_=>exact h
theorem Ql{M:ι->Sl}{B:ι->List (Nat×Obj)}{H:ι->Gs->Prop}{μ:ι->Nat}{i:ι}(j:ι)(hμ:μ j<μ i)
  (hm:Y8 m (M j)) (hb:(B j).Sublist bs) (hg:∀F,G F->H j F):Fin (Exit.then (qC N w0 F0 M B H μ i) Q) .normal N m ⟨w0,F0,bs,G⟩ :=
 λa w ha hw=>⟨j,hμ,ha.sub hm,hw.imp hb hg⟩
theorem QB{id:Nat}{l:List Oper}(h:JS P l.toArray Q l N m E):J P (.region id l.toArray false) Q N m E:=λa w ha hw=>wp_region_lit (h a w ha hw)
variable{ops:Array Oper}{l:List Oper}{E0:Env}
theorem QE(h:Fin Q .normal N m E):JS P ops Q [] N m E:=h
theorem Hw(h:∀a w,JH N m a->St E w->K a w):JD P ops (ZD K) E0 [] N m E:=λ_=>h
def Qt(P:Program)(N:Nat)(m:Sl)(S:World->Prop)(o:Op)(ty:TypeId)(v:Value):Prop:=∀a w d pos aft g,JH N m a->S w->(execOp a.eval ⟨d,o,ty,pos,aft,g⟩).run P w = .ok (.value v) w
variable{d:Nat}{o:Op}{ty:TypeId}{pos:String}{aft:Array Edge}{v:Value}
theorem QA(h:Qt P N m (St E) o ty v)(k:JS P ops Q l N ((d,v)::m) E)(hd:J2 N (some d)=true:=by rfl):JS P ops Q (⟨some d,o,ty,pos,aft,none⟩::l) N m E:=by
 intro a w ha hw;refine wpList_plain rfl λK hK=>?_;unfold bQ;rw[h a w _ _ _ _ ha hw];exact hK _ _ (k _ w (ha.put hd v) hw)
theorem QK(h:Qt P N m (St E0) o ty v)(k:JD P ops Q E0 l N ((d,v)::m) E)(hq:Jy o=true:=by rfl)(hd:J2 N (some d)=true:=by rfl):JD P ops Q E0 (⟨some d,o,ty,pos,aft,none⟩::l) N m E:=by
 intro hE a w ha hw;exact .inl ⟨hq,v,.inl ⟨rfl,λw' hw'=>h a w' _ _ _ _ ha hw'⟩,k hE _ w (ha.put hd v) hw⟩
theorem D9(ha:JH N m a){g t:Nat}{b:Bool}(hg:(ops[g]?).bind (·.dst)=some t)(hb:look m t=some (.bool b)):yielded ops a.tmps g=some b:=by
 unfold yielded;rw[hg];have:=ha.get t _ hb;simp[this]
theorem QCk{d:Option Tmp}{g t:Nat}{b want:Bool}(hg:(ops[g]?).bind (·.dst)=some t)(hb:look m t=some (.bool b))(ht:b=want->JS P ops Q (⟨d,o,ty,pos,aft,none⟩::l) N m E)(hf:b=!want->JS P ops Q l N (upd m d undef) E)
  (hd:J2 N d=true:=by rfl):JS P ops Q (⟨d,o,ty,pos,aft,some (g,want)⟩::l) N m E:=by
 intro a w ha hw;unfold wpList;have hy:=D9 ha hg hb;by_cases e:b=want
 ·have:=ht e a w ha hw;unfold wpList at this;rw[if_pos (by simp[aq])]at this;rw[if_pos (by simp[aq,hy,e])];exact this
 rw[if_neg (by simp[aq,hy,e])];exact hf (by cases b<;>cases want<;>simp_all) _ w (ha.put hd undef) hw
theorem QFn{d:Option Tmp}{g t:Nat}{b want:Bool}(hg:(ops[g]?).bind (·.dst)=some t)(hb:look m t=some (.bool b))(ht:b=want->JD P ops Q E0 (⟨d,o,ty,pos,aft,none⟩::l) N m E)(hf:b=!want->JD P ops Q E0 l N (upd m d undef) E)
  (hd:J2 N d=true:=by rfl):JD P ops Q E0 (⟨d,o,ty,pos,aft,some (g,want)⟩::l) N m E:=by
 intro hE a w ha hw;have hy:=D9 ha hg hb;by_cases e:b=want
 ·rcases ht e hE a w ha hw with ⟨h1,v,h2,h3⟩ | ⟨h1,h2⟩
  ·refine .inl ⟨h1,v,?_,h3⟩;rcases h2 with ⟨_,h2⟩ | ⟨h2,_⟩
   ·exact .inl ⟨by simp[aq,hy,e],h2⟩
   simp[aq]at h2
  refine .inr ⟨h1,?_⟩;rw[if_pos (by simp[aq])]at h2;rw[if_pos (by simp[aq,hy,e])];exact h2
 have hr:=hf (by cases b<;>cases want<;>simp_all) hE _ w (ha.put hd undef) hw;cases hq:Jy o with
 |true=>exact .inl ⟨hq,undef,.inr ⟨by simp[aq,hy,e],rfl⟩,hr⟩
 |false =>
  refine .inr ⟨hq,?_⟩;rw[if_neg (by simp[aq,hy,e])];exact⟨hE w hw,hr⟩
end
end
section
variable[Dr][df:Df]
def QIB(d:TypeDesc):Bool:=match d with | .struct _ | .array _ _=>true | _=>false
def Z1(P:Program)(T:TypeId):Option (Bool×Nat):=match P.underlying T,P.info? T with
 |some d,some i=>some (QIB d,i.size)
 |_,_=>none
theorem UD(h:Z1 P T=some (g,n))(w:World):(isAgg T).run P w = .ok g w:=by
 unfold Z1 at h;split at h
 ·rename_i d i hd hi;cases h;unfold isAgg;rw[ak,run_underlying hd w];cases d<;>rfl
 cases h
theorem KX(h:Z1 P T=some (g,n))(w:World):(sizeOf T).run P w = .ok n w:=by
 unfold Z1 at h;split at h
 ·rename_i d i hd hi;cases h;simp[sizeOf,typeInfo,hi]
 cases h
def Yo(P:Program)(T:TypeId)(f:Nat):Option (Nat×TypeId):=match P.underlying T with
 |some (.struct fs)=>match fs[f]? with
  |some x=>some (x.offset,x.type)
  |none=>none
 |_=>none
inductive SJ:List Value->Nat->List Value->Prop
 |nil {l:List Value}:SJ l 0 []
 |here {x:Value} {l vs:List Value}:SJ l 0 vs->SJ (x::l) 0 (x::vs)
 |skip {x:Value} {l vs:List Value} {n:Nat}:SJ l n vs->SJ (x::l) (n+1) vs
theorem SJ.at{vs:List Value}(h:SJ l n vs):∀(j:Nat) (v:Value),vs[j]?=some v->l[n+j]?=some v:=by
 induction h with
 |nil=>intro j v hv;simp at hv
 |here h ih =>
  intro j v hv;cases j with
  |zero=>simpa using hv
  |succ j =>
   have:=ih j v (by simpa using hv);rw[show 0+(j+1)=(0+j)+1 by omega];simpa using this
 |skip h ih =>
  intro j v hv;have:=ih j v hv;rw[eI];simpa using this
inductive VF:List Value->Nat->List Value->List Value->Prop
 |nil {l:List Value}:VF l 0 [] l
 |here {x v:Value} {l vs l':List Value}:VF l 0 vs l'->VF (x::l) 0 (v::vs) (v::l')
 |skip {x:Value} {l vs l':List Value} {n:Nat}:VF l n vs l'->VF (x::l) (n+1) vs (x::l')
theorem VF.le{vs:List Value}(h:VF l n vs l'):n+vs.length<=l.length:=by
 induction h<;>simp_all<;>omega
theorem VF.eq{vs:List Value}(h:VF l n vs l'):l'=l.take n++vs++l.drop (n+vs.length):=by
 induction h with
 |nil=>simp
 |here h ih=>simp at ih ⊢;exact ih
 |skip h ih =>
  rw[eI];simpa using ih
inductive Own:List (Nat×Obj)->Nat->Obj->(Obj->List (Nat×Obj))->Prop
 |here {b:Nat} {o:Obj} {r:List (Nat×Obj)}:Own ((b,o)::r) b o λo'=>(b,o')::r
 |there {x:Nat×Obj} {l:List (Nat×Obj)} {b:Nat} {o:Obj} {f:Obj->List (Nat×Obj)}:Own l b o f->Own (x::l) b o λo'=>x::f o'
theorem Own.split{l:List (Nat×Obj)}(h:Own l b o f):∃pre post,l=pre++(b,o)::post/\∀o',f o'=pre++(b,o')::post:=by
 induction h with
 |here=>exact⟨[],_,rfl,λ_=>rfl⟩
 |there h ih =>
  obtain⟨pre,post,h1,h2⟩:=ih;exact⟨_::pre,post,by rw[h1];rfl,λo'=>by show _::_=_;rw[h2];rfl⟩
theorem Own.mem{l:List (Nat×Obj)}(h:Own l b o f):(b,o)∈l:=by
 obtain⟨pre,post,h1,_⟩:=h.split;rw[h1];simp
inductive jj:List (Nat×Obj)->Nat->Obj->List (Nat×Obj)->Prop
 |here {b:Nat} {o:Obj} {r:List (Nat×Obj)}:jj ((b,o)::r) b o r
 |there {x:Nat×Obj} {l l':List (Nat×Obj)} {b:Nat} {o:Obj}:jj l b o l'->jj (x::l) b o (x::l')
theorem jj.split{l l':List (Nat×Obj)}(h:jj l b o l'):∃pre post,l=pre++(b,o)::post/\l'=pre++post:=by
 induction h with
 |here=>exact⟨[],_,rfl,rfl⟩
 |there h ih =>
  obtain⟨pre,post,h1,h2⟩:=ih;exact⟨_::pre,post,by rw[h1];rfl,by rw[h2];rfl⟩
section
variable{P:Program}{Q:Exit->Act->World->Prop}{N:Nat}{m:Sl}{E E0:Env}{ops:Array Oper}{l:List Oper}{w0:World}{F0:Gs}{bs:List (Nat×Obj)}{G:Gs->Prop}
theorem St.own(h:St ⟨w0,F0,bs,G⟩ w){b:Nat}{o:Obj}{f:Obj->List (Nat×Obj)}(ho:Own bs b o f):w.heap[b]?=some o:=by
 obtain⟨F,h⟩:=h;exact(h.bx (b,o) ho.mem).1
section
variable{ty:TypeId}{v:Value}{S:World->Prop}
theorem QD(h:ev m x=some v):Qt P N m S (.move x) ty v:=λa w _ _ _ _ ha _=>by
 show(lk (lF (a.eval x)) w)=_;rw[ha.ev h]
theorem QF(h:ev m x=some v):Qt P N m S (.assign x) ty v:=λa w _ _ _ _ ha _=>by
 show(lk (lF (a.eval x)) w)=_;rw[ha.ev h]
theorem yA{c:Operand}{b:Bool}(hc:ev m c=some (.bool b))(hx:ev m x=some v)(hy:ev m y=some u):Qt P N m S (.pick c x y) ty (if b then v else u):=λa w _ _ _ _ ha _=>by
 simp only[execOp,ha.ev hc,ha.ev hx,ha.ev hy,asBool,pure_bind,aH]
theorem QX{vs:Array Value}(h:ev m x=some (.tuple vs))(hi:vs[i]?=some v):Qt P N m S (.extract x i) ty v:=λa w _ _ _ _ ha _=>by
 simp[execOp,ha.ev h,Instr.extract,hi]
theorem Ze{p:Addr}(h:ev m x=some (.pointer (some p))):Qt P N m S (.nilCheck x) ty (.pointer (some p)):=λa w _ _ _ _ ha _=>by
 simp[execOp,ha.ev h]
theorem QH{f:Nat}{fo:Nat}{ft:TypeId}(h:ev m x=some (.pointer (some ⟨b,off,none⟩)))(hf:Yo P T f=some (fo,ft))(hs:Z1 P ft=some (g,n+1)):
  Qt P N m S (.fieldAddr T x f) ty (.pointer (some ⟨b,off+fo,none⟩)):=λa w _ _ _ _ ha _=>by
 unfold Yo at hf;split at hf
 ·rename_i fs hu;split at hf
  ·rename_i fx hx;simp only[aj,Prod.mk.injEq]at hf;obtain⟨rfl,rfl⟩:=hf;have hadd:(⟨b,off,none⟩:Addr).add fx.offset=⟨b,off+fx.offset,none⟩:=by unfold fA;split<;>simp_all
   simp[execOp,ha.ev h,Instr.fieldAt,run_underlying hu,hx,aO,fieldPlace,KX hs,hadd]
  cases hf
 cases hf
theorem Z3(ht:Z1 P T=some (false,n)){w:World}{a:Addr}{v:Value}(h:w.cell? a=some v):(loadVar T a).run P w = .ok v w:=by
 simp[loadVar,UD ht,h]
theorem Kb{vs:List Value}(ht:Z1 P T=some (true,n))(hn:vs.length=n){w:World}{b off:Nat}(h:∀j v,vs[j]?=some v->w.cell? ⟨b,off+j,none⟩=some v):(loadVar T ⟨b,off,none⟩).run P w = .ok (.agg vs.toArray) w:=by
 have hl:=run_loadCells_list (P:=P) w ⟨b,off,none⟩ vs (λj v hv=>by
  have hadd:(⟨b,off,none⟩:Addr).add j=⟨b,off+j,none⟩:=by unfold fA;split<;>simp_all
  rw[hadd];exact h j v hv)
 subst hn;simp[loadVar,UD ht,KX ht,hl]
theorem ZI{o:Nat}(h:w.heap[b]?=some (.cells c.toArray T fr)):w.cell? ⟨b,o,none⟩=c[o]?:=by
 simp[eu,h]
theorem Qf(h:ev m x=some (.pointer (some ⟨b,off,none⟩)))(ht:Z1 P T=some (false,n))(ho:Own bs b (.cells c.toArray T' fr) f)(hg:SJ c off [v]):
  Qt P N m (St ⟨w0,F0,bs,G⟩) (.load T x) ty v:=λa w _ _ _ _ ha hw=>by
 have hc:w.cell? ⟨b,off,none⟩=some v:=by rw[ZI (hw.own ho)];exact hg.at 0 v I
 simp[execOp,ha.ev h,bN,aO,Z3 ht hc]
theorem QJ{vs:List Value}(h:ev m x=some (.pointer (some ⟨b,off,none⟩)))(ht:Z1 P T=some (true,n))(ho:Own bs b (.cells c.toArray T' fr) f)(hg:SJ c off vs)(hn:vs.length=n):
  Qt P N m (St ⟨w0,F0,bs,G⟩) (.load T x) ty (.agg vs.toArray):=λa w _ _ _ _ ha hw=>by
 have:=Kb ht hn (w:=w) (b:=b) (off:=off) (λj v hv=>by rw[ZI (hw.own ho)];exact hg.at j v hv);simp[execOp,ha.ev h,bN,aO,this]
theorem cell_of_row(h:St ⟨w0,F0,bs,G⟩ w){b o:Nat}{c:Array Value}{T:TypeId}{v:Value}(hr:∀F,G F->F b=some (c,T))(hv:c[o]?=some v):w.cell? ⟨b,o,none⟩=some v:=by
 obtain⟨F,h⟩:=h;obtain⟨fr,e⟩:=h.fits.row b c T (hr F h.hG);simp[eu,e,hv]
theorem Zq{c:Array Value}(h:ev m x=some (.pointer (some ⟨b,off,none⟩)))(ht:Z1 P T=some (false,n))(hr:∀F,G F->F b=some (c,T'))(hv:c[off]?=some v):
  Qt P N m (St ⟨w0,F0,bs,G⟩) (.load T x) ty v:=λa w _ _ _ _ ha hw=>by
 simp[execOp,ha.ev h,bN,aO,Z3 ht (cell_of_row hw hr hv)]
theorem FQ{c:Array Value}{vs:List Value}(h:ev m x=some (.pointer (some ⟨b,off,none⟩)))(ht:Z1 P T=some (true,n))(hr:∀F,G F->F b=some (c,T'))(hn:vs.length=n)(hv:∀j v,vs[j]?=some v->c[off+j]?=some v):
  Qt P N m (St ⟨w0,F0,bs,G⟩) (.load T x) ty (.agg vs.toArray):=λa w _ _ _ _ ha hw=>by
 have:=Kb ht hn (w:=w) (b:=b) (off:=off) (λj v h=>cell_of_row hw hr (hv j v h));simp[execOp,ha.ev h,bN,aO,this]
end
def Enters(P:Program)(f:FuncId):Prop:=∀(args:Array Value) (w:World),(callFunc f args).run P w = .ok (.enter f args) w
theorem enters_of{f:FuncId}(h:P.funcs[f]?=some fn)(hn:(fn.name == "runtime.NumGoroutine")=false)(hb:fn.body.isNone=false):Enters P f:=λargs w=>by
 have hb':fn.body≠none:=by intro e;rw[e]at hb;cases hb
 simp[callFunc,h,hb',beq_eq_false_iff_ne.1 hn]
def SX(w:World)(F:Gs){γ:Type}(val:γ->Value)(fact:γ->Gs->Prop)(e:Ending)(w':World):Prop :=
 ∃c F',e = .returned (val c)/\Sx w w'/\Gs.le F F'/\(∀b,b<w.heap.size->F' b=F b)/\Fits F' w'/\∀F'',Gs.le F' F''->fact c F''
def QT(P:Program)(f:FuncId)(args:List Value)(w:World)(F:Gs){γ:Type}(val:γ->Value)(fact:γ->Gs->Prop):Prop :=
 Enters P f/\Calls P f args.toArray w (SX w F val fact)
theorem QT.imp{f:FuncId}{args:List Value}{γ':Type}{val:γ->Value}{fact:γ->Gs->Prop}{val':γ'->Value}{fact':γ'->Gs->Prop}(h:QT P f args w F val fact)
  (k:∀c F',fact c F'->∃c',val c=val' c'/\∀F'',Gs.le F' F''->fact' c' F''):QT P f args w F val' fact':=by
 refine⟨h.1,h.2.mono ?_⟩;rintro e w' ⟨c,F',rfl,h1,h2,h3,h4,h5⟩;obtain⟨c',e,k'⟩:=k c F' (h5 F' (Gs.le_refl _));exact⟨c',F',by rw[e],h1,h2,h3,h4,k'⟩
theorem xC.call{F':Gs}(h:xC ⟨w0,F0,bs,G⟩ w F){f:Gs->Prop}(h1:Sx w w')(h2:Gs.le F F')(h3:∀b,b<w.heap.size->F' b=F b)(h4:Fits F' w')(h5:∀F'',Gs.le F' F''->f F''):xC ⟨w0,F0,bs,λF=>G F/\f F⟩ w' F':=by
 refine⟨Gs.le_trans h.le h2,λb hb=>?_,h4,h.ext.trans h1,λk hk=>?_,h.nd,λF'' hF=>⟨h.g F'' (Gs.le_trans h2 hF),h5 F'' hF⟩⟩
 ·rw[h3 b (fO hb h.ext.size)];exact h.old b hb
 obtain⟨g1,g2,g3⟩:=h.bx k hk;have hlt:k.1<w.heap.size:=by
  rcases ax k.1 w.heap.size with g | g
  ·exact g
  rw[ae g]at g1;cases g1
 exact⟨by rw[h1.block _ hlt];exact g1,g2,by rw[h3 _ hlt];exact g3⟩
theorem Gq{d:Option Tmp}{args:Array Operand}{tys:Array TypeId}{ty:TypeId}{pos:String}{f:FuncId}{c1 c2:Array Value}(he:Enters P f)(hx:a.eval x = .func (.func f) c1 c2):
  (execOp a.eval ⟨d,.call ⟨.value x,args,tys⟩,ty,pos,aft,gd⟩).run P w = .ok (.enter f (c1++args.map a.eval++c2)) w:=by
 simp only[execOp,resolve,hx,Deferred.ofValue,ak,aH,ao,invoke];exact he _ w
section
variable{d:Nat}{ty:TypeId}{pos:String}{aft:Array Edge}{f:FuncId}{args:Array Operand}{tys:Array TypeId}{vs:List Value}{γ:Type}{val:γ->Value}{fact:γ->Gs->Prop}
theorem Gb{c1 c2:List Value}(hx:ev m x=some (.func (.func f) c1.toArray c2.toArray))(hv:MD m args.toList=some vs)(hc:∀w F,Fits F w->G F->QT P f (c1++vs++c2) w F val fact)
  (k:∀c,JS P ops Q l N ((d,val c)::m) ⟨w0,F0,bs,λF=>G F/\fact c F⟩) (hd:J2 N (some d)=true:=by rfl):JS P ops Q (⟨some d,.call ⟨.value x,args,tys⟩,ty,pos,aft,none⟩::l) N m ⟨w0,F0,bs,G⟩:=by
 intro a w ha hw;obtain⟨F,hF⟩:=hw;have hcg:=hc w F hF.fits hF.hG;refine wpList_plain rfl λK hK=>?_;unfold bQ;rw[Gq hcg.1 (ha.ev hx)];have e:c1.toArray++args.map a.eval++c2.toArray=(c1++vs++c2).toArray:=by
  have:=ha.MD hv;have e2:args.map a.eval=vs.toArray:=by rw[<-this];apply ef ;simp
  rw[e2];apply ef;simp
 simp only[aM];rw[e];refine hcg.2.mono ?_;rintro e w' ⟨c,F',rfl,h1,h2,h3,h4,h5⟩;exact hK _ _ (k c _ w' (ha.put hd (val c)) ⟨F',hF.call h1 h2 h3 h4 h5⟩)
theorem QI(hv:MD m args.toList=some vs)(hc:∀w F,Fits F w->G F->QT P f vs w F val fact)
  (k:∀c,JS P ops Q l N ((d,val c)::m) ⟨w0,F0,bs,λF=>G F/\fact c F⟩) (hd:J2 N (some d)=true:=by rfl):JS P ops Q (⟨some d,.call ⟨.value (.func f),args,tys⟩,ty,pos,aft,none⟩::l) N m ⟨w0,F0,bs,G⟩ :=
 Gb (x:=.func f) (c1:=[]) (c2:=[]) I hv (by simpa using hc) k hd
theorem Iz{c1 c2:List Value}(hx:ev m x=some (.func (.func f) c1.toArray c2.toArray))(hv:MD m args.toList=some vs)(hc:∀w F,Fits F w->G F->QT P f (c1++vs++c2) w F val fact)
  (k:∀c,JD P ops Q E0 l N ((d,val c)::m) ⟨w0,F0,bs,λF=>G F/\fact c F⟩) (hd:J2 N (some d)=true:=by rfl):JD P ops Q E0 (⟨some d,.call ⟨.value x,args,tys⟩,ty,pos,aft,none⟩::l) N m ⟨w0,F0,bs,G⟩:=by
 intro hE a w ha hw;obtain⟨F,hF⟩:=hw;have hcg:=hc w F hF.fits hF.hG;refine .inr ⟨rfl,?_⟩;rw[if_pos (by simp[aq])];unfold bQ;rw[Gq hcg.1 (ha.ev hx)];have e:c1.toArray++args.map a.eval++c2.toArray=(c1++vs++c2).toArray:=by
  have:=ha.MD hv;have e2:args.map a.eval=vs.toArray:=by rw[<-this];apply ef ;simp
  rw[e2];apply ef;simp
 simp only[aM];rw[e];refine hcg.2.mono ?_;rintro e w' ⟨c,F',rfl,h1,h2,h3,h4,h5⟩;have hS:St ⟨w0,F0,bs,λF=>G F/\fact c F⟩ w':=⟨F',hF.call h1 h2 h3 h4 h5⟩;exact⟨hE w' (hS.DJ λ_ h=>h.1),k c (λw h=>hE w (h.DJ λ_ h=>h.1)) _ w' (ha.put hd (val c)) hS⟩
theorem QM(hv:MD m args.toList=some vs)(hc:∀w F,Fits F w->G F->QT P f vs w F val fact)
  (k:∀c,JD P ops Q E0 l N ((d,val c)::m) ⟨w0,F0,bs,λF=>G F/\fact c F⟩) (hd:J2 N (some d)=true:=by rfl):JD P ops Q E0 (⟨some d,.call ⟨.value (.func f),args,tys⟩,ty,pos,aft,none⟩::l) N m ⟨w0,F0,bs,G⟩ :=
 Iz (x:=.func f) (c1:=[]) (c2:=[]) I hv (by simpa using hc) k hd
end
end
end
section
variable[Dr][df:Df]{P:Program}{Q:Exit->Act->World->Prop}{ops:Array Oper}{l:List Oper}{N:Nat}{m:Sl}{E:Env}{d:Nat}{v:Value}{ty:TypeId}{pos:String}{aft:Array Edge}
theorem QJD(h:ev m x=some v)(k:JS P ops Q l N ((d,v)::m) E)(hd:J2 N (some d)=true:=by rfl):JS P ops Q (⟨some d,.move x,ty,pos,aft,none⟩::l) N m E:=QA (QD h) k hd
theorem QJE(h:ev m x=some v)(k:JS P ops Q l N ((d,v)::m) E)(hd:J2 N (some d)=true:=by rfl):JS P ops Q (⟨some d,.assign x,ty,pos,aft,none⟩::l) N m E:=QA (QF h) k hd
theorem QJC{y:Code}(h:J P y Q N m E):JS P ops (Exit.then (y.wp P Q) Q) [] N m E:=QE (QC h)
theorem QKO{y:Code}{id:Nat}(h:JS P l.toArray (Exit.then (y.wp P Q) Q) l N m E):J P (.seq (.region id l.toArray false) y) Q N m E:=QG (QB h)
end
def QJZ{l:List α}:bP l l:=e9 l
def QKc{p:Prop}[Decidable p](h:decide p=true):p:=of_decide_eq_true h
def QKd{p:Prop}[Decidable p](h:decide p=false):¬p:=of_decide_eq_false h
def wQ[Dr][df:Df]{P:Program}{Q:Exit->Act->World->Prop}{ops:Array Oper}{N:Nat}{m:Sl}{E:Env}{d:Nat}{v:Value}{ty:TypeId}{pos:String}{aft:Array Edge}{x:Operand}{y:Code}(h:ev m x=some v)(k:J P y Q N ((d,v)::m) E)(hd:J2 N (some d)=true:=by rfl):JS P ops (Exit.then (y.wp P Q) Q) [⟨some d,.assign x,ty,pos,aft,none⟩] N m E:=QJE h (QJC k) hd
def wR[Dr][df:Df]{P:Program}{Q:Exit->Act->World->Prop}{l:List Oper}{N:Nat}{m:Sl}{E:Env}{d:Nat}{v:Value}{ty:TypeId}{pos:String}{aft:Array Edge}{x:Operand}{y:Code}{id:Nat}(h:ev m x=some v)(k:JS P (⟨some d,.move x,ty,pos,aft,none⟩::l).toArray (Exit.then (y.wp P Q) Q) l N ((d,v)::m) E)(hd:J2 N (some d)=true:=by rfl):J P (.seq (.region id (⟨some d,.move x,ty,pos,aft,none⟩::l).toArray false) y) Q N m E:=QKO (QJD h k hd)
def SJ.h1{x0:Value}:SJ (x0::l) 0 [x0]:=.here (.nil)
def VF.h1{x0 v0:Value}:VF (x0::l) 0 [v0] (v0::l):=.here (.nil)
def SJ.h2{x0 x1:Value}:SJ (x0::x1::l) 0 [x0,x1]:=.here (.here (.nil))
def VF.h2{x0 x1 v0:Value}:VF (x0::x1::l) 0 [v0,v1] (v0::v1::l):=.here (.here (.nil))
def SJ.h3{x0 x1:Value}:SJ (x0::x1::x2::l) 0 [x0,x1,x2]:=.here (.here (.here (.nil)))
def VF.h3{x0 x1 v0 v2:Value}:VF (x0::x1::x2::l) 0 [v0,v1,v2] (v0::v1::v2::l):=.here (.here (.here (.nil)))
def SJ.h4{x0 x1:Value}:SJ (x0::x1::x2::x3::l) 0 [x0,x1,x2,x3]:=.here (.here (.here (.here (.nil))))
def VF.h4{x0 x1 v0 v2:Value}:VF (x0::x1::x2::x3::l) 0 [v0,v1,v2,v3] (v0::v1::v2::v3::l):=.here (.here (.here (.here (.nil))))
def SJ.h5{x0 x1:Value}:SJ (x0::x1::x2::x3::x4::l) 0 [x0,x1,x2,x3,x4]:=.here (.here (.here (.here (.here (.nil)))))
def VF.h5{x0 x1 v0 v2:Value}:VF (x0::x1::x2::x3::x4::l) 0 [v0,v1,v2,v3,v4] (v0::v1::v2::v3::v4::l):=.here (.here (.here (.here (.here (.nil)))))
def SJ.h6{x0 x1:Value}:SJ (x0::x1::x2::x3::x4::x5::l) 0 [x0,x1,x2,x3,x4,x5]:=.here (.here (.here (.here (.here (.here (.nil))))))
def VF.h6{x0 x1 v0 v2:Value}:VF (x0::x1::x2::x3::x4::x5::l) 0 [v0,v1,v2,v3,v4,v5] (v0::v1::v2::v3::v4::v5::l):=.here (.here (.here (.here (.here (.here (.nil))))))
def SJ.h7{x0 x1:Value}:SJ (x0::x1::x2::x3::x4::x5::x6::l) 0 [x0,x1,x2,x3,x4,x5,x6]:=.here (.here (.here (.here (.here (.here (.here (.nil)))))))
def VF.h7{x0 x1 v0 v2 v6:Value}:VF (x0::x1::x2::x3::x4::x5::x6::l) 0 [v0,v1,v2,v3,v4,v5,v6] (v0::v1::v2::v3::v4::v5::v6::l):=.here (.here (.here (.here (.here (.here (.here (.nil)))))))
def SJ.h8{x0 x1:Value}:SJ (x0::x1::x2::x3::x4::x5::x6::x7::l) 0 [x0,x1,x2,x3,x4,x5,x6,x7]:=.here (.here (.here (.here (.here (.here (.here (.here (.nil))))))))
def VF.h8{x0 x1 v0 v2 v6 v7:Value}:VF (x0::x1::x2::x3::x4::x5::x6::x7::l) 0 [v0,v1,v2,v3,v4,v5,v6,v7] (v0::v1::v2::v3::v4::v5::v6::v7::l):=.here (.here (.here (.here (.here (.here (.here (.here (.nil))))))))
def SJ.h9{x0 x1:Value}:SJ (x0::x1::x2::x3::x4::x5::x6::x7::x8::l) 0 [x0,x1,x2,x3,x4,x5,x6,x7,x8]:=.here (.here (.here (.here (.here (.here (.here (.here (.here (.nil)))))))))
def VF.h9{x0 x1 v0 v2 v6 v7 v8:Value}:VF (x0::x1::x2::x3::x4::x5::x6::x7::x8::l) 0 [v0,v1,v2,v3,v4,v5,v6,v7,v8] (v0::v1::v2::v3::v4::v5::v6::v7::v8::l):=.here (.here (.here (.here (.here (.here (.here (.here (.here (.nil)))))))))
def SJ.h10{x0 x1 x9:Value}:SJ (x0::x1::x2::x3::x4::x5::x6::x7::x8::x9::l) 0 [x0,x1,x2,x3,x4,x5,x6,x7,x8,x9]:=.here (.here (.here (.here (.here (.here (.here (.here (.here (.here (.nil))))))))))
def VF.h10{x0 x1 x9 v0 v2 v6 v7 v8 v9:Value}:VF (x0::x1::x2::x3::x4::x5::x6::x7::x8::x9::l) 0 [v0,v1,v2,v3,v4,v5,v6,v7,v8,v9] (v0::v1::v2::v3::v4::v5::v6::v7::v8::v9::l):=.here (.here (.here (.here (.here (.here (.here (.here (.here (.here (.nil))))))))))
def SJ.h11{x0 x1 x9 x10:Value}:SJ (x0::x1::x2::x3::x4::x5::x6::x7::x8::x9::x10::l) 0 [x0,x1,x2,x3,x4,x5,x6,x7,x8,x9,x10]:=.here (.here (.here (.here (.here (.here (.here (.here (.here (.here (.here (.nil)))))))))))
def VF.h11{x0 x1 x9 x10 v0 v2 v6 v7 v8 v9 v10:Value}:VF (x0::x1::x2::x3::x4::x5::x6::x7::x8::x9::x10::l) 0 [v0,v1,v2,v3,v4,v5,v6,v7,v8,v9,v10] (v0::v1::v2::v3::v4::v5::v6::v7::v8::v9::v10::l):=.here (.here (.here (.here (.here (.here (.here (.here (.here (.here (.here (.nil)))))))))))
def SJ.h12{x0 x1 x9 x10 x11:Value}:SJ (x0::x1::x2::x3::x4::x5::x6::x7::x8::x9::x10::x11::l) 0 [x0,x1,x2,x3,x4,x5,x6,x7,x8,x9,x10,x11]:=.here (.here (.here (.here (.here (.here (.here (.here (.here (.here (.here (.here (.nil))))))))))))
def VF.h12{x0 x1 x9 x10 x11 v0 v2 v6 v7 v8 v9 v10 v11:Value}:VF (x0::x1::x2::x3::x4::x5::x6::x7::x8::x9::x10::x11::l) 0 [v0,v1,v2,v3,v4,v5,v6,v7,v8,v9,v10,v11] (v0::v1::v2::v3::v4::v5::v6::v7::v8::v9::v10::v11::l):=.here (.here (.here (.here (.here (.here (.here (.here (.here (.here (.here (.here (.nil))))))))))))
def Own.u1{x0:Nat×Obj}{r:List (Nat×Obj)}:Own (x0::(b,o)::r) b o (λo'=>x0::(b,o')::r):=.there (.here)
def jj.u1{x0:Nat×Obj}{r:List (Nat×Obj)}:jj (x0::(b,o)::r) b o (x0::r):=.there (.here)
def Own.u2{x0:Nat×Obj}{r:List (Nat×Obj)}:Own (x0::x1::(b,o)::r) b o (λo'=>x0::x1::(b,o')::r):=.there (.there (.here))
def jj.u2{x0:Nat×Obj}{r:List (Nat×Obj)}:jj (x0::x1::(b,o)::r) b o (x0::x1::r):=.there (.there (.here))
def Own.u3{x0 x2:Nat×Obj}{r:List (Nat×Obj)}:Own (x0::x1::x2::(b,o)::r) b o (λo'=>x0::x1::x2::(b,o')::r):=.there (.there (.there (.here)))
def jj.u3{x0 x2:Nat×Obj}{r:List (Nat×Obj)}:jj (x0::x1::x2::(b,o)::r) b o (x0::x1::x2::r):=.there (.there (.there (.here)))
def Own.u4{x0 x2 x3:Nat×Obj}{r:List (Nat×Obj)}:Own (x0::x1::x2::x3::(b,o)::r) b o (λo'=>x0::x1::x2::x3::(b,o')::r):=.there (.there (.there (.there (.here))))
def jj.u4{x0 x2 x3:Nat×Obj}{r:List (Nat×Obj)}:jj (x0::x1::x2::x3::(b,o)::r) b o (x0::x1::x2::x3::r):=.there (.there (.there (.there (.here))))
def Own.u5{x0 x2 x3 x4:Nat×Obj}{r:List (Nat×Obj)}:Own (x0::x1::x2::x3::x4::(b,o)::r) b o (λo'=>x0::x1::x2::x3::x4::(b,o')::r):=.there (.there (.there (.there (.there (.here)))))
def jj.u5{x0 x2 x3 x4:Nat×Obj}{r:List (Nat×Obj)}:jj (x0::x1::x2::x3::x4::(b,o)::r) b o (x0::x1::x2::x3::x4::r):=.there (.there (.there (.there (.there (.here)))))
def Own.u6{x0 x2 x3 x4 x5:Nat×Obj}{r:List (Nat×Obj)}:Own (x0::x1::x2::x3::x4::x5::(b,o)::r) b o (λo'=>x0::x1::x2::x3::x4::x5::(b,o')::r):=.there (.there (.there (.there (.there (.there (.here))))))
def jj.u6{x0 x2 x3 x4 x5:Nat×Obj}{r:List (Nat×Obj)}:jj (x0::x1::x2::x3::x4::x5::(b,o)::r) b o (x0::x1::x2::x3::x4::x5::r):=.there (.there (.there (.there (.there (.there (.here))))))
def wS{a0:A0}:a0=a0/\True:=⟨rfl,trivial⟩
def wT{a0:A0}{a1:A1}:a0=a0/\a1=a1/\True:=⟨rfl,rfl,trivial⟩
def wU{a0:A0}{a1:A1}{a2:A2}:a0=a0/\a1=a1/\a2=a2/\True:=⟨rfl,rfl,rfl,trivial⟩
def wV{a0:A0}{a1:A1}{a2:A2}{a3:A3}:a0=a0/\a1=a1/\a2=a2/\a3=a3/\True:=⟨rfl,rfl,rfl,rfl,trivial⟩
def wW{a0:A0}{a1:A1}{a2:A2}{a3:A3}{a4:A4}:a0=a0/\a1=a1/\a2=a2/\a3=a3/\a4=a4/\True:=⟨rfl,rfl,rfl,rfl,rfl,trivial⟩
def wX{a0:A0}{a1:A1}{a2:A2}{a3:A3}{a4:A4}{a5:A5}:a0=a0/\a1=a1/\a2=a2/\a3=a3/\a4=a4/\a5=a5/\True:=⟨rfl,rfl,rfl,rfl,rfl,rfl,trivial⟩
def wY{a0:A0}{a1:A1}{a2:A2}{a3:A3}{a4:A4}{a5:A5}{a6:A6}:a0=a0/\a1=a1/\a2=a2/\a3=a3/\a4=a4/\a5=a5/\a6=a6/\True:=⟨rfl,rfl,rfl,rfl,rfl,rfl,rfl,trivial⟩
def wZ{a0:A0}{a1:A1}{a2:A2}{a3:A3}{a4:A4}{a5:A5}{a6:A6}{a7:A7}:a0=a0/\a1=a1/\a2=a2/\a3=a3/\a4=a4/\a5=a5/\a6=a6/\a7=a7/\True:=⟨rfl,rfl,rfl,rfl,rfl,rfl,rfl,rfl,trivial⟩
def we{a0:A0}{a1:A1}{a2:A2}{a3:A3}{a4:A4}{a5:A5}{a6:A6}{a7:A7}{a8:A8}:a0=a0/\a1=a1/\a2=a2/\a3=a3/\a4=a4/\a5=a5/\a6=a6/\a7=a7/\a8=a8/\True:=⟨rfl,rfl,rfl,rfl,rfl,rfl,rfl,rfl,rfl,trivial⟩
def wg{a0:A0}{a1:A1}{a2:A2}{a3:A3}{a4:A4}{a5:A5}{a6:A6}{a7:A7}{a8:A8}{a9:A9}:a0=a0/\a1=a1/\a2=a2/\a3=a3/\a4=a4/\a5=a5/\a6=a6/\a7=a7/\a8=a8/\a9=a9/\True:=⟨rfl,rfl,rfl,rfl,rfl,rfl,rfl,rfl,rfl,rfl,trivial⟩
def wi{a0:A0}{a1:A1}{a2:A2}{a3:A3}{a4:A4}{a5:A5}{a6:A6}{a7:A7}{a8:A8}{a9:A9}{A10:Type}{a10:A10}:a0=a0/\a1=a1/\a2=a2/\a3=a3/\a4=a4/\a5=a5/\a6=a6/\a7=a7/\a8=a8/\a9=a9/\a10=a10/\True:=⟨rfl,rfl,rfl,rfl,rfl,rfl,rfl,rfl,rfl,rfl,rfl,trivial⟩
def wj{a0:A0}{a1:A1}{a2:A2}{a3:A3}{a4:A4}{a5:A5}{a6:A6}{a7:A7}{a8:A8}{a9:A9}{A10:Type}{a10:A10}{A11:Type}{a11:A11}:a0=a0/\a1=a1/\a2=a2/\a3=a3/\a4=a4/\a5=a5/\a6=a6/\a7=a7/\a8=a8/\a9=a9/\a10=a10/\a11=a11/\True:=⟨rfl,rfl,rfl,rfl,rfl,rfl,rfl,rfl,rfl,rfl,rfl,rfl,trivial⟩
section
variable[Dr][df:Df]
section
variable{P:Program}{Q:Exit->Act->World->Prop}{N:Nat}{m:Sl}{E E0:Env}{ops:Array Oper}{l:List Oper}{w0:World}{F0:Gs}{bs:List (Nat×Obj)}{G:Gs->Prop}
theorem St.pure{p:Prop}(h:St ⟨w0,F0,bs,G⟩ w)(hp:∀w F,Fits F w->G F->p):p:=by
 obtain⟨F,h⟩:=h;exact hp w F h.fits h.hG
theorem XQ{c:Code}(p:Prop)(hp:∀w F,Fits F w->G F->p)(k:p->J P c Q N m ⟨w0,F0,bs,G⟩):J P c Q N m ⟨w0,F0,bs,G⟩:=λa w ha hw=>k (hw.pure hp) a w ha hw
theorem JN(p:Prop)(hp:∀w F,Fits F w->G F->p)(k:p->JS P ops Q l N m ⟨w0,F0,bs,G⟩):JS P ops Q l N m ⟨w0,F0,bs,G⟩:=λa w ha hw=>k (hw.pure hp) a w ha hw
theorem Yh(p:Prop)(hp:∀w F,Fits F w->G F->p)(k:p->JD P ops Q E0 l N m ⟨w0,F0,bs,G⟩):JD P ops Q E0 l N m ⟨w0,F0,bs,G⟩:=λhE a w ha hw=>k (hw.pure hp) hE a w ha hw
theorem QCm{e:Exit}(p:Prop)(hp:∀w F,Fits F w->G F->p)(k:p->Fin Q e N m ⟨w0,F0,bs,G⟩):Fin Q e N m ⟨w0,F0,bs,G⟩:=λa w ha hw=>k (hw.pure hp) a w ha hw
def J8(P:Program)(T:TypeId):Option (List Value):=match P.info? T with
 |some i=>i.zero.map λv=>v.cells.toList
 |none=>none
theorem FK(h:J8 P T=some z)(w:World):∃v,(zeroValue T).run P w = .ok v w/\v.cells=z.toArray:=by
 unfold J8 at h;split at h
 ·rename_i i hi;cases hz:i.zero with
  |none=>rw[hz]at h;cases h
  |some v =>
   rw[hz]at h;simp only[aR,aj]at h;exact⟨v,by simp[zeroValue,typeInfo,hi,hz],by rw[<-h]⟩
 cases h
def Gc(T:TypeId):Bool:=!(aY T 289)
theorem X4(h:Gc T=true){c:Array Value}{fr:Nat×Nat}:∀c' fr',Obj.cells c T fr≠.cells c' 289 fr':=by
 intro c' fr' e;injection e with _ h2 _;subst h2;simp[Gc]at h
section
variable{d:Nat}{ty:TypeId}{pos:String}{aft:Array Edge}
theorem upon_value{o:Oper}{v:Value}(h:(execOp a.eval o).run P w = .ok (.value v) w')(k:K (a.put o.dst v) w'):o.wp P a w K Q:=by
 unfold bQ;rw[h];exact k
theorem upon_skip{o:Oper}(h:(execOp a.eval o).run P w = .ok .skip w')(k:K (a.put o.dst undef) w'):o.wp P a w K Q:=by
 unfold bQ;rw[h];exact k
theorem D5{g:Option (Nat×Bool)}(hz:J8 P T=some z):
  (execOp a.eval ⟨some d,.alloc T,ty,pos,aft,g⟩).run P w = .ok (.value (.pointer (some ⟨w.heap.size,0,none⟩))) (w.alloc (.cells z.toArray T)):=by
 obtain⟨v,h1,h2⟩:=FK hz w;simp only[execOp,Instr.alloc,ak,h1,ao,aH,newVar,newRow,run_newObj,h2];rfl
theorem Qc(hz:J8 P T=some z)(k:∀b,JS P ops Q l N ((d,.pointer (some ⟨b,0,none⟩))::m) ⟨w0,F0,(b,.cells z.toArray T (0,0))::bs,G⟩)(hu:Gc T=true:=by rfl)(hd:J2 N (some d)=true:=by rfl):
  JS P ops Q (⟨some d,.alloc T,ty,pos,aft,none⟩::l) N m ⟨w0,F0,bs,G⟩:=λa w ha hw =>
 wpList_plain rfl λ_ hK=>upon_value (D5 hz) (hK _ _ (k _ _ _ (ha.put hd _) (hw.alloc _ (X4 hu))))
theorem qZ{v:Value}{g:Option (Nat×Bool)}(hx:a.eval x=v):
  (execOp a.eval ⟨some d,.box T x,ty,pos,aft,g⟩).run P w = .ok (.value (.pointer (some ⟨w.heap.size,0,none⟩))) (w.alloc (.cells v.cells T)):=by
 subst hx;simp only[execOp,Instr.box,ak,ao,aH,newVar,newRow,run_newObj];rfl
theorem Qu{vs:List Value}{v:Value}(hx:ev m x=some v)(hv:v.cells=vs.toArray)(k:∀b,JS P ops Q l N ((d,.pointer (some ⟨b,0,none⟩))::m) ⟨w0,F0,(b,.cells vs.toArray T (0,0))::bs,G⟩)(hu:Gc T=true:=by rfl)(hd:J2 N (some d)=true:=by rfl):
  JS P ops Q (⟨some d,.box T x,ty,pos,aft,none⟩::l) N m ⟨w0,F0,bs,G⟩:=λa w ha hw =>
 wpList_plain rfl λ_ hK=>upon_value (qZ (ha.ev hx)) (hK _ _ (k _ _ _ (ha.put hd _) (hv ▸ hw.alloc _ (X4 hu))))
theorem RI{e:TypeId}{sz:Nat}{parts:Array (Nat×Value)}{cs:Array Value}(ht:P.underlying t=some (.slice e))(hs:Z1 P e=some (g,sz))(hz:J8 P e=some z)(h24:n*sz<=2^24)(hn:n*sz≠0)
  (hf:ee (λi=>some (i*sz,sz)) ((fl (n*sz)).map λi=>z.toArray[i%z.toArray.size]!) parts.toList=some cs) :
  (fT t n parts).run P w = .ok (.slice (some ⟨w.heap.size,0,none⟩) n n) (w.alloc (.cells cs e)):=by
 obtain⟨v,h1,h2⟩:=FK hz w;have h3:¬n*sz>2^24:=O;simp only[fT,ak,run_underlying ht,ao,KX hs,if_neg h3,aH,if_neg hn,h1,h2,hf,newRow,run_newObj];rfl
def WY(m:Sl):List (Nat×Operand)->Option (List (Nat×Value))
 |[]=>some []
 |(i,x)::r=>match ev m x,WY m r with
  |some v,some l=>some ((i,v)::l)
  |_,_=>none
theorem JH.parts(h:JH N m a):∀ {l:List (Nat×Operand)} {vs:List (Nat×Value)},WY m l=some vs->l.map (λ(i,x)=>(i,a.eval x))=vs
 |[],vs,e=>by simpa[WY]using e
 |(i,x)::l,vs,e=>by
  unfold WY at e;cases hx:YtpmehagnedbkhaaGreatDoor.ev m x with
  |none=>rw[hx]at e;simp at e
  |some v =>
   cases hl:WY m l with
   |none=>rw[hx,hl]at e;simp at e
   |some r =>
    rw[hx,hl]at e;simp only[aj]at e;subst e;rw[bU,h.parts hl];show(i,a.eval x)::r=_;rw[h.ev hx]
def Yu(sz:Nat):Nat->List (Nat×Value)->Option (List Value)
 |_,[]=>some []
 |k,(i,v)::r=>if i=k/\v.cells.size=sz then(Yu sz (k+1) r).map (v.cells.toList++·)else none
theorem Da{sz:Nat}:∀(parts:List (Nat×Value)) (k:Nat) (cs:List Value) (cur:Array Value),Yu sz k parts=some cs->k*sz+cs.length=cur.size ->
  ee (λi=>some (i*sz,sz)) cur parts=some (cur.toList.take (k*sz)++cs).toArray
 |[],k,cs,cur,h,hl=>by
  simp only[Yu,aj]at h;subst h;simp only[List.length_nil,fh]at hl;simp[ee,af,hl]
 |(i,v)::r,k,cs,cur,h,hl=>by
  simp only[Yu]at h;split at h
  ·rename_i hk;obtain⟨rfl,hv⟩:=hk;cases hr:Yu sz (i+1) r with
   |none=>rw[hr]at h;cases h
   |some cs' =>
    rw[hr]at h;simp only[aR,aj]at h;subst h;have hlen:v.cells.toList.length=sz:=by simpa using hv
    rw[aI,hlen]at hl;have hmul:(i+1)*sz=i*sz+sz:=by rw[aF,lB]
    unfold ee;simp only[hv,ne_eq,not_true_eq_false,iE,decide_false,decide_eq_true_eq];rw[if_neg O];have hfold:∀(l:List Value) (j:Nat) (c:Array Value),i*sz+j+l.length<=c.size ->
      ((l.zipIdx j).foldl (λcs (x:Value×Nat)=>cs.setIfInBounds (i*sz+x.2) x.1) c)=(c.toList.take (i*sz+j)++l++c.toList.drop (i*sz+j+l.length)).toArray:=by
     intro l
     induction l with
     |nil=>intro j c hc;simp
     |cons x l ih =>
      intro j c hc;simp only[fW,eP,aP]at hc ⊢;rw[ih (j+1) _ w6];congr 1;apply List.ext_getElem?;intro q;simp only[Array.toList_setIfInBounds,ey,aI,ar,List.length_set,Array.length_toList,aP];by_cases h1:q<i*sz+j
      ·have e1:min (i*sz+(j+1)) c.size=i*sz+j+1:=O;have e2:min (i*sz+j) c.size=i*sz+j:=O;have e3:q<i*sz+j+1+l.length:=O;have e4:q<i*sz+j+(l.length+1):=O;have e5:q<i*sz+j+1:=O;simp only[e1,e2,h1,e3,e4,e5,if_true];simp[show q<i*sz+(j+1) by omega,h1,show i*sz+j≠q by omega]
      by_cases h2:q=i*sz+j
      ·subst h2;have e1:min (i*sz+(j+1)) c.size=i*sz+j+1:=O;have e2:min (i*sz+j) c.size=i*sz+j:=O;have hlt:i*sz+j<c.toList.length:=w6;simp only[e1,e2,Nat.lt_irrefl,if_false,ei];simp[show i*sz+j<i*sz+j+1+l.length by omega,show i*sz+j<i*sz+j+1 by omega,show i*sz+j<c.size by omega]
      have e1:min (i*sz+(j+1)) c.size=i*sz+j+1:=O;have e2:min (i*sz+j) c.size=i*sz+j:=O;have g1:¬q<i*sz+j+1:=O;simp only[e1,e2,h1,g1,if_false];by_cases h3:q<i*sz+j+1+l.length
      ·simp only[h3,if_true,show q<i*sz+j+(l.length+1) by omega];rw[show q-(i*sz+j)=(q-(i*sz+j+1))+1 by omega,List.getElem?_cons_succ]
      simp only[h3,if_false,show ¬q<i*sz+j+(l.length+1) by omega];rw[eG,eG,List.getElem?_set_ne O];congr 1;omega
    have e:=hfold v.cells.toList 0 cur (by rw[hlen];omega);have e0:v.cells.zipIdx.foldl (λcs (x:Value×Nat)=>cs.setIfInBounds (i*sz+x.2) x.1) cur=(v.cells.toList.zipIdx 0).foldl (λcs (x:Value×Nat)=>cs.setIfInBounds (i*sz+x.2) x.1) cur:=by
     rw[<-eE];simp
    rw[e0,e];have:=Da r (i+1) cs' (cur.toList.take (i*sz+0)++v.cells.toList++cur.toList.drop (i*sz+0+v.cells.toList.length)).toArray hr (by simp[hv];omega);rw[this];congr 2;rw[<-bB];congr 1;have hl2:(cur.toList.take (i*sz)++v.cells.toList).length=(i+1)*sz:=by simp[hv];omega
    simp only[fh];rw[List.take_append_of_le_length (by rw[hl2];exact av _),<-hl2,bG]
  cases h
theorem KF{e:TypeId}{sz:Nat}{parts:Array (Nat×Operand)}(ha:JH N m a)(hp:WY m parts.toList=some ps)(ht:P.underlying t=some (.slice e))(hs:Z1 P e=some (g,sz))(hz:J8 P e=some z)
  (hc:Yu sz 0 ps=some cs) (hl:cs.length=n*sz) (h24:iY (n*sz) 16777216=true) (hn:aY (n*sz) 0=false) :
  (execOp a.eval ⟨some d,.buildSlice t n parts,ty,pos,aft,gd⟩).run P w = .ok (.value (.slice (some ⟨w.heap.size,0,none⟩) n n)) (w.alloc (.cells cs.toArray e)):=by
 have e1:(parts.map λ(i,x)=>(i,a.eval x)).toList=ps:=by simpa using ha.parts hp
 have hf:=Da ps 0 cs ((fl (n*sz)).map λi=>z.toArray[i%z.toArray.size]!) hc (by simp[hl]);have:=RI (P:=P) (w:=w) (n:=n) (parts:=parts.map λ(i,x)=>(i,a.eval x)) ht hs hz (wk<|fq h24) (λe=>by rw[e]at hn;cases hn) (by rw[e1];exact hf);simp only[Nat.zero_mul,ir,ek]at this;simp only[execOp,ak,this,ao,aH]
theorem VN{e:TypeId}{sz:Nat}{parts:Array (Nat×Operand)}(hp:WY m parts.toList=some ps)(ht:P.underlying t=some (.slice e))(hs:Z1 P e=some (g,sz))(hz:J8 P e=some z)
  (hc:Yu sz 0 ps=some cs) (hl:cs.length=n*sz) (k:∀b,JS P ops Q l N ((d,.slice (some ⟨b,0,none⟩) n n)::m) ⟨w0,F0,(b,.cells cs.toArray e (0,0))::bs,G⟩) (h24:iY (n*sz) 16777216=true:=by rfl) (hn:aY (n*sz) 0=false:=by rfl)
  (hu:Gc e=true:=by rfl) (hd:J2 N (some d)=true:=by rfl):JS P ops Q (⟨some d,.buildSlice t n parts,ty,pos,aft,none⟩::l) N m ⟨w0,F0,bs,G⟩:=λa w ha hw =>
 wpList_plain rfl λ_ hK=>upon_value (KF ha hp ht hs hz hc hl h24 hn) (hK _ _ (k _ _ _ (ha.put hd _) (hw.alloc _ (X4 hu))))
end
section
variable{d:Option Tmp}{ty:TypeId}{pos:String}{aft:Array Edge}
theorem run_storeCells_at(g:Nat)(t:TypeId):∀(vs:List Value) (i:Nat) (off:Nat) (cur l':List Value) (w:World),w.heap[g]?=some (.cells cur.toArray t (0,0))->(∀v∈vs,v.oneCell'=true)->VF cur (off+i) vs l' ->
  ∃w',(storeCells ⟨g,off,none⟩ vs i).run P w = .ok () w'/\w'.heap=w.heap.setIfInBounds g (.cells l'.toArray t (0,0))/\w'.os=w.os/\w'.tape=w.tape/\w'.output=w.output/\w'.drawn=w.drawn
 |[],i,off,cur,l',w,hg,_,hp=>by
  have hlt:g<w.heap.size:=by rcases ax g w.heap.size with h | h;exact h;rw[ae h]at hg;cases hg
  have e:l'=cur:=by have:=hp.eq;simpa using this
  subst e;refine⟨w,rfl,?_,rfl,rfl,rfl,rfl⟩;apply eF;intro k;by_cases e:k=g
  ·subst e;rw[hg];simp[hlt]
  rw[aN (fm e)]
 |v::vs,i,off,cur,l',w,hg,h1,hp=>by
  have hle:=hp.le;simp only[aP]at hle;have hadd:(⟨g,off,none⟩:Addr).add i=⟨g,off+i,none⟩:=by unfold fA;split<;>simp_all
  have hlt:g<w.heap.size:=by rcases ax g w.heap.size with h | h;exact h;rw[ae h]at hg;cases hg
  have hcell:w.cell? ⟨g,off+i,none⟩=some (cur[off+i]' O):=by simp[eu,hg,show off+i<cur.length by omega]
  have hfro:w.frozen? ⟨g,off+i,none⟩=false:=by simp[fb,hg]
  have hst:(store ((⟨g,off,none⟩:Addr).add i) v).run P w = .ok () (w.setCell ⟨g,off+i,none⟩ v):=by
   rw[hadd,run_store P w _ v _ (h1 v wz),hcell];simp[hfro]
  have hheap:(w.setCell ⟨g,off+i,none⟩ v).heap=w.heap.setIfInBounds g (.cells (cur.set (off+i) v).toArray t (0,0)):=by
   apply eF;intro k;by_cases e:k=g
   ·subst e;show(w.heap.modify k _)[k]?=_;rw[bF,if_pos rfl,hg];simp[hlt]
   rw[aN (fm e)];simp[eC,bF,fm e]
  have hp2:VF (cur.set (off+i) v) (off+(i+1)) vs l':=by
   have key:∀(n:Nat) (cur l':List Value),VF cur n (v::vs) l'->VF (cur.set n v) (n+1) vs l':=by
    intro n
    induction n with
    |zero=>intro cur l' h;cases h with | here h=>exact .skip h
    |succ n ih=>intro cur l' h;cases h with | skip h=>exact .skip (ih _ _ h)
   exact key _ _ _ hp
  obtain⟨w',h2,h3,h4,h5,h6⟩:=run_storeCells_at g t vs (i+1) off (cur.set (off+i) v) l' (w.setCell ⟨g,off+i,none⟩ v) (by rw[hheap];simp[hlt]) (λx hx=>h1 x (by simp[hx])) hp2;refine⟨w',?_,?_,h4,h5,h6⟩
  ·simp only[storeCells,ak,hst,ao,h2]
  rw[h3,hheap];simp
theorem M8{v:Value}{vs:List Value}(hx:a.eval x = .pointer (some ⟨b,off,none⟩))(hy:a.eval y=v)(hv:v.cells=vs.toArray)(ht:Z1 P T=some (g,n))(hn:vs.length=n)
  (hb:w.heap[b]?=some (.cells c.toArray T' (0,0))) (hp:VF c off vs l') (h1:∀v∈vs,v.oneCell'=true) :
  ∃w',(execOp a.eval ⟨d,.store T x y,ty,pos,aft,gd⟩).run P w = .ok .skip w'/\w'.heap=w.heap.setIfInBounds b (.cells l'.toArray T' (0,0))/\w'.os=w.os/\w'.tape=w.tape/\w'.output=w.output/\w'.drawn=w.drawn:=by
 obtain⟨w',h2,h3⟩:=run_storeCells_at (P:=P) b T' vs 0 off c l' w hb h1 hp;refine⟨w',?_,h3⟩;subst hn;simp[execOp,hx,hy,Instr.storeAt,aO,storeVar,hv,KX ht,h2]
def RV:List Value->Prop
 |[]=>True
 |v::r=>v.oneCell'=true/\RV r
theorem Kh:∀ {l:List Value},RV l->∀v∈l,v.oneCell'=true
 |v::l,⟨h1,h2⟩,u,hu=>by
  rcases List.mem_cons.1 hu with rfl | hu
  ·exact h1
  exact Kh h2 u hu
theorem QR{v:Value}{vs:List Value}(hx:ev m x=some (.pointer (some ⟨b,off,none⟩)))(hy:ev m y=some v)(hv:v.cells=vs.toArray)(ht:Z1 P T=some (g,n))(hn:vs.length=n)
  (ho:Own bs b (.cells c.toArray T' (0,0)) f) (hp:VF c off vs l') (h1:RV vs) (k:JS P ops Q l N m ⟨w0,F0,f (.cells l'.toArray T' (0,0)),G⟩) (hu:Gc T'=true:=by rfl):JS P ops Q (⟨none,.store T x y,ty,pos,aft,none⟩::l) N m ⟨w0,F0,bs,G⟩:=λa w ha hw =>
 wpList_plain rfl λ_ hK=>by
  obtain⟨w',h2,h3⟩:=M8 (P:=P) (d:=none) (ty:=ty) (pos:=pos) (aft:=aft) (gd:=none) (ha.ev hx) (ha.ev hy) hv ht hn (hw.own ho) hp (Kh h1);obtain⟨pre,post,e1,e2⟩:=ho.split;subst e1;rw[e2]at k;exact upon_skip h2 (hK _ _ (k _ _ ha (hw.write pre h3 (X4 hu))))
end
inductive Hv:List (Nat×Obj)->Nat->Obj->(Obj->List (Nat×Obj))->List (Nat×Obj)->Prop
 |here {b:Nat} {o:Obj} {r:List (Nat×Obj)}:Hv ((b,o)::r) b o (λo'=>(b,o')::r) r
 |there {x:Nat×Obj} {l r:List (Nat×Obj)} {b:Nat} {o:Obj} {f:Obj->List (Nat×Obj)}:Hv l b o f r->Hv (x::l) b o (λo'=>x::f o') (x::r)
theorem Hv.own{l r:List (Nat×Obj)}(h:Hv l b o f r):Own l b o f:=by
 induction h with
 |here=>exact .here
 |there h ih=>exact .there ih
theorem Hv.sub{l r:List (Nat×Obj)}(h:Hv l b o f r):∀o',r.Sublist (f o'):=by
 induction h with
 |here=>exact λ_=>fe _ _
 |there h ih=>exact λo'=>(ih o').cons_cons _
theorem JU{G0:Gs->Prop}{pos:String}{ty:TypeId}{v:Value}{vs:List Value}(hx:ev m x=some (.pointer (some ⟨b,off,none⟩)))(hy:ev m y=some v)(hv:v.cells=vs.toArray)(ht:Z1 P T=some (g,n))(hn:vs.length=n)
  (ho:Hv bs b (.cells c.toArray T' (0,0)) f bs') (hs:bs0.Sublist bs') (hg0:∀F,G F->G0 F) (hp:VF c off vs l') (h1:RV vs) (k:JD P ops Q ⟨w0,F0,bs0,G0⟩ l N m ⟨w0,F0,f (.cells l'.toArray T' (0,0)),G⟩) (hu:Gc T'=true:=by rfl):JD P ops Q ⟨w0,F0,bs0,G0⟩ (⟨none,.store T x y,ty,pos,aft,none⟩::l) N m ⟨w0,F0,bs,G⟩:=λ_ a w ha hw=>by
  obtain⟨w',h2,h3⟩:=M8 (P:=P) (d:=none) (ty:=ty) (pos:=pos) (aft:=aft) (gd:=none) (ha.ev hx) (ha.ev hy) hv ht hn (hw.own ho.own) hp (Kh h1);have sub:∀o' w,St ⟨w0,F0,f o',G⟩ w->St ⟨w0,F0,bs0,G0⟩ w:=λo' w h=>h.imp (hs.trans (ho.sub o')) hg0;obtain⟨pre,post,e1,e2⟩:=ho.own.split;subst e1;have hS:St ⟨w0,F0,f (.cells l'.toArray T' (0,0)),G⟩ w':=by rw[e2];exact hw.write pre h3 (X4 hu)
  refine .inr ⟨rfl,?_⟩;rw[if_pos (by simp[aq])];exact upon_skip h2 ⟨sub _ _ hS,k (sub _) _ _ ha hS⟩
theorem JK{id:Nat}{l:List Oper}(hb0:bs0.Sublist bs)(hm:P.follows .mixedOrders=true)(hB:lexB .any l=true)(h:JD P l.toArray (ZD (Q .normal)) ⟨w0,F0,bs0,G⟩ l N m ⟨w0,F0,bs,G⟩):J P (.region id l.toArray true) Q N m ⟨w0,F0,bs,G⟩ :=
 λa w ha hw=>SZ hm hB (hw.drew.imp hb0 λ_ h=>h) (h (λ_ h=>h.imp hb0 λ_ h=>h) a _ ha hw.drew)
theorem Js{id:Nat}{l:List Oper}(n:Nat)(hb0:bs0.Sublist bs)(hm:P.follows .mixedOrders=true)(hB:RE l n=true)(hB2:lexB .any (l.take n)=true)
  (h:JD P (l.take n).toArray (ZD λa w=>wpList P l.toArray Q (l.drop n) a w) ⟨w0,F0,bs0,G⟩ (l.take n) N m ⟨w0,F0,bs,G⟩):J P (.region id l.toArray true) Q N m ⟨w0,F0,bs,G⟩ :=
 λa w ha hw=>DD n hm hB hB2 (hw.drew.imp hb0 λ_ h=>h) (h (λ_ h=>h.imp hb0 λ_ h=>h) a _ ha hw.drew)
theorem Vv{c:Code}{cs:Array Value}(hr:jj bs b (.cells cs T fr) bs')(k:J P c Q N m ⟨w0,F0,bs',λF=>G F/\F b=some (cs,T)⟩):J P c Q N m ⟨w0,F0,bs,G⟩:=λa w ha hw=>by
 obtain⟨pre,post,rfl,rfl⟩:=hr.split;exact k a w ha (hw.freeze pre)
theorem Ku{cs:Array Value}(hr:jj bs b (.cells cs T fr) bs')(k:JS P ops Q l N m ⟨w0,F0,bs',λF=>G F/\F b=some (cs,T)⟩):JS P ops Q l N m ⟨w0,F0,bs,G⟩:=λa w ha hw=>by
 obtain⟨pre,post,rfl,rfl⟩:=hr.split;exact k a w ha (hw.freeze pre)
def SA:Nat->List Value->Sl
 |_,[]=>[]
 |k,v::r=>(k,v)::SA (k+1) r
theorem Gy:∀(args:List Value) (k t:Nat) (v:Value),look (SA k args) t=some v->k<=t/\args[t-k]?=some v
 |[],k,t,v,h=>by simp[SA,look]at h
 |u::r,k,t,v,h=>by
  simp only[SA,look]at h;cases hb:aY k t with
  |true =>
   rw[hb]at h;have:k=t:=by simpa using hb
   subst this;simpa using h
  |false =>
   rw[hb]at h;obtain⟨h1,h2⟩:=Gy r (k+1) t v (by simpa using h);refine⟨O,?_⟩;rw[show t-k=(t-(k+1))+1 by omega];simpa using h2
omit [Df] in
theorem QT.intro{f:FuncId}{c:Code}{args:List Value}{val:γ->Value}{fact:γ->Gs->Prop}{G:Gs->Prop}(hf:P.funcs[f]?=some fn)(hb:fn.body=some c)(hn:(fn.name == "runtime.NumGoroutine")=false)(hN:fn.ntmps=N)(hl:iY args.length N=true)
  (hw:Fits F w) (hg:∀F',Gs.le F F'->G F') (h:J (df:=DX) P c (bodyPost P fn (SX w F val fact)) N (SA 0 args) ⟨w,F,[],G⟩):QT P f args w F val fact:=by
 refine⟨enters_of hf hn (by rw[hb];rfl),calls_of_wp hf hb (h _ w ⟨?_,rfl,λt v ht=>?_⟩ (St.start hw hg))⟩
 ·have:=fq hl
  simp[hN];omega
 obtain⟨_,h2⟩:=Gy args 0 t v ht
 have hlt:t<args.length:=by rcases ax t args.length with g | g;exact g;rw[iX,aJ g]at h2;cases h2
 simp only[iX]at h2
 rw[Array.getElem?_append,if_pos (by simpa using hlt)]
 simpa using h2
omit [Df] in
theorem QA4{val:γ->Value}{fact:γ->Gs->Prop}{bs:List (Nat×Obj)}{G:Gs->Prop}(c:γ)(hr:∀a w,JH (df:=DX) N m a->St ⟨w0,F0,bs,G⟩ w->(results fn a.tmps).run P w = .ok (val c) w)(hg:∀F,G F->fact c F):Fin (df:=DX) (bodyPost P fn (SX w0 F0 val fact)) .ret N m ⟨w0,F0,bs,G⟩:=λa w ha hw=>by
 obtain⟨F,h⟩:=id hw
 exact⟨ha.df,val c,hr a w ha hw,c,F,rfl,h.ext,h.le,h.old,h.fits,λF' hF'=>hg F' (h.g F' hF')⟩
omit [Df] in
inductive E3(P:Program)(m:Sl)(bs:List (Nat×Obj)):List ResultVar->List Value->Prop
 |nil:E3 P m bs [] []
 |tmp {t:Tmp} {v:Value} {r:List ResultVar} {vs:List Value} (h:look m t=some v) (k:E3 P m bs r vs):E3 P m bs (.tmp t::r) (v::vs)
 |QFQ {t:Tmp} {T T':TypeId} {b n:Nat} {c:List Value} {v:Value} {fr:Nat×Nat} {f:Obj->List (Nat×Obj)} {r:List ResultVar} {vs:List Value} (h:look m t=some (.pointer (some ⟨b,0,none⟩))) (ht:Z1 P T=some (false,n)) (ho:Own bs b (.cells c.toArray T' fr) f) (hg:SJ c 0 [v]) (k:E3 P m bs r vs):E3 P m bs (.cell t T::r) (v::vs)
 |JZ {t:Tmp} {T T':TypeId} {b:Nat} {c:List Value} {fr:Nat×Nat} {f:Obj->List (Nat×Obj)} {r:List ResultVar} {vs:List Value} (h:look m t=some (.pointer (some ⟨b,0,none⟩))) (ht:Z1 P T=some (true,c.length)) (ho:Own bs b (.cells c.toArray T' fr) f) (k:E3 P m bs r vs):E3 P m bs (.cell t T::r) (.agg c.toArray::vs)
def BK(tmps:Array Value):ResultVar->Sem Value
 |.tmp t=>pure (tmps.getD t undef)
 |.cell p t=>do loadVar t (<-asAddr (tmps.getD p undef))
theorem E3.run{rs:List ResultVar}{vs:List Value}(h:E3 P m bs rs vs){a:Act}{w:World}(ha:JH N m a)(hw:St ⟨w0,F0,bs,G⟩ w):
  (rs.mapM (BK a.tmps)).run P w = .ok vs w:=by
 induction h with
 |nil=>rfl
 |tmp h k ih =>
  rename_i t v r vs;have e:=ha.get _ _ h;have e2:(BK a.tmps (.tmp t)).run P w = .ok v w:=by simp[BK,e]
  rw[eZ,ak,e2];simp[ih]
 |QFQ h ht ho hg k ih =>
  rename_i t T T' b n c v fr f r vs;have e:=ha.get _ _ h;have hc:=ZI (hw.own ho) (o:=0);have:=hg.at 0 _ I;simp only[bC]at this;rw[this]at hc;have e2:(BK a.tmps (.cell t T)).run P w = .ok v w:=by simp[BK,e,asAddr,Z3 ht hc]
  rw[eZ,ak,e2];simp[ih]
 |JZ h ht ho k ih =>
  rename_i t T T' b c fr f r vs;have e:=ha.get _ _ h;have:=Kb (P:=P) ht rfl (w:=w) (b:=b) (off:=0) (λj v hv=>by rw[bC,ZI (hw.own ho)];exact hv);have e2:(BK a.tmps (.cell t T)).run P w = .ok (.agg c.toArray) w:=by simp[BK,e,asAddr,this]
  rw[eZ,ak,e2];simp[ih]
theorem Lu(fn:Func)(tmps:Array Value):results fn tmps=(do let vs <-fn.results.mapM (BK tmps);pure (if h:vs.size=1 then vs[0]else .tuple vs)):=by
 unfold results;exact congrArg (λ(g:ResultVar->Sem Value)=>(do let vs <-fn.results.mapM g;pure (if h:vs.size=1 then vs[0]else .tuple vs):Sem Value)) (funext λx=>by cases x<;>rfl)
theorem BJ{rs:List ResultVar}{vs:List Value}(hrs:fn.results=rs.toArray)(h:E3 P m bs rs vs){a:Act}{w:World}(ha:JH N m a)(hw:St ⟨w0,F0,bs,G⟩ w):
  (results fn a.tmps).run P w = .ok (match vs with | [v]=>v | vs=>.tuple vs.toArray) w:=by
 have:=h.run ha hw;rw[Lu,hrs,List.mapM_toArray];simp only[ak,Sem.run_map,this,ao,aH]
 match vs with
 |[]=>rfl
 |[v]=>rfl
 |v::u::r=>rfl
omit [Df] in
theorem QQ{val:γ->Value}{fact:γ->Gs->Prop}{bs:List (Nat×Obj)}{G:Gs->Prop}{rs:List ResultVar}{v:Value}(c:γ)(hrs:fn.results=rs.toArray)(h:E3 P m bs rs [v])(hv:val c=v)(hg:∀F,G F->fact c F):Fin (df:=DX) (bodyPost P fn (SX w0 F0 val fact)) .ret N m ⟨w0,F0,bs,G⟩ :=
 QA4 c (λa w ha hw=>by rw[hv];exact BJ hrs h ha hw) hg
omit [Df] in
theorem JY{val:γ->Value}{fact:γ->Gs->Prop}{bs:List (Nat×Obj)}{G:Gs->Prop}{rs:List ResultVar}{v:Value}{vs:List Value}(c:γ)(hrs:fn.results=rs.toArray)(h:E3 P m bs rs (v::u::vs))(hv:val c = .tuple (v::u::vs).toArray)(hg:∀F,G F->fact c F):Fin (df:=DX) (bodyPost P fn (SX w0 F0 val fact)) .ret N m ⟨w0,F0,bs,G⟩ :=
 QA4 c (λa w ha hw=>by rw[hv];exact BJ hrs h ha hw) hg
end
end
section
variable[Dr][df:Df]
section
variable{P:Program}{N:Nat}{m:Sl}{S:World->Prop}{ty:TypeId}{v:Value}
def C2:BinOp->Value->Value->Option Value
 |.add,.int .i64 a,.int .i64 b=>some (.int .i64 (IntKind.i64.wrap (a+b)))
 |.sub,.int .i64 a,.int .i64 b=>some (.int .i64 (IntKind.i64.wrap (a-b)))
 |.mul,.int .i64 a,.int .i64 b=>some (.int .i64 (IntKind.i64.wrap (a*b)))
 |.add,.int .u64 a,.int .u64 b=>some (.int .u64 (IntKind.u64.wrap (a+b)))
 |.sub,.int .u64 a,.int .u64 b=>some (.int .u64 (IntKind.u64.wrap (a-b)))
 |.mul,.int .u64 a,.int .u64 b=>some (.int .u64 (IntKind.u64.wrap (a*b)))
 |.eql,.int .i64 a,.int .i64 b=>some (.bool (a==b))
 |.neq,.int .i64 a,.int .i64 b=>some (.bool (a != b))
 |.lss,.int .i64 a,.int .i64 b=>some (.bool (decide (a<b)))
 |.leq,.int .i64 a,.int .i64 b=>some (.bool (decide (a<=b)))
 |.gtr,.int .i64 a,.int .i64 b=>some (.bool (decide (a>b)))
 |.geq,.int .i64 a,.int .i64 b=>some (.bool (decide (a>=b)))
 |.eql,.int .u64 a,.int .u64 b=>some (.bool (a==b))
 |.neq,.int .u64 a,.int .u64 b=>some (.bool (a != b))
 |.lss,.int .u64 a,.int .u64 b=>some (.bool (decide (a<b)))
 |.leq,.int .u64 a,.int .u64 b=>some (.bool (decide (a<=b)))
 |.gtr,.int .u64 a,.int .u64 b=>some (.bool (decide (a>b)))
 |.geq,.int .u64 a,.int .u64 b=>some (.bool (decide (a>=b)))
 |.eql,.int .u8 a,.int .u8 b=>some (.bool (a==b))
 |.neq,.int .u8 a,.int .u8 b=>some (.bool (a != b))
 |.lss,.int .u8 a,.int .u8 b=>some (.bool (decide (a<b)))
 |.leq,.int .u8 a,.int .u8 b=>some (.bool (decide (a<=b)))
 |.gtr,.int .u8 a,.int .u8 b=>some (.bool (decide (a>b)))
 |.geq,.int .u8 a,.int .u8 b=>some (.bool (decide (a>=b)))
 |.eql,.int .i32 a,.int .i32 b=>some (.bool (a==b))
 |.neq,.int .i32 a,.int .i32 b=>some (.bool (a != b))
 |.lss,.int .i32 a,.int .i32 b=>some (.bool (decide (a<b)))
 |.leq,.int .i32 a,.int .i32 b=>some (.bool (decide (a<=b)))
 |.gtr,.int .i32 a,.int .i32 b=>some (.bool (decide (a>b)))
 |.geq,.int .i32 a,.int .i32 b=>some (.bool (decide (a>=b)))
 |.eql,.string a,.string b=>some (.bool (a.toList==b.toList))
 |.neq,.string a,.string b=>some (.bool (!(a.toList==b.toList)))
 |_,_,_=>none
theorem zj{op:BinOp}{T:TypeId}{x y:Operand}{vx vy:Value}(h:C2 op vx vy=some v)(w:World):(do eqGuard op T x y vx vy;binOp op T vx vy:Sem Value).run P w = .ok v w:=by
  unfold C2 at h;split at h<;>first
    | (cases h;done)
    | (simp only[aj]at h
       subst h;simp[eqGuard,binOp,Op.intArith,Op.intCmp,Op.stringOp])
theorem QU{op:BinOp}{vx vy:Value}(hx:ev m x=some vx)(hy:ev m y=some vy)(h:C2 op vx vy=some v):Qt P N m S (.binOp op T x y yT) ty v:=λa w _ _ _ _ ha _=>by
 have:=zj (P:=P) (T:=T) (x:=x) (y:=y) h w;simp only[execOp,ha.ev hx,ha.ev hy];simp only[ak]at this ⊢;rw[this];rfl
theorem Qv{a b:Int}(hx:ev m x=some (.int .i64 a))(hy:ev m y=some (.int .i64 b))(h : -9223372036854775808<=a+b/\a+b<=9223372036854775807):Qt P N m S (.binOp .add T x y yT) ty (.int .i64 (a+b)):=by
 have:=QU (P:=P) (N:=N) (m:=m) (S:=S) (ty:=ty) (T:=T) (yT:=yT) (op:=.add) hx hy rfl;rw[ep _ h]at this;exact this
theorem X6{a b:Int}(hx:ev m x=some (.int .i64 a))(hy:ev m y=some (.int .i64 b))(h : -9223372036854775808<=a-b/\a-b<=9223372036854775807):Qt P N m S (.binOp .sub T x y yT) ty (.int .i64 (a-b)):=by
 have:=QU (P:=P) (N:=N) (m:=m) (S:=S) (ty:=ty) (T:=T) (yT:=yT) (op:=.sub) hx hy rfl;rw[ep _ h]at this;exact this
theorem N0{a b:Int}(hx:ev m x=some (.int .i64 a))(hy:ev m y=some (.int .i64 b))(h : -9223372036854775808<=a*b/\a*b<=9223372036854775807):Qt P N m S (.binOp .mul T x y yT) ty (.int .i64 (a*b)):=by
 have:=QU (P:=P) (N:=N) (m:=m) (S:=S) (ty:=ty) (T:=T) (yT:=yT) (op:=.mul) hx hy rfl;rw[ep _ h]at this;exact this
theorem gj{k:IntKind}{a b:Int}(hx:ev m x=some (.int k a))(hy:ev m y=some (.int k b))(h:b≠0):Qt P N m S (.binOp .quo T x y yT) ty (.int k (k.wrap (a.tdiv b))):=λs w _ _ _ _ ha _=>by
 simp[execOp,ha.ev hx,ha.ev hy,eqGuard,binOp,Op.intDiv,h]
theorem QC0{k:IntKind}{a b:Int}(hx:ev m x=some (.int k a))(hy:ev m y=some (.int k b))(h:b≠0):Qt P N m S (.binOp .rem T x y yT) ty (.int k (a.tmod b)):=λs w _ _ _ _ ha _=>by
 simp[execOp,ha.ev hx,ha.ev hy,eqGuard,binOp,Op.intDiv,h]
theorem Hp{k:IntKind}{a b:Int}(hx:ev m x=some (.int k a))(hy:ev m y=some (.int k b))(ha:0<=a)(hb:0<b):Qt P N m S (.binOp .rem T x y yT) ty (.int k (a%b)):=by
 have:=QC0 (P:=P) (N:=N) (m:=m) (S:=S) (ty:=ty) (T:=T) (yT:=yT) hx hy O;rw[Int.tmod_eq_emod_of_nonneg ha]at this;exact this
theorem yF{a b:ByteArray}(hx:ev m x=some (.string a))(hy:ev m y=some (.string b))(h:((a.size+b.size:Nat):Int)<=9223372036854775807):Qt P N m S (.binOp .add T x y yT) ty (.string (a++b)):=λs w _ _ _ _ ha _=>by
 have h':¬((a.size+b.size:Nat):Int)>IntKind.i64.max:=by
  have:IntKind.i64.max=9223372036854775807:=wu;omega
 simp only[execOp,ha.ev hx,ha.ev hy,eqGuard,binOp,Op.stringOp,if_neg h'];rfl
theorem XJ{b:Bool}(hx:ev m x=some (.bool b)):Qt P N m S (.unOp .not T x) ty (.bool (!b)):=λs w _ _ _ _ ha _=>by
 simp[execOp,ha.ev hx,Op.unary]
def N1(P:Program)(T:TypeId):Option IntKind:=match P.underlying T with
 |some (.int k)=>some k
 |_=>none
theorem LC{src dst:TypeId}{k k':IntKind}{n:Int}(hx:ev m x=some (.int k' n))(hs:(P.underlying src).isSome=true)(hk:N1 P dst=some k):Qt P N m S (.convert src dst x) ty (.int k (k.wrap n)):=λs w _ _ _ _ ha _=>by
 obtain⟨d,hd⟩:=Option.isSome_iff_exists.1 hs;unfold N1 at hk;split at hk
 ·rename_i k'' hu;cases hk;simp only[execOp,ha.ev hx,convert,ak,run_underlying hd,run_underlying hu,ao];rfl
 cases hk
theorem Cf{n:Int}(h : -9223372036854775808<=n/\n<=9223372036854775807):IntKind.i64.wrap n=n:=ep _ h
def Bo(P:Program)(T:TypeId):Bool:=match P.underlying T with
 |some .string=>true
 |_=>false
theorem YH{b:Builtin}{args:Array Operand}{tys:Array TypeId}{d:Option Tmp}{pos:String}{g:Option (Nat×Bool)}:execOp a.eval ⟨d,.call ⟨.builtin b,args,tys⟩,ty,pos,aft,g⟩=builtin b tys ty (args.map λ| .const _=>true | _=>false) (args.map a.eval):=rfl
theorem yD(hx:ev m x=some (.string s))(hT:Bo P T=true):Qt P N m S (.call ⟨.builtin .len,#[x],#[T]⟩) ty (.int .i64 s.size):=λa w _ _ _ _ ha _=>by
 unfold Bo at hT;split at hT
 ·rename_i hu;rw[YH];simp[builtin,im,ha.ev hx,run_underlying hu,goInt]
 cases hT
def Hc(P:Program)(T:TypeId):Option TypeId:=match P.underlying T with
 |some (.slice e)=>some e
 |_=>none
theorem Qz{e:TypeId}(h:Hc P T=some e):P.underlying T=some (.slice e):=by
 unfold Hc at h;split at h
 ·cases h;assumption
 cases h
theorem Qg{e:TypeId}{q:Option Addr}{c:Nat}(hx:ev m x=some (.slice q n c))(hT:Hc P T=some e):Qt P N m S (.call ⟨.builtin .len,#[x],#[T]⟩) ty (.int .i64 n):=λa w _ _ _ _ ha _=>by
 rw[YH];simp[builtin,im,ha.ev hx,run_underlying (Qz hT),goInt]
theorem gk{a b:Int}(hx:ev m x=some (.int .i64 a))(hy:ev m y=some (.int .i64 b)):Qt P N m S (.call ⟨.builtin .min,#[x,y],#[T,T']⟩) ty (.int .i64 (if b<a then b else a)):=λs w _ _ _ _ ha _=>by
 rw[YH];simp[builtin,ha.ev hx,ha.ev hy,Builtin.min_,Builtin.min2]
theorem yE{i:Nat}(hx:ev m x=some (.string s))(hy:ev m y=some (.int .i64 (i:Int)))(hT:Bo P T=true)(hi:i<s.size):Qt P N m S (.index T x y) ty (.int .u8 (s.data[i].toNat:Int)):=λa w _ _ _ _ ha _=>by
 unfold Bo at hT;split at hT
 ·rename_i hu;have e:s[i]?=some (s.data[i]):=by
   rw[getElem?_pos s i hi];rfl
  simp[execOp,ha.ev hx,ha.ev hy,Instr.index,asIntOf,run_underlying hu,e]
 cases hT
theorem UM{lo hi:Option Value}{l h:Nat}(hT:Bo P T=true)(hlo:(lo=none/\l=0)\/lo=some (.int .i64 (l:Int)))(hhi:(hi=none/\h=s.size)\/hi=some (.int .i64 (h:Int)))(h1:l<=h)(h2:h<=s.size)(w:World):
  (iW T (.string s) lo hi none).run P w = .ok (.string (s.extract l h)) w:=by
 unfold Bo at hT;split at hT
 ·rename_i hu;rcases hlo with ⟨rfl,rfl⟩ | rfl<;>rcases hhi with ⟨rfl,rfl⟩ | rfl <;>
   simp[iW,run_underlying hu,Instr.sliceBounds,Instr.sliceBound,asIntOf,h1,h2]
 cases hT
def OS(m:Sl):Option Operand->Option (Option Value)
 |none=>some none
 |some x=>(ev m x).map some
theorem JH.OS(h:JH N m a){x:Option Operand}{v:Option Value}(hx:OS m x=some v):x.map a.eval=v:=by
 cases x with
 |none=>simpa[YtpmehagnedbkhaaGreatDoor.OS]using hx
 |some x =>
  cases hv:YtpmehagnedbkhaaGreatDoor.ev m x with
  |none=>simp[YtpmehagnedbkhaaGreatDoor.OS,hv]at hx
  |some u=>simp[YtpmehagnedbkhaaGreatDoor.OS,hv]at hx;simp[h.ev hv,hx]
theorem Ly{lo hi:Option Operand}{vl vh:Option Value}{l h:Nat}(hx:ev m x=some (.string s))(el:OS m lo=some vl)(eh:OS m hi=some vh)(hT:Bo P T=true)
  (hlo:(vl=none/\l=0)\/vl=some (.int .i64 (l:Int))) (hhi:(vh=none/\h=s.size)\/vh=some (.int .i64 (h:Int))) (h1:l<=h) (h2:h<=s.size):Qt P N m S (.slice T x lo hi none) ty (.string (s.extract l h)):=λa w _ _ _ _ ha _=>by
 have e:=UM (P:=P) hT hlo hhi h1 h2 w;unfold Bo at hT;split at hT
 ·rename_i hu;simp[execOp,ha.ev hx,ha.OS el,ha.OS eh,Instr.sliceAt,run_underlying hu,e]
 cases hT
end
end
section
variable[Dr][df:Df]
section
variable{P:Program}{Q:Exit->Act->World->Prop}{N:Nat}{m:Sl}{E E0:Env}{ops:Array Oper}{l:List Oper}{w0:World}{F0:Gs}{bs:List (Nat×Obj)}{G:Gs->Prop}{ty:TypeId}{v:Value}{S:World->Prop}
theorem Hu(b off k:Nat):(⟨b,off,none⟩:Addr).add k=⟨b,off+k,none⟩:=by unfold fA;split<;>simp_all
theorem JL{e:TypeId}{c sz i:Nat}(hx:ev m x=some (.slice (some ⟨b,off,none⟩) n c))(hy:ev m y=some (.int .i64 (i:Int)))(hT:Hc P T=some e)(hs:Z1 P e=some (g,sz))(hi:i<n):Qt P N m S (.indexAddr T x y) ty (.pointer (some ⟨b,off+i*sz,none⟩)):=λa w _ _ _ _ ha _=>by
 simp[execOp,ha.ev hx,ha.ev hy,Instr.indexAt,asIntOf,run_underlying (Qz hT),KX hs,hi,Hu]
theorem Vz(h:ev m x=some (.pointer (some ⟨b,off,none⟩)))(ht:Z1 P T=some (false,n))(ho:Own bs b (.cells c.toArray T' fr) f)(hg:c[off]?=some v):
  Qt P N m (St ⟨w0,F0,bs,G⟩) (.load T x) ty v:=λa w _ _ _ _ ha hw=>by
 have hc:w.cell? ⟨b,off,none⟩=some v:=by rw[ZI (hw.own ho)];exact hg
 simp[execOp,ha.ev h,bN,aO,Z3 ht hc]
theorem FR{vs:List Value}(h:ev m x=some (.pointer (some ⟨b,off,none⟩)))(ht:Z1 P T=some (true,n))(ho:Own bs b (.cells c.toArray T' fr) f)(hn:vs.length=n)(hg:∀j v,vs[j]?=some v->c[off+j]?=some v):
  Qt P N m (St ⟨w0,F0,bs,G⟩) (.load T x) ty (.agg vs.toArray):=λa w _ _ _ _ ha hw=>by
 have:=Kb ht hn (w:=w) (b:=b) (off:=off) (λj v hv=>by rw[ZI (hw.own ho)];exact hg j v hv);simp[execOp,ha.ev h,bN,aO,this]
theorem VF.mk':∀(n:Nat) (l vs:List Value),n+vs.length<=l.length->VF l n vs (l.take n++vs++l.drop (n+vs.length))
 |0,l,[],_=>by simpa using VF.nil (l:=l)
 |0,x::l,v::vs,h=>by
  have:=VF.mk' 0 l vs (by simp at h ⊢;omega);simp only[ir,ek,bC,aP,List.drop_succ_cons,fY]at this ⊢;exact .here this
 |n+1,x::l,vs,h=>by
  have:=VF.mk' n l vs (by simp at h;omega);rw[eI];simpa using VF.skip (x:=x) this
 |0,[],v::vs,h=>by simp at h
 |n+1,[],vs,h=>by simp at h
inductive Q7(T:TypeId)(sz:Nat):Value->Nat->List Value->List (Nat×Obj)->Prop
 |nil:Q7 T sz (.slice none 0 0) 0 [] []
 |some {b n cap:Nat} {l rest:List Value} (h1:l.length=n*sz) (h2:l.length+rest.length=cap*sz) (h3:n<=cap) (h4:cap<=maxLen):Q7 T sz (.slice (some ⟨b,0,none⟩) n cap) n l [(b,.cells (l++rest).toArray T (0,0))]
theorem Q7.one{sz:Nat}{v:Value}{l:List Value}(h:Q7 T sz v n l ob):v.oneCell'=true/\v.cells=[v].toArray:=by
 cases h<;>exact⟨rfl,rfl⟩
structure Src(E:Env)(sz:Nat)(x:Value)(k:Nat)(news:List Value):Prop where
 len:news.length=k*sz
 rd:((∃c,x = .slice none 0 c)/\k=0/\news=[])\/∃a c,x = .slice (some a) k c/\∀w,St E w->∀j v,news[j]?=some v->w.cell? (a.add j)=some v
theorem Src.row{sz c:Nat}{cs:Array Value}(hr:∀F,G F->F b=some (cs,T))(hg:∀j v,news[j]?=some v->cs[off+j]?=some v)(hl:news.length=k*sz):Src ⟨w0,F0,bs,G⟩ sz (.slice (.some ⟨b,off,none⟩) k c) k news :=
 ⟨hl,.inr ⟨_,_,rfl,λw hw j v hv=>by rw[Hu];exact cell_of_row hw hr (hg j v hv)⟩⟩
theorem Src.nil{sz c:Nat}:Src E sz (.slice none 0 c) 0 []:=⟨wz,.inl ⟨⟨_,rfl⟩,rfl,rfl⟩⟩
def ZM(P:Program)(T:TypeId):Option Nat:=(P.info? T).map (·.bytes)
theorem DH{sz:Nat}{x:Value}(hl:news.length=k*sz)(h:((∃c,x = .slice none 0 c)/\k=0/\news=[])\/∃a c,x = .slice (some a) k c/\∀j v,news[j]?=some v->w.cell? (a.add j)=some v):
  (fk sz k x).run P w = .ok news.toArray w:=by
 rcases h with ⟨⟨_,rfl⟩,rfl,rfl⟩ | ⟨a,c,rfl,h⟩
 ·rfl
 exact run_firstCells_some (P:=P) w sz k a k c news hl h
theorem DS{e:TypeId}{sz:Nat}{x y:Value}{olds:List Value}(ht:Hc P t=some e)(hs:Z1 P e=some (g,sz))(hz:J8 P e=some z)(hzl:z.length=sz)(hby:ZM P e=some bytes)
  (hr:Q7 e sz x n olds ob) (hs2:Src ⟨w0,F0,ob++bs,G⟩ sz y k news) (hw:St ⟨w0,F0,ob++bs,G⟩ w) (h63:n+k<=9223372036854775807) (h47:(n+k)*bytes<=140737488355328) (h1:∀v∈news,v.oneCell'=true) (hu:Gc e=true) :
  ∃v' ob' w',(bX #[t,t] ty #[x,y]).run P w = .ok v' w'/\Q7 e sz v' (n+k) (olds++news) ob'/\St ⟨w0,F0,ob'++bs,G⟩ w':=by
 have hi:∃i,P.info? e=some i/\i.size=sz/\i.bytes=bytes/\∃zv,i.zero=some zv/\zv.cells=z.toArray:=by
  unfold ZM at hby;unfold J8 at hz;unfold Z1 at hs;cases hie:P.info? e with
  |none=>rw[hie]at hby;cases hby
  |some i =>
   rw[hie]at hby hz hs;dsimp only at hz hs;simp only[aR,aj]at hby;refine⟨i,rfl,?_,hby,?_⟩
   ·split at hs
    ·rename_i h1 h2;cases h2;cases hs;rfl
    cases hs
   cases hzz:i.zero with
   |none=>rw[hzz]at hz;cases hz
   |some zv=>rw[hzz]at hz;simp only[aR,aj]at hz;exact⟨zv,rfl,by rw[<-hz]⟩
 obtain⟨i,hi1,hi2,hi3,zv,hi4,hi5⟩:=hi;subst hi2 hi3;have hzc:∀q,(aE zv.cells q).toList.length=q*i.size:=λq=>by simp[aE,hi5,hzl]
 have hu':∀c fr c' fr',Obj.cells c e fr≠.cells c' 289 fr':=λc fr=>X4 hu;have new:∀ {w':World} (l rest:List Value) (v':Value) (cap:Nat) (bs':List (Nat×Obj)),St ⟨w0,F0,bs',G⟩ w'->bs.Sublist bs'->v' = .slice (some ⟨w'.heap.size,0,none⟩) (n+k) cap->l.length=(n+k)*i.size->l.length+rest.length=cap*i.size->n+k<=cap->cap<=maxLen ->
   ∃ob',Q7 e i.size v' (n+k) l ob'/\St ⟨w0,F0,ob'++bs,G⟩ (w'.alloc (.cells (l++rest).toArray e)):=by
  intro w' l rest v' cap bs' hw' hsub hv' h2 h3 h4 h5;subst hv';exact⟨_,.some h2 h3 h4 h5,(hw'.imp hsub λ_ h=>h).alloc _ (hu' _ _)⟩
 have hcut:∀need old,need<=9223372036854775807->need<=grownCap w need old e:=λneed old _=>grownCap_ge w need old e;cases hr with
 |nil =>
  simp only[bC,ek]at *
  rcases hs2.rd with ⟨⟨_,rfl⟩,rfl,rfl⟩ | ⟨a,c,rfl,hrd⟩
  ·refine⟨.slice none 0 0,[],w,?_,.nil,hw⟩;simp[bX,run_underlying (Qz ht),sizeOf,typeInfo,hi1,eV,fk]
  by_cases hk:k=0
  ·subst hk;have hn0:news=[]:=by have:=hs2.len;simp at this;exact this
   subst hn0;refine⟨.slice none 0 0,[],w,?_,.nil,hw⟩;have:=run_firstCells_some (P:=P) w i.size 0 a 0 c [] wz (λj v hv=>by simp at hv);simp[bX,run_underlying (Qz ht),sizeOf,typeInfo,hi1,eV,this]
  have hrun:=run_append_nil (P:=P) (w:=w) t ty e i zv (Qz ht) hi1 hi4 a k c news hs2.len (hrd w hw) O O O;have hge:=hcut k 0 h63;obtain⟨ob',h2,h3⟩:=new news (aE zv.cells (grownCap w k 0 e-k)).toList _ (grownCap w k 0 e) bs hw.drew QJZ rfl hs2.len (by rw[hzc,hs2.len,<-aF];congr 1;omega) hge (grownCap_le_maxLen w k 0 e (by simp only[maxLen];omega));refine⟨_,ob',_,hrun,h2,?_⟩;have e1:(news++(aE zv.cells (grownCap w k 0 e-k)).toList).toArray=news.toArray++aE zv.cells (grownCap w k 0 e-k):=by apply ef;simp
  rw[e1]at h3;exact h3
 |some g1 g2 g3 g4 =>
  rename_i b cap rest;have hbw:w.heap[b]?=some (.cells (olds++rest).toArray e (0,0)):=hw.own (f:=λo'=>(b,o')::bs) .here;have hold:∀j v,olds[j]?=some v->w.cell? ((⟨b,0,none⟩:Addr).add j)=some v:=λj v hv=>by
   rw[Hu,bC,ZI hbw,ey];have:j<olds.length:=by rcases ax j olds.length with q | q;exact q;rw[aJ q]at hv;cases hv
   rw[if_pos this];exact hv
  by_cases hroom:n+k<=cap
  ·have hmul:(n+k)*i.size<=cap*i.size:=bc _ hroom;rw[aF]at hmul;have hp:=VF.mk' (n*i.size) (olds++rest) news (by rw[aI,hs2.len];omega);obtain⟨w',h2,h3⟩:=run_storeCells_at (P:=P) b e news 0 (n*i.size) (olds++rest) _ w hbw h1 hp;have e1:(olds++rest).take (n*i.size)=olds:=by rw[<-g1];simp
   have e2:(olds++rest).drop (n*i.size+news.length)=rest.drop news.length:=by
    rw[<-g1,List.drop_append,List.drop_of_length_le O,Nat.add_sub_cancel_left,ek]
   rw[e1,e2]at h3;have hfc:=DH (P:=P) (w:=w) hs2.len (hs2.rd.imp id λ⟨a,c,h,h'⟩=>⟨a,c,h,h' w hw⟩);refine⟨.slice (some ⟨b,0,none⟩) (n+k) cap,[(b,.cells (olds++news++rest.drop news.length).toArray e (0,0))],w',?_,.some ?_ ?_ hroom g4,?_⟩
   ·have hlen:(eV y).run P w = .ok k w:=by
     rcases hs2.rd with ⟨⟨_,rfl⟩,rfl,_⟩ | ⟨a,c,rfl,_⟩<;>rfl
    simp[bX,run_underlying (Qz ht),sizeOf,typeInfo,hi1,hlen,hroom,hfc,Hu,h2]
   ·rw[aI,g1,hs2.len,aF]
   ·rw[aI,List.length_drop,hs2.len,g1];omega
   exact St.write [] hw h3 (hu' _ _)
  rcases hs2.rd with ⟨⟨_,rfl⟩,rfl,rfl⟩ | ⟨a,c,rfl,hrd⟩
  ·exact absurd g3 hroom
  have hfit:=growslice_fits (need:=n+k) (old:=cap) (bytes:=i.bytes) O h47;have hrun:=run_append_grow (P:=P) (w:=w) t ty e i zv (Qz ht) hi1 hi4 ⟨b,0,none⟩ n cap olds g1 hold a k c news hs2.len (hrd w hw) O O hfit;have hge:=hcut (n+k) cap h63;have hl2:(olds++news).length=(n+k)*i.size:=by rw[aI,g1,hs2.len,aF]
  obtain⟨ob',h2,h3⟩:=new (olds++news) (aE zv.cells (grownCap w (n+k) cap e-(n+k))).toList _ (grownCap w (n+k) cap e) _ hw.drew (fe _ _) rfl hl2 (by rw[hzc,hl2,<-aF];congr 1;omega) hge (grownCap_le_maxLen w (n+k) cap e (by simp only[maxLen];omega));refine⟨_,ob',_,hrun,h2,?_⟩;have e1:(olds++news++(aE zv.cells (grownCap w (n+k) cap e-(n+k))).toList).toArray=olds.toArray++news.toArray++aE zv.cells (grownCap w (n+k) cap e-(n+k)):=by apply ef;simp
  rw[e1]at h3;exact h3
theorem Mr{d:Nat}{pos:String}{e:TypeId}{sz:Nat}{X Y:Operand}{x y:Value}{olds:List Value}(hx:ev m X=some x)(hy:ev m Y=some y)(ht:Hc P t=some e)(hs:Z1 P e=some (g,sz))(hz:J8 P e=some z)(hzl:z.length=sz)(hby:ZM P e=some bytes)
  (hr:Q7 e sz x n olds ob) (hs2:Src ⟨w0,F0,ob++bs,G⟩ sz y k news) (h63:n+k<=9223372036854775807) (h47:(n+k)*bytes<=140737488355328) (h1:∀v∈news,v.oneCell'=true)
  (kk:∀v' ob',Q7 e sz v' (n+k) (olds++news) ob'->JS P ops Q l N ((d,v')::m) ⟨w0,F0,ob'++bs,G⟩) (hu:Gc e=true:=by rfl) (hd:J2 N (some d)=true:=by rfl) :
  JS P ops Q (⟨some d,.call ⟨.builtin .append,#[X,Y],#[t,t]⟩,ty,pos,aft,none⟩::l) N m ⟨w0,F0,ob++bs,G⟩:=λa w ha hw =>
 wpList_plain rfl λK hK=>by
  obtain⟨v',ob',w',h2,h3,h4⟩:=DS (ty:=ty) ht hs hz hzl hby hr hs2 hw h63 h47 h1 hu;refine upon_value (w':=w') (v:=v') ?_ (hK _ _ (kk v' ob' h3 _ w' (ha.put hd v') h4));rw[YH];simp[builtin,ha.ev hx,ha.ev hy,h2]
theorem Yt{d:Nat}{pos:String}{e:TypeId}{sz:Nat}{X Y:Operand}{x y:Value}{olds:List Value}{G0:Gs->Prop}(hx:ev m X=some x)(hy:ev m Y=some y)(ht:Hc P t=some e)(hs:Z1 P e=some (g,sz))(hz:J8 P e=some z)(hzl:z.length=sz)(hby:ZM P e=some bytes)
  (hr:Q7 e sz x n olds ob) (hs2:Src ⟨w0,F0,ob++bs,G⟩ sz y k news) (h63:n+k<=9223372036854775807) (h47:(n+k)*bytes<=140737488355328) (h1:∀v∈news,v.oneCell'=true) (hs0:bs0.Sublist bs) (hg0:∀F,G F->G0 F)
  (kk:∀v' ob',Q7 e sz v' (n+k) (olds++news) ob'->JD P ops Q ⟨w0,F0,bs0,G0⟩ l N ((d,v')::m) ⟨w0,F0,ob'++bs,G⟩) (hu:Gc e=true:=by rfl) (hd:J2 N (some d)=true:=by rfl) :
  JD P ops Q ⟨w0,F0,bs0,G0⟩ (⟨some d,.call ⟨.builtin .append,#[X,Y],#[t,t]⟩,ty,pos,aft,none⟩::l) N m ⟨w0,F0,ob++bs,G⟩:=λ_ a w ha hw=>by
  obtain⟨v',ob',w',h2,h3,h4⟩:=DS (ty:=ty) ht hs hz hzl hby hr hs2 hw h63 h47 h1 hu;have sub:∀w',St ⟨w0,F0,ob'++bs,G⟩ w'->St ⟨w0,F0,bs0,G0⟩ w':=λw' h=>h.imp (hs0.trans (List.sublist_append_right _ _)) hg0;refine .inr ⟨rfl,?_⟩;rw[if_pos (by simp[aq])];refine upon_value (w':=w') (v:=v') ?_ ⟨sub _ h4,kk v' ob' h3 sub _ w' (ha.put hd v') h4⟩;rw[YH];simp[builtin,ha.ev hx,ha.ev hy,h2]
def XY(z:List Value):Nat->List Value
 |0=>[]
 |n+1=>z++XY z n
theorem DM(z:List Value):∀n,(XY z n).length=n*z.length
 |0=>by simp[XY]
 |n+1=>by rw[XY,aI,DM z n,aF];omega
theorem Po(z:List Value):∀(n j:Nat),j<n*z.length->(XY z n)[j]?=z[j%z.length]?
 |0,j,h=>by simp at h
 |n+1,j,h=>by
  rw[XY,ey];split
  ·rename_i hj;rw[bJ hj]
  rename_i hj;rw[Po z n _ (by rw[aF,lB]at h;omega)];rw[<-Nat.mod_eq_sub_mod O]
theorem Uj{z:Array Value}:madeCells z (n*z.size)=(XY z.toList n).toArray:=by
 apply eF;intro j;simp only[madeCells,List.getElem?_toArray];by_cases hj:j<n*z.size
 ·have hz:0<z.size:=by rcases fP z.size with h | h;rw[h]at hj;simp at hj;exact h
  have hm:=eH j hz;rw[Po z.toList n j (by simpa using hj)];simp[hj,hm]
 have e1:(XY z.toList n)[j]?=none:=aJ (by rw[DM];simpa using hj);rw[e1,ae (by simpa using hj)]
theorem qY{e:TypeId}{sz n:Nat}{kl:IntKind}(ht:Hc P t=some e)(hs:Z1 P e=some (g,sz))(hz:J8 P e=some z)(hzl:z.length=sz)(hby:ZM P e=some bytes)(h63:(n:Int)<=9223372036854775807)(h48:n*bytes<=281474976710656):
  (ic t (.int kl n) (.int kl n)).run P w = .ok (.slice (some ⟨w.heap.size,0,none⟩) n n) (w.alloc (.cells (XY z n).toArray e)):=by
 have hi:∃i,P.info? e=some i/\i.size=sz/\i.bytes=bytes/\∃zv,i.zero=some zv/\zv.cells=z.toArray:=by
  unfold ZM at hby;unfold J8 at hz;unfold Z1 at hs;cases hie:P.info? e with
  |none=>rw[hie]at hby;cases hby
  |some i =>
   rw[hie]at hby hz hs;dsimp only at hz hs;simp only[aR,aj]at hby;refine⟨i,rfl,?_,hby,?_⟩
   ·split at hs
    ·rename_i h1 h2;cases h2;cases hs;rfl
    cases hs
   cases hzz:i.zero with
   |none=>rw[hzz]at hz;cases hz
   |some zv=>rw[hzz]at hz;simp only[aR,aj]at hz;exact⟨zv,rfl,by rw[<-hz]⟩
 obtain⟨i,hi1,hi2,hi3,zv,hi4,hi5⟩:=hi;subst hi3;have hb:(i.bytes:Int)*(n:Int)<=281474976710656:=by
  have:((n*i.bytes:Nat):Int)<=281474976710656:=O;rw[aW]at this;rw[bR];exact this
 have:=run_make (P:=P) w t e i zv (Qz ht) hi1 hi4 kl kl n n O (bK _) hb h63;rw[this];have e2:i.size=zv.cells.size:=by rw[hi5];simp;omega
 simp only[eM,e2,Uj,hi5]
theorem M3{d:Nat}{pos:String}{e:TypeId}{sz n:Nat}{X Y:Operand}{kl:IntKind}(hx:ev m X=some (.int kl (n:Int)))(hy:ev m Y=some (.int kl (n:Int)))(ht:Hc P t=some e)(hs:Z1 P e=some (g,sz))(hz:J8 P e=some z)(hzl:z.length=sz)(hby:ZM P e=some bytes)(h63:(n:Int)<=9223372036854775807)(h48:n*bytes<=281474976710656)
  (k:∀b,JS P ops Q l N ((d,.slice (some ⟨b,0,none⟩) n n)::m) ⟨w0,F0,(b,.cells (XY z n).toArray e (0,0))::bs,G⟩) (hu:Gc e=true:=by rfl) (hd:J2 N (some d)=true:=by rfl) :
  JS P ops Q (⟨some d,.makeSlice t X Y,ty,pos,aft,none⟩::l) N m ⟨w0,F0,bs,G⟩:=λa w ha hw =>
 wpList_plain rfl λ_ hK=>upon_value (by
  simp only[execOp,ha.ev hx,ha.ev hy,ak,qY ht hs hz hzl hby h63 h48,ao,aH]) (hK _ _ (k _ _ _ (ha.put hd _) (hw.alloc _ (X4 hu))))
end
end
section
variable[Dr][df:Df]
def Zy(P:Program)(T:TypeId):Option (List (Nat×Nat)):=match P.info? T,P.underlying T with
 |some _,some (.struct fields)=>fields.toList.mapM λf=>(P.info? f.type).map λi=>(f.offset,i.size)
 |_,_=>none
inductive MA(pl:List (Nat×Nat)):List (Nat×Value)->List Value->List Value->Prop
 |nil {l:List Value}:MA pl [] l l
 |cons {i off sz:Nat} {v:Value} {vs cur cur' res:List Value} {r:List (Nat×Value)} (hf:pl[i]?=some (off,sz)) (hv:v.cells=vs.toArray) (hn:vs.length=sz) (hp:VF cur off vs cur') (k:MA pl r cur' res):MA pl ((i,v)::r) cur res
theorem IL(off:Nat):∀(vs:List Value) (j:Nat) (cur cur':List Value),VF cur (off+j) vs cur'->(vs.zipIdx j).foldl (λcs (x:Value×Nat)=>cs.setIfInBounds (off+x.2) x.1) cur.toArray=cur'.toArray
 |[],j,cur,cur',h=>by have:=h.eq;simp at this;simp[this]
 |v::vs,j,cur,cur',h=>by
  have hle:=h.le;have hp2:VF (cur.set (off+j) v) (off+(j+1)) vs cur':=by
   have key:∀(n:Nat) (cur l':List Value),VF cur n (v::vs) l'->VF (cur.set n v) (n+1) vs l':=by
    intro n
    induction n with
    |zero=>intro cur l' h;cases h with | here h=>exact .skip h
    |succ n ih=>intro cur l' h;cases h with | skip h=>exact .skip (ih _ _ h)
   exact key _ _ _ h
  rw[fW,eP];have:=IL off vs (j+1) _ _ hp2;simpa using this
theorem MA.fill{cur res:List Value}(h:MA pl ps cur res):ee (pl.toArray[·]?) cur.toArray ps=some res.toArray:=by
 induction h with
 |nil=>rfl
 |cons hf hv hn hp k ih =>
  rename_i i off sz v vs cur cur' res r;have hle:=hp.le;unfold ee;have e1:pl.toArray[i]?=some (off,sz):=by simpa using hf
  simp only[e1,hv,List.size_toArray,hn,ne_eq,not_true_eq_false,decide_false,iE,decide_eq_true_eq];rw[if_neg O];have e2:vs.toArray.zipIdx.foldl (λcs (x:Value×Nat)=>cs.setIfInBounds (off+x.2) x.1) cur.toArray=cur'.toArray:=by
   have:=IL off vs 0 cur cur' (by simpa using hp);rw[<-this,<-eE];simp
  rw[e2];exact ih
section
variable{P:Program}{Q:Exit->Act->World->Prop}{N:Nat}{m:Sl}{E E0:Env}{ops:Array Oper}{l:List Oper}
theorem Za{ops':Array Oper}{l':List Oper}(h:JS P ops' Q l' N m E):JD P ops (ZD λa w=>wpList P ops' Q l' a w) E0 [] N m E:=λ_=>h
theorem Q5(h:Fin Q .normal N m E):JD P ops (ZD (Q .normal)) E0 [] N m E:=λ_=>h
theorem Qs{t:Nat}{b:Bool}(h:look m t=some (.bool b))(ht:b=true->JS P ops Q l N ((t,.bool true)::m) E)(hf:b=false->JS P ops Q l N ((t,.bool false)::m) E):JS P ops Q l N m E:=λa w ha hw=>by
 cases b with
 |true=>exact ht rfl a w ⟨ha.size,ha.df,λi v hi=>by
   simp only[look]at hi;cases hb:aY t i with
   |true=>rw[hb]at hi;have:t=i:=(by simpa using hb);subst this;exact ha.get _ _ (by rw[h];simpa using hi)
   |false=>rw[hb]at hi;exact ha.get _ _ hi⟩ hw
 |false=>exact hf rfl a w ⟨ha.size,ha.df,λi v hi=>by
   simp only[look]at hi;cases hb:aY t i with
   |true=>rw[hb]at hi;have:t=i:=(by simpa using hb);subst this;exact ha.get _ _ (by rw[h];simpa using hi)
   |false=>rw[hb]at hi;exact ha.get _ _ hi⟩ hw
theorem E7{t:Nat}{b:Bool}(h:look m t=some (.bool b))(ht:b=true->JD P ops Q E0 l N ((t,.bool true)::m) E)(hf:b=false->JD P ops Q E0 l N ((t,.bool false)::m) E):JD P ops Q E0 l N m E:=λhE a w ha hw=>by
 cases b with
 |true=>exact ht rfl hE a w ⟨ha.size,ha.df,λi v hi=>by
   simp only[look]at hi;cases hb:aY t i with
   |true=>rw[hb]at hi;have:t=i:=(by simpa using hb);subst this;exact ha.get _ _ (by rw[h];simpa using hi)
   |false=>rw[hb]at hi;exact ha.get _ _ hi⟩ hw
 |false=>exact hf rfl hE a w ⟨ha.size,ha.df,λi v hi=>by
   simp only[look]at hi;cases hb:aY t i with
   |true=>rw[hb]at hi;have:t=i:=(by simpa using hb);subst this;exact ha.get _ _ (by rw[h];simpa using hi)
   |false=>rw[hb]at hi;exact ha.get _ _ hi⟩ hw
section
variable{d:Option Tmp}{o:Op}{ty:TypeId}{pos:String}{aft:Array Edge}{g t:Nat}{want:Bool}
theorem QL(hg:(ops[g]?).bind (·.dst)=some t)(hb:look m t=some (.bool want))(ht:JS P ops Q (⟨d,o,ty,pos,aft,none⟩::l) N m E)(hd:J2 N d=true:=by rfl):JS P ops Q (⟨d,o,ty,pos,aft,some (g,want)⟩::l) N m E :=
 QCk hg hb (λ_=>ht) (λh=>by cases want<;>cases h) hd
theorem X9(hg:(ops[g]?).bind (·.dst)=some t)(hb:look m t=some (.bool want))(ht:JD P ops Q E0 (⟨d,o,ty,pos,aft,none⟩::l) N m E)(hd:J2 N d=true:=by rfl):JD P ops Q E0 (⟨d,o,ty,pos,aft,some (g,want)⟩::l) N m E :=
 QFn hg hb (λ_=>ht) (λh=>by cases want<;>cases h) hd
theorem QS{d:Nat}{b:Bool}(hg:(ops[g]?).bind (·.dst)=some t)(hb:look m t=some (.bool b))(hw:b=!want)(hf:JS P ops Q l N ((d,undef)::m) E)(hd:J2 N (some d)=true:=by rfl):JS P ops Q (⟨some d,o,ty,pos,aft,some (g,want)⟩::l) N m E :=
 QCk hg hb (λh=>by subst h;cases b<;>cases hw) (λ_=>hf) hd
theorem XP{d:Nat}{b:Bool}(hg:(ops[g]?).bind (·.dst)=some t)(hb:look m t=some (.bool b))(hw:b=!want)(hf:JD P ops Q E0 l N ((d,undef)::m) E)(hd:J2 N (some d)=true:=by rfl):JD P ops Q E0 (⟨some d,o,ty,pos,aft,some (g,want)⟩::l) N m E :=
 QFn hg hb (λh=>by subst h;cases b<;>cases hw) (λ_=>hf) hd
end
theorem QA2{x y:Code}(m':Sl)(bs':List (Nat×Obj))(G':Gs->Prop)(h1:J P x (ZD λa w=>JH N m' a/\St ⟨w0,F0,bs',G'⟩ w) N m ⟨w0,F0,bs,G⟩)(h2:J P y Q N m' ⟨w0,F0,bs',G'⟩):J P (.seq x y) Q N m ⟨w0,F0,bs,G⟩:=λa w ha hw=>by
 refine wp_seq (wp_mono (h1 a w ha hw) ?_);intro e a' w' h;cases e with
 |normal=>exact h2 a' w' h.1 h.2
 |_=>exact h.elim
theorem Jg{m':Sl}{G':Gs->Prop}(hm:Y8 m m')(hb:bs'.Sublist bs)(hg:∀F,G F->G' F):Fin (ZD λa w=>JH N m' a/\St ⟨w0,F0,bs',G'⟩ w) .normal N m ⟨w0,F0,bs,G⟩ :=
 λa w ha hw=>⟨ha.sub hm,hw.imp hb hg⟩
end
theorem Bh{x y:Code}(M:ι->Sl)(B:ι->List (Nat×Obj))(H:ι->Gs->Prop)
  (h1:J P x (ZD λa w=>∃i,JH N (M i) a/\St ⟨w0,F0,B i,H i⟩ w) N m ⟨w0,F0,bs,G⟩) (h2:∀i,J P y Q N (M i) ⟨w0,F0,B i,H i⟩):J P (.seq x y) Q N m ⟨w0,F0,bs,G⟩:=λa w ha hw=>by
 refine wp_seq (wp_mono (h1 a w ha hw) ?_);intro e a' w' h;cases e with
 |normal=>obtain⟨i,h3,h4⟩:=h;exact h2 i a' w' h3 h4
 |_=>exact h.elim
theorem ZQ{M:ι->Sl}{B:ι->List (Nat×Obj)}{H:ι->Gs->Prop}(i:ι)(hm:Y8 m (M i))(hb:(B i).Sublist bs)(hg:∀F,G F->H i F):
  Fin (ZD λa w=>∃i,JH N (M i) a/\St ⟨w0,F0,B i,H i⟩ w) .normal N m ⟨w0,F0,bs,G⟩:=λa w ha hw=>⟨i,ha.sub hm,hw.imp hb hg⟩
inductive Ou:Sl->Sl->Prop
 |refl {m:Sl}:Ou m m
 |cons {k:Nat} {v:Value} {l m:Sl} (hk:(look m k).isNone=true) (h:Ou l m):Ou ((k,v)::l) m
theorem Ou.look{l:Sl}(h:Ou l m){t:Nat}{u:Value}(hu:YtpmehagnedbkhaaGreatDoor.look m t=some u):YtpmehagnedbkhaaGreatDoor.look l t=some u:=by
 induction h with
 |refl=>exact hu
 |cons hk h ih =>
  rename_i k v l m;have hne:aY k t=false:=by
   cases hb:aY k t with
   |false=>rfl
   |true=>have:k=t:=(by simpa using hb);subst this;rw[hu]at hk;cases hk
  simp only[YtpmehagnedbkhaaGreatDoor.look,hne,cond_false];exact ih hu
section
variable{P:Program}{Q:Exit->Act->World->Prop}{N:Nat}{m l:Sl}{w0:World}{F0:Gs}{bs bs1:List (Nat×Obj)}{G G1:Gs->Prop}{x y:Code}
theorem E6(t:Nat)(v:Value)(h1:J P x (ZD λa w=>JH N ((t,v)::m) a/\St ⟨w0,F0,bs,G⟩ w) N m ⟨w0,F0,bs,G⟩)(h2:J P y Q N ((t,v)::m) ⟨w0,F0,bs,G⟩):J P (.seq x y) Q N m ⟨w0,F0,bs,G⟩:=QA2 _ _ _ h1 h2
theorem ZY{t:Nat}{v:Value}(he:Ou l m)(ht:look l t=some v)(hb:bs.Sublist bs1)(hg:∀F,G1 F->G F):Fin (ZD λa w=>JH N ((t,v)::m) a/\St ⟨w0,F0,bs,G⟩ w) .normal N l ⟨w0,F0,bs1,G1⟩:=λa w ha hw =>
 ⟨⟨ha.size,ha.df,λi u hi=>by
  simp only[look]at hi;cases hb:aY t i with
  |true=>rw[hb]at hi;have:t=i:=(by simpa using hb);subst this;exact ha.get _ _ (by rw[ht];simpa using hi)
  |false=>rw[hb]at hi;exact ha.get _ _ (he.look (by simpa using hi))⟩,hw.imp hb hg⟩
end
section
variable{P:Program}{N:Nat}{m:Sl}{S:World->Prop}{ty:TypeId}{v:Value}
theorem Qj{c:Operand}(hc:ev m c=some (.bool true))(hx:ev m x=some v)(hy:(ev m y).isSome=true):Qt P N m S (.pick c x y) ty v:=by
 obtain⟨u,hu⟩:=Option.isSome_iff_exists.1 hy;exact yA hc hx hu
theorem Qd{c:Operand}(hc:ev m c=some (.bool false))(hx:(ev m x).isSome=true)(hy:ev m y=some v):Qt P N m S (.pick c x y) ty v:=by
 obtain⟨u,hu⟩:=Option.isSome_iff_exists.1 hx;exact yA hc hu hy
theorem QBY{a:Int}(hx:ev m x=some (.int .i64 a))(hy:ev m y=some (.int .i64 1))(h:0<=a):Qt P N m S (.binOp .and T x y yT) ty (.int .i64 (a%2)):=λs w _ _ _ _ ha _=>by
 have e:IntKind.i64.wrap (((aQ 64 a &&& aQ 64 1).toNat:Nat):Int)=a%2:=by
  have h1:(aQ 64 (1:Int)).toNat=1:=rfl;rw[fM,h1,Nat.and_one_is_mod,fB];have h2:((((a%((2^64:Nat):Int)).toNat%2:Nat)):Int)=a%2:=by
   have h3:(((2^64:Nat):Int))=18446744073709551616:=wu;rw[h3];omega
  rw[h2];exact Cf O
 have h1:aQ 64 (1:Int)=1#64:=rfl;rw[h1]at e;simp[execOp,ha.ev hx,ha.ev hy,eqGuard,binOp,ib,bL];exact e
theorem z7{k:IntKind}{a:Int}(hx:ev m x=some (.int .i64 a))(hy:ev m y=some (.int k 1)):Qt P N m S (.binOp .shr T x y yT) ty (.int .i64 (a/2)):=λs w _ _ _ _ ha _=>by
 have e:a.fdiv 2=a/2:=Int.fdiv_eq_ediv_of_nonneg a wu;simp[execOp,ha.ev hx,ha.ev hy,eqGuard,binOp,iU,bL,e]
theorem GL{e:TypeId}{q:Option Addr}{c:Nat}(hx:ev m x=some (.slice q n c))(hy:ev m y=some (.slice none 0 0))(hT:Hc P T=some e):Qt P N m S (.binOp .eql T x y yT) ty (.bool q.isNone):=λa w _ _ _ _ ha _=>by
 have:=ew (P:=P) w T e q n c 0 0 (Qz hT);simp[execOp,ha.ev hx,ha.ev hy,eqGuard,this]
theorem RP{e:TypeId}{q:Option Addr}{c:Nat}(hx:ev m x=some (.slice q n c))(hy:ev m y=some (.slice none 0 0))(hT:Hc P T=some e):Qt P N m S (.binOp .neq T x y yT) ty (.bool (!q.isNone)):=λa w _ _ _ _ ha _=>by
 have:=run_neq_slice_nil_any (P:=P) w T e q n c 0 0 (Qz hT);simp[execOp,ha.ev hx,ha.ev hy,eqGuard,this]
theorem Qx{parts:Array (Nat×Operand)}{res:List Value}(hp:WY m parts.toList=some ps)(hl:Zy P T=some pl)(hz:J8 P T=some z)(hb:MA pl ps z res):Qt P N m S (.build T parts) ty (.agg res.toArray):=λa w _ _ _ _ ha _=>by
 have hbt:P.built T ps=some res.toArray:=by
  unfold Zy at hl;unfold J8 at hz;unfold Program.built;cases hi:P.info? T with
  |none=>rw[hi]at hl;cases hl
  |some i =>
   rw[hi]at hl hz;cases hu:P.underlying T with
   |none=>rw[hu]at hl;cases hl
   |some d =>
    rw[hu]at hl;cases d with
    |struct fields =>
     dsimp only at hl hz ⊢;cases hzz:i.zero with
     |none=>rw[hzz]at hz;cases hz
     |some zv =>
      rw[hzz]at hz;simp only[aR,aj]at hz;rw[hl];have:=hb.fill;rw[<-hz]at this;simpa using this
    |_=>cases hl
 have e1:(parts.map λ(i,x)=>(i,a.eval x)).toList=ps:=by simpa using ha.parts hp
 have:=run_build (P:=P) w T (parts.map λ(i,x)=>(i,a.eval x)) _ (by rw[e1];exact hbt);simp only[execOp,ak,this,ao,aH]
end
end
def QIs(n:Nat)(l:Sl):Bool:=(l.take n).all λkv=>(look (l.drop n) kv.1).isNone
theorem exd(n:Nat){l m:Sl}(hb:QIs n l=true)(hm:l.drop n=m):Ou l m:=by
 subst hm;unfold QIs at hb;have key:∀(a m:Sl),(a.all λkv=>(look m kv.1).isNone)=true->Ou (a++m) m:=by
  intro a m
  induction a with
  |nil=>intro _;exact .refl
  |cons x a ih =>
   intro h;rw[List.all_cons,bI]at h;exact .cons h.1 (ih h.2)
 have:=key _ _ hb
 rwa [fi]at this
theorem QKx[Dr]{P:Program}{N:Nat}{m:Sl}{w0:World}{F0:Gs}{fn:Func}{val:Unit->Value}{fact:Unit->Gs->Prop}{bs:List (Nat×Obj)}{G:Gs->Prop}{t:Tmp}{v:Value}(hrs:fn.results=[ResultVar.tmp t].toArray)(h:look m t=some v)(hv:val ()=v)(hg:∀F,G F->fact () F):Fin (df:=DX) (bodyPost P fn (SX w0 F0 val fact)) .ret N m ⟨w0,F0,bs,G⟩ :=
 QQ () hrs (.tmp h .nil) hv hg
def Hv.u1{x0:Nat×Obj}{r:List (Nat×Obj)}:Hv (x0::(b,o)::r) b o (λo'=>x0::(b,o')::r) (x0::r):=.there (.here)
def Hv.u2{x0:Nat×Obj}{r:List (Nat×Obj)}:Hv (x0::x1::(b,o)::r) b o (λo'=>x0::x1::(b,o')::r) (x0::x1::r):=.there (.there (.here))
def Hv.u3{x0 x2:Nat×Obj}{r:List (Nat×Obj)}:Hv (x0::x1::x2::(b,o)::r) b o (λo'=>x0::x1::x2::(b,o')::r) (x0::x1::x2::r):=.there (.there (.there (.here)))
def Hv.u4{x0 x2 x3:Nat×Obj}{r:List (Nat×Obj)}:Hv (x0::x1::x2::x3::(b,o)::r) b o (λo'=>x0::x1::x2::x3::(b,o')::r) (x0::x1::x2::x3::r):=.there (.there (.there (.there (.here))))
def Hv.u5{x0 x2 x3 x4:Nat×Obj}{r:List (Nat×Obj)}:Hv (x0::x1::x2::x3::x4::(b,o)::r) b o (λo'=>x0::x1::x2::x3::x4::(b,o')::r) (x0::x1::x2::x3::x4::r):=.there (.there (.there (.there (.there (.here)))))
def Hv.u6{x0 x2 x3 x4 x5:Nat×Obj}{r:List (Nat×Obj)}:Hv (x0::x1::x2::x3::x4::x5::(b,o)::r) b o (λo'=>x0::x1::x2::x3::x4::x5::(b,o')::r) (x0::x1::x2::x3::x4::x5::r):=.there (.there (.there (.there (.there (.there (.here))))))
theorem wM{a b:Int}(h:a=b:=by omega):some (aL .i64 a)=some (aL .i64 b):=congrArg (λz:Int=>some (aL .i64 z)) h
def wN{t:Tmp}{v:Value}(h:look m t=some v):E3 P m bs [.tmp t] [v]:=.tmp h .nil
def wO{t t':Tmp}{v v':Value}(h:look m t=some v)(h':look m t'=some v'):E3 P m bs [.tmp t,.tmp t'] [v,v']:=.tmp h (.tmp h' .nil)
def wP{v a b x y:Value}(hf:pl=[(0,1),(1,1)])(ha:u.cells=[a].toArray)(hb:v.cells=[b].toArray):MA pl [(0,u),(1,v)] [x,y] [a,b]:=by subst hf;exact .cons (vs:=[a]) I ha rfl .h1 (.cons (vs:=[b]) I hb rfl (.skip .h1) .nil)
def wH[Dr][df:Df]{P:Program}{N:Nat}{m:Sl}{w0:World}{F0:Gs}{bs:List (Nat×Obj)}{G:Gs->Prop}{T T' ty:TypeId}{x:Operand}{b:Nat}{l:List Value}{u0 u1:Value}{fr:Nat×Nat}{f:Obj->List (Nat×Obj)}(h:ev m x=some (.pointer (some ⟨b,0,none⟩)))(ht:Z1 P T=some (true,2))(ho:Own bs b (.cells (u0::u1::l).toArray T' fr) f):Qt P N m (St ⟨w0,F0,bs,G⟩) (.load T x) ty (.agg [u0,u1].toArray):=QJ (vs:=[u0,u1]) h ht ho .h2 rfl
def wI[Dr][df:Df]{P:Program}{N:Nat}{m:Sl}{w0:World}{F0:Gs}{bs:List (Nat×Obj)}{G:Gs->Prop}{T T' ty:TypeId}{x:Operand}{b:Nat}{l:List Value}{u0 u1 u2:Value}{fr:Nat×Nat}{f:Obj->List (Nat×Obj)}(h:ev m x=some (.pointer (some ⟨b,0,none⟩)))(ht:Z1 P T=some (true,3))(ho:Own bs b (.cells (u0::u1::u2::l).toArray T' fr) f):Qt P N m (St ⟨w0,F0,bs,G⟩) (.load T x) ty (.agg [u0,u1,u2].toArray):=QJ (vs:=[u0,u1,u2]) h ht ho .h3 rfl
def wJ[Dr][df:Df]{P:Program}{N:Nat}{m:Sl}{w0:World}{F0:Gs}{bs:List (Nat×Obj)}{G:Gs->Prop}{T T' ty:TypeId}{x:Operand}{b:Nat}{l:List Value}{u0 u1 u2 u3:Value}{fr:Nat×Nat}{f:Obj->List (Nat×Obj)}(h:ev m x=some (.pointer (some ⟨b,0,none⟩)))(ht:Z1 P T=some (true,4))(ho:Own bs b (.cells (u0::u1::u2::u3::l).toArray T' fr) f):Qt P N m (St ⟨w0,F0,bs,G⟩) (.load T x) ty (.agg [u0,u1,u2,u3].toArray):=QJ (vs:=[u0,u1,u2,u3]) h ht ho .h4 rfl
def wK[Dr][df:Df]{P:Program}{N:Nat}{m:Sl}{w0:World}{F0:Gs}{bs:List (Nat×Obj)}{G:Gs->Prop}{T T' ty:TypeId}{x:Operand}{b:Nat}{l:List Value}{u0 u1 u2 u3 u4 u5 u6 u7:Value}{fr:Nat×Nat}{f:Obj->List (Nat×Obj)}(h:ev m x=some (.pointer (some ⟨b,0,none⟩)))(ht:Z1 P T=some (true,8))(ho:Own bs b (.cells (u0::u1::u2::u3::u4::u5::u6::u7::l).toArray T' fr) f):Qt P N m (St ⟨w0,F0,bs,G⟩) (.load T x) ty (.agg [u0,u1,u2,u3,u4,u5,u6,u7].toArray):=QJ (vs:=[u0,u1,u2,u3,u4,u5,u6,u7]) h ht ho .h8 rfl
def wL[Dr][df:Df]{P:Program}{N:Nat}{m:Sl}{w0:World}{F0:Gs}{bs:List (Nat×Obj)}{G:Gs->Prop}{T T' ty:TypeId}{x:Operand}{b:Nat}{l:List Value}{a0 a1 a2 a3 u0 u1 u2 u3:Value}{fr:Nat×Nat}{f:Obj->List (Nat×Obj)}(h:ev m x=some (.pointer (some ⟨b,4,none⟩)))(ht:Z1 P T=some (true,4))(ho:Own bs b (.cells (a0::a1::a2::a3::u0::u1::u2::u3::l).toArray T' fr) f):Qt P N m (St ⟨w0,F0,bs,G⟩) (.load T x) ty (.agg [u0,u1,u2,u3].toArray):=QJ (vs:=[u0,u1,u2,u3]) h ht ho (.skip (.skip (.skip (.skip .h4)))) I

section
open Go Go.RowKit
section
variable[Dr][df:Df]
inductive AFr where
 |th (y:Code) | bl (id:Nat)
inductive AG where
 |j (c:Code) | s (ops:Array Oper) (l:List Oper) | f (e:Exit)
variable{P:Program}{Q:Exit->Act->World->Prop}{N:Nat}{m m':Sl}{E:Env}
@[reducible] def wC (P:Program) (Q:Exit->Act->World->Prop):List AFr->Exit->Act->World->Prop
 |[]=>Q
 |.th y::r=>Exit.then (y.wp P (wC P Q r)) (wC P Q r)
 |.bl id::r=>bj id (wC P Q r)
@[reducible] def wD (P:Program) (Q:Exit->Act->World->Prop) (N:Nat) (E:Env):AG->List AFr->Sl->Prop
 |.j c,st,m=>J P c (wC P Q st) N m E
 |.s ops l,st,m=>JS P ops (wC P Q st) l N m E
 |.f e,st,m=>Fin (wC P Q st) e N m E
def wE(m:Sl):Op->Option Value
 |.move x=>ev m x
 |.assign x=>ev m x
 |.binOp op _ x y _=>(ev m x).bind λvx=>(ev m y).bind λvy=>C2 op vx vy
 |.pick c x y=>match ev m c with
  |some (.bool true)=>if(ev m y).isSome then ev m x else none
  |some (.bool false)=>if(ev m x).isSome then ev m y else none
  |_=>none
 |.extract x i=>match ev m x with
  |some (.tuple vs)=>vs[i]?
  |_=>none
 |_=>none
def wF(N:Nat):AG->List AFr->Sl->Option (AG×List AFr×Sl)
 |.j (.seq x y),st,m=>some (.j x,.th y::st,m)
 |.j (.region _ ⟨l⟩ false),st,m=>some (.s l.toArray l,st,m)
 |.j (.block id c),st,m=>some (.j c,.bl id::st,m)
 |.j .skip,st,m=>some (.f .normal,st,m)
 |.j .ret,st,m=>some (.f .ret,st,m)
 |.j (.exit id),st,m=>some (.f (.exit id),st,m)
 |.f .normal,.th y::st,m=>some (.j y,st,m)
 |.f .normal,.bl _::st,m=>some (.f .normal,st,m)
 |.f (.exit i),.th _::st,m=>some (.f (.exit i),st,m)
 |.f (.exit i),.bl id::st,m=>match aY i id with
  |true=>some (.f .normal,st,m)
  |false=>some (.f (.exit i),st,m)
 |.f .ret,_::st,m=>some (.f .ret,st,m)
 |.s _ [],st,m=>some (.f .normal,st,m)
 |.s ops (⟨some d,o,_,_,_,none⟩::l),st,m=>match wE m o,J2 N (some d)with
  |some v,true=>some (.s ops l,st,(d,v)::m)
  |_,_=>none
 |.s ops (⟨d,o,ty,pos,aft,some (g,want)⟩::l),st,m=>match ((ops[g]?).bind (·.dst)).bind (look m),J2 N d with
  |some (.bool b),true=>match Bool.xor b want with
   |false=>some (.s ops (⟨d,o,ty,pos,aft,none⟩::l),st,m)
   |true=>some (.s ops l,st,upd m d undef)
  |_,_=>none
 |_,_,_=>none
def wG(N:Nat):Nat->AG->List AFr->Sl->Option (AG×List AFr×Sl)
 |0,g,st,m=>some (g,st,m)
 |n+1,g,st,m=>match wF N g st m with
  |some (g',st',m')=>wG N n g' st' m'
  |none=>none
theorem QI1{S:World->Prop}{ty:TypeId}{o:Op}{v:Value}(h:wE m o=some v):Qt P N m S o ty v:=by
 unfold wE at h;split at h
 ·exact QD h
 ·exact QF h
 ·obtain⟨vx,h1,h2⟩:=Option.bind_eq_some_iff.1 h;obtain⟨vy,h3,h4⟩:=Option.bind_eq_some_iff.1 h2;exact QU h1 h3 h4
 ·split at h
  ·rename_i hc;split at h
   ·rename_i hy;exact Qj hc h hy
   cases h
  ·rename_i hc;split at h
   ·rename_i hy;exact Qd hc hy h
   cases h
  cases h
 ·split at h
  ·rename_i hx;exact QX hx h
  cases h
 cases h
theorem QH4{g g':AG}{st st':List AFr}(h:wF N g st m=some (g',st',m'))(k:wD P Q N E g' st' m'):wD P Q N E g st m:=by
 unfold wF at h;split at h
 ·cases h;exact QG k
 ·cases h;exact QB k
 ·cases h;exact QV k
 ·cases h;exact QN k
 ·cases h;exact QW k
 ·cases h;exact Q2 k
 ·cases h;exact QC k
 ·cases h;exact Qk k
 ·cases h;exact QY k
 ·split at h
  ·rename_i he;cases h;have he:=Nat.eq_of_beq_eq_true he;subst he;exact QZ k
  rename_i he;cases h;exact QP he k
 ·rename_i fr _;cases h;cases fr with
  |th y=>exact Q4 k
  |bl id=>exact Qy k
 ·cases h;exact QE k
 ·split at h
  ·rename_i hv hd;cases h;exact QA (QI1 hv) k hd
  cases h
 ·split at h
  ·rename_i hb hd;obtain⟨t,h1,h2⟩:=Option.bind_eq_some_iff.1 hb;split at h
   ·rename_i hx;cases h;exact QCk h1 h2 (λ_=>k) (λe=>by subst e;simp at hx) hd
   rename_i hx;cases h;exact QCk h1 h2 (λe=>by subst e;simp at hx) (λ_=>k) hd
  cases h
 cases h
theorem ja:∀(n:Nat) {g g':AG} {st st':List AFr} {m m':Sl},wG N n g st m=some (g',st',m')->wD P Q N E g' st' m'->wD P Q N E g st m
 |0,g,g',st,st',m,m',h,k=>by cases h;exact k
 |n+1,g,g',st,st',m,m',h,k=>by
  unfold wG at h;split at h
  ·rename_i h1;exact QH4 h1 (ja n h k)
  cases h
variable(n:Nat){g':AG}{st':List AFr}
theorem wA{c:Code}(h:wG N n (.j c) [] m=some (g',st',m'))(k:wD P Q N E g' st' m'):J P c Q N m E:=ja (g:=.j c) (st:=[]) n h k
theorem wB{l:List Oper}(h:wG N n (.s ops l) [] m=some (g',st',m'))(k:wD P Q N E g' st' m'):JS P ops Q l N m E:=ja (g:=.s ops l) (st:=[]) n h k
theorem QKr{c y:Code}(h:wG N n (.j c) [.th y] m=some (g',st',m'))(k:wD P Q N E g' st' m'):J P c (Exit.then (y.wp P Q) Q) N m E:=ja (g:=.j c) (st:=[.th y]) n h k
theorem QKq{l:List Oper}{y:Code}(h:wG N n (.s ops l) [.th y] m=some (g',st',m'))(k:wD P Q N E g' st' m'):JS P ops (Exit.then (y.wp P Q) Q) l N m E:=ja (g:=.s ops l) (st:=[.th y]) n h k
theorem QKs{y:Code}(h:wG N n (.f .normal) [.th y] m=some (g',st',m'))(k:wD P Q N E g' st' m'):Fin (Exit.then (y.wp P Q) Q) .normal N m E:=ja (g:=.f .normal) (st:=[.th y]) n h k
end
end
theorem JO:Z1 prog 3=some (false,1):=wm
theorem Pp:J8 prog 3=some [.int .i64 0]:=wm
theorem Og:ZM prog 3=some 8:=wm
theorem k_3:N1 prog 3=some .i64:=wm
theorem QEE:(prog.underlying 3).isSome=true:=wm
theorem QEG:Z1 prog 5=some (false,1):=wm
theorem z_5:J8 prog 5=some [.int .u8 0]:=wm
theorem QH3:ZM prog 5=some 1:=wm
theorem Dk:Z1 prog 9=some (false,1):=wm
theorem z_9:J8 prog 9=some [.string .empty]:=wm
theorem QH2:ZM prog 9=some 16:=wm
theorem Zo:Bo prog 9=true:=wm
theorem JR:Z1 prog 41=some (false,1):=wm
theorem Ow:J8 prog 41=some [.string .empty]:=wm
theorem QFS:ZM prog 41=some 16:=wm
theorem J1:Z1 prog 56=some (true,2):=wm
theorem Xh:J8 prog 56=some [.string .empty,.string .empty]:=wm
theorem QDK:ZM prog 56=some 32:=wm
theorem Zk:Zy prog 56=some [(0,1),(1,1)]:=wm
theorem Sn:Yo prog 56 0=some (0,41):=wm
theorem Sm:Yo prog 56 1=some (1,41):=wm
theorem YT:Z1 prog 32=some (false,1):=wm
theorem H5:J8 prog 32=some [.int .i64 0]:=wm
theorem J4:Z1 prog 24=some (false,1):=wm
theorem QEA:J8 prog 24=some [.slice none 0 0]:=wm
theorem QFT:ZM prog 24=some 24:=wm
theorem XW:Hc prog 24=some 56:=wm
theorem Z6:Hc prog 37=some 41:=wm
theorem D4:Z1 prog 28=some (false,1):=wm
theorem QDR:J8 prog 28=some [.slice none 0 0]:=wm
theorem VR:Hc prog 28=some 54:=wm
theorem DP:Z1 prog 23=some (false,1):=wm
theorem DC:Hc prog 23=some 28:=wm
theorem Jz:Z1 prog 52=some (false,1):=wm
theorem JB:Hc prog 52=some 3:=wm
theorem Kv:Z1 prog 54=some (true,2):=wm
theorem Gi:J8 prog 54=some [.string .empty,.slice none 0 0]:=wm
theorem ER:Zy prog 54=some [(0,1),(1,1)]:=wm
theorem U2:Yo prog 54 0=some (0,41):=wm
theorem BW:Yo prog 54 1=some (1,52):=wm
theorem Ha:Z1 prog 91=some (false,1):=wm
theorem WU:Hc prog 91=some 289:=wm
theorem Qn:Z1 prog 93=some (true,2):=wm
theorem Wj:J8 prog 93=some [.int .i64 0,.slice none 0 0]:=wm
theorem QEd:Zy prog 93=some [(0,1),(1,1)]:=wm
theorem Rq:Yo prog 93 0=some (0,3):=wm
theorem Mh:Yo prog 93 1=some (1,91):=wm
theorem Qa:Z1 prog 95=some (true,4):=wm
theorem XZ:J8 prog 95=some [.int .i64 0,.slice none 0 0,.int .i64 0,.slice none 0 0]:=wm
theorem QDJ:ZM prog 95=some 64:=wm
theorem TL:Zy prog 95=some [(0,2),(2,2)]:=wm
theorem Yq:Yo prog 95 0=some (0,93):=wm
theorem Yp:Yo prog 95 1=some (2,93):=wm
theorem K4:Z1 prog 87=some (false,1):=wm
theorem xh:J8 prog 87=some [.slice none 0 0]:=wm
theorem QAs:ZM prog 87=some 24:=wm
theorem Vs:Hc prog 87=some 101:=wm
theorem Xv:Z1 prog 101=some (true,5):=wm
theorem GI:J8 prog 101=some [.int .i64 0,.slice none 0 0,.int .i64 0,.slice none 0 0,.slice none 0 0]:=wm
theorem QCa:ZM prog 101=some 88:=wm
theorem yV:Zy prog 101=some [(0,4),(4,1)]:=wm
theorem Wx:Yo prog 101 0=some (0,95):=wm
theorem V3:Yo prog 101 1=some (4,52):=wm
theorem YJ:Z1 prog 107=some (false,1):=wm
theorem YW:Hc prog 107=some 87:=wm
theorem XT:Hc prog 116=some 95:=wm
theorem ZL:Hc prog 226=some 32:=wm
theorem QAW:N1 prog 212=some .u64:=wm
theorem Py:Z1 prog 289=some (false,1):=wm
theorem QD9:J8 prog 289=some [.int .u64 0]:=wm
theorem Vq:Z1 prog 22=some (false,1):=wm
theorem Kx:Hc prog 22=some 9:=wm
theorem MJ:Z1 prog 342=some (false,1):=wm
theorem H9:Z1 prog 343=some (false,1):=wm
theorem Lp:Hc prog 343=some 5:=wm
theorem cP:J8 prog 345=some [.pointer none,.slice none 0 0]:=wm
theorem U4:Yo prog 345 0=some (0,342):=wm
theorem PG:Yo prog 345 1=some (1,343):=wm
theorem mixed:prog.follows .mixedOrders=true:=wm
end Go.Proofs.YtpmehagnedbkhaaGreatDoor
namespace Ig
def dv(b:Int):List Int->Int
 |[]=>0
 |x::l=>x+b*dv b l
def DG(b:Int)(l:List Int):Prop:=∀x∈l,0<=x/\x<b
def NZ(l:List Int):Prop:=l.getLast?≠some 0
@[simp] theorem kg (b:Int):dv b []=0:=rfl
@[simp] theorem Vc (b x:Int) (l:List Int):dv b (x::l)=x+b*dv b l:=rfl
theorem YE(b:Int)(l m:List Int):dv b (l++m)=dv b l+b^l.length*dv b m:=by
 induction l with
 |nil=>simp
 |cons x l ih=>simp only[fY,Vc,ih,aP];rw[aD];grind
def ZA(b x:Int)(l:List Int):dv b (l++[x])=dv b l+b^l.length*x:=by
 rw[YE];simp
def DG.nil(b:Int):DG b []:=by intro x hx;cases hx
def DG.cons{b x:Int}{l:List Int}(h0:0<=x)(h1:x<b)(h:DG b l):DG b (x::l):=by
 intro y hy;rcases List.mem_cons.1 hy with rfl | hy
 ·exact⟨h0,h1⟩
 exact h y hy
def DG.head{b x:Int}{l:List Int}(h:DG b (x::l)):0<=x/\x<b:=h x wz
def DG.tail{b x:Int}{l:List Int}(h:DG b (x::l)):DG b l:=λy hy=>h y (by simp[hy])
def DG.append{b:Int}{l m:List Int}(h:DG b l)(k:DG b m):DG b (l++m):=by
 intro x hx;rcases List.mem_append.1 hx with hx | hx
 ·exact h x hx
 exact k x hx
def DG.left{b:Int}{l m:List Int}(h:DG b (l++m)):DG b l:=λx hx=>h x (by simp[hx])
def DG.right{b:Int}{l m:List Int}(h:DG b (l++m)):DG b m:=λx hx=>h x (by simp[hx])
def DG.take{b:Int}{l:List Int}(h:DG b l)(n:Nat):DG b (l.take n):=λx hx=>h x (List.mem_of_mem_take hx)
def DG.drop{b:Int}{l:List Int}(h:DG b l)(n:Nat):DG b (l.drop n):=λx hx=>h x (List.mem_of_mem_drop hx)
def DG.replicate{b:Int}(hb:0<b)(n:Nat):DG b (ai n 0):=by
 intro x hx;have:=List.eq_of_mem_replicate hx;omega
def DG.getD{b:Int}{l:List Int}(hb:0<b)(h:DG b l)(i:Nat):0<=l.getD i 0/\l.getD i 0<b:=by
 by_cases hi:i<l.length
 ·have:l.getD i 0=l[i]:=by simp[bH,hi]
  rw[this];exact h _ (fX hi)
 have:l.getD i 0=0:=by simp[bH,hi]
 omega
def DG.set{b:Int}{l:List Int}(h:DG b l)(i:Nat){x:Int}(h0:0<=x)(h1:x<b):DG b (l.set i x):=by
 intro y hy;rcases List.mem_or_eq_of_mem_set hy with hy | rfl
 ·exact h y hy
 exact⟨h0,h1⟩
def pow_pos{b:Int}(hb:0<b)(n:Nat):0<b^n:=lD hb
def X0{b:Int}(hb:1<=b){m n:Nat}(h:m<=n):b^m<=b^n:=by
 obtain⟨k,rfl⟩:=Nat.exists_eq_add_of_le h;rw[fD];have h1:=pow_pos (b:=b) O m;have h2:=pow_pos (b:=b) O k;have h3:b^m*1<=b^m*b^k:=ag O O;omega
def JJ{b:Int}(hb:0<b):∀ {l:List Int},DG b l->0<=dv b l
 |[],_=>wz
 |x::l,h=>by
  have:=JJ hb h.tail;have:=aK (bm hb) this;have:=h.head;simp;omega
def Kn{b:Int}(hb:0<b):∀ {l:List Int},DG b l->dv b l<b^l.length
 |[],_=>wz
 |x::l,h=>by
  have h1:=Kn hb h.tail;have h2:=h.head;have h3:b*(dv b l+1)<=b*b^l.length:=ag O (bm hb);rw[aP,aD,bR (b^l.length) b];rw[fF]at h3;simp;omega
def Tk(b:Int)(n:Nat):dv b (ai n 0)=0:=by
 induction n with
 |zero=>rfl
 |succ n ih=>simp[bw,ih]
def Vu(b:Int)(l:List Int)(n:Nat)(h:n<=l.length):dv b l=dv b (l.take n)+b^n*dv b (l.drop n):=by
 have:=YE b (l.take n) (l.drop n);rw[fi,ar,aT h]at this;exact this
def GJ{α:Type}(l:List α)(n:Nat)(h:n<l.length):l.take (n+1)=l.take n++[l[n]]:=by
 rw[List.take_succ_eq_append_getElem h]
def B1(b:Int)(l:List Int)(n:Nat)(h:n<l.length):dv b (l.take (n+1))=dv b (l.take n)+b^n*l[n]:=by
 rw[GJ l n h,ZA,ar,aT O]
def R3{b:Int}(hb:0<b){l:List Int}(h:DG b l)(hn:NZ l)(hl:l≠[]):b^(l.length-1)<=dv b l:=by
 obtain⟨m,x,rfl⟩:∃m x,l=m++[x]:=⟨l.dropLast,l.getLast hl,(eQ hl).symm⟩;rw[ZA];have h1:x≠0:=by intro e;subst e;exact hn wz
 have h2:=h x wz;have h3:=JJ hb h.left;have h4:=pow_pos hb m.length;have h5:b^m.length*1<=b^m.length*x:=ag O O;simp;omega
def Je(l:List Int):List Int:=(l.reverse.dropWhile (·==0)).reverse
def Kw(l:List Int):Je (l++[0])=Je l:=by simp[Je]
def BD(l:List Int){x:Int}(h:x≠0):Je (l++[x])=l++[x]:=by simp[Je,h]
def I7:Je []=[]:=rfl
def Lo(l:List Int):l=[]\/∃m x,l=m++[x]:=by
 by_cases hl:l=[]
 ·exact .inl hl
 exact .inr ⟨l.dropLast,l.getLast hl,(eQ hl).symm⟩
def FB{P:List Int->Prop}(h0:P [])(h1:∀l x,P l->P (l++[x]))(l:List Int):P l:=by
 have:∀m:List Int,P m.reverse:=by
  intro m;induction m with
  |nil=>exact h0
  |cons x m ih=>rw[List.reverse_cons];exact h1 _ _ ih
 simpa using this l.reverse
def S4(l:List Int):∃n,l=Je l++ai n 0:=by
 induction l using FB with
 |h0=>exact⟨0,rfl⟩
 |h1 l x ih =>
  by_cases hx:x=0
  ·subst hx;obtain⟨n,hn⟩:=ih;refine⟨n+1,?_⟩;rw[Kw,List.replicate_succ',<-bB,<-hn]
  exact⟨0,by rw[BD l hx];simp⟩
def P4(l:List Int):Je l=l.take (Je l).length:=by
 obtain⟨n,hn⟩:=S4 l;have:l.take (Je l).length=(Je l++ai n 0).take (Je l).length:=by rw[<-hn]
 rw[this];simp
def ZH(b:Int)(l:List Int):dv b (Je l)=dv b l:=by
 obtain⟨n,hn⟩:=S4 l;have:dv b l=dv b (Je l++ai n 0):=by rw[<-hn]
 rw[this,YE,Tk];simp
def Zv(l:List Int):NZ (Je l):=by
 induction l using FB with
 |h0=>simp[I7,NZ]
 |h1 l x ih =>
  by_cases hx:x=0
  ·subst hx;rw[Kw];exact ih
  rw[BD l hx];simp[NZ,hx]
def DG.Je{b:Int}{l:List Int}(h:DG b l):DG b (Je l):=by rw[P4];exact h.take _
def Rz{b:Int}(hb:0<b):∀ {l m:List Int},DG b l->DG b m->l.length=m.length->dv b l=dv b m->l=m
 |[],[],_,_,_,_=>rfl
 |x::l,y::m,h,k,hl,e=>by
  have h1:=h.head;have h2:=k.head;simp only[Vc]at e;have e1:x=y:=by
   have a1:(x+b*dv b l)%b=x:=by rw[fa];exact bV h1.1 h1.2
   have a2:(y+b*dv b m)%b=y:=by rw[fa];exact bV h2.1 h2.2
   rw[<-a1,<-a2,e]
  subst e1;have e2:b*dv b l=b*dv b m:=O;have e3:=Int.eq_of_mul_eq_mul_left O e2;rw[Rz hb h.tail k.tail (by simpa using hl) e3]
def ZT{b:Int}(hb:1<b){l m:List Int}(h:DG b l)(k:DG b m)(km:NZ m)(hl:l.length<m.length):dv b l<dv b m:=by
 have h1:=Kn O h;have h2:=R3 O k km (by intro e;subst e;simp at hl);have h3:b^l.length<=b^(m.length-1):=X0 O O;omega
def ue{b:Int}(hb:1<b){l m:List Int}(h:DG b l)(k:DG b m)(hn:NZ l)(kn:NZ m)(e:dv b l=dv b m):l=m:=by
 refine Rz O h k ?_ e;rcases fV l.length m.length with g | g | g
 ·have:=ZT hb h k kn g;omega
 ·exact g
 have:=ZT hb k h hn g;omega
def W9{b:Int}(hb:1<b){l:List Int}(h:DG b l)(hn:NZ l):dv b l=0↔l=[]:=by
 constructor
 ·intro e;exact ue hb h (DG.nil b) hn (by simp[NZ]) (by simpa using e)
 rintro rfl;rfl
def D8(x:Int):Int:=if x<0 then -1 else if x=0 then 0 else 1
def YG(x y:Int):Int:=if x<y then -1 else if x=y then 0 else 1
def vF(x y:Int):YG x y=D8 (x-y):=by unfold YG D8;split<;>split<;>(try split)<;>omega
def OT{b:Int}(hb:0<b){l m:List Int}{x y:Int}(h:DG b l)(k:DG b m)(hl:l.length=m.length)(hxy:x<y):
  dv b (l++[x])<dv b (m++[y]):=by
 rw[ZA,ZA,hl];have h1:=Kn hb h;have h2:=JJ hb k;rw[hl]at h1;have h3:b^m.length*(x+1)<=b^m.length*y:=ag O (bm (pow_pos hb _));rw[fF]at h3;omega
def Oc{b:Int}(hb:0<b){l m:List Int}(h:DG b l)(k:DG b m)(hl:l.length=m.length)(n:Nat)(hn:n<l.length)
  (hs:l.drop (n+1)=m.drop (n+1)) (hxy:l[n]<m[n]' O):dv b l<dv b m:=by
 rw[Vu b l (n+1) O,Vu b m (n+1) O,hs,GJ l n hn,GJ m n O];have:=OT hb (h.take n) (k.take n) w6 hxy;omega
end Ig
namespace Go.Proofs.YtpmehagnedbkhaaGreatDoor
variable{w w' w0:World}{E N b bytes i k n off:Nat}{a:Act}{c cs l l' news z:List Value}{o:Obj}{u v1 v3 v4 v5 x2 x3 x4 x5 x6 x7 x8:Value}{A0 A1 A2 A3 A4 A5 A6 A7 A8 A9 α γ ι:Type}{T T' t yT:TypeId}{ops:Array Oper}{Q Q':Exit->Act->World->Prop}{tl:List Oper}{K:Act->World->Prop}{g:Bool}{x y:Operand}{bs bs' bs0 ob:List (Nat×Obj)}{fr:Nat×Nat}{P:Program}{f:Obj->List (Nat×Obj)}{fn:Func}{aft:Array Edge}{gd:Option (Nat×Bool)}{x1:Nat×Obj}{ps:List (Nat×Value)}{s:ByteArray}{pl:List (Nat×Nat)}{ds:List Int}{h:Int}{F F0:Gs}{G:Gs->Prop}{m:Sl}
open Go.RowKit Ig
def W:Int:=18446744073709551616
def HH:W=18446744073709551616:=rfl
def Ju:0<W:=wu
def Nv:1<W:=wu
def KB(w:World)(s:Int)(q:Option Addr)(n cap:Nat)(z:Int):Prop :=
 (q=none/\n=0/\cap=0/\s=z/\-9223372036854775808<=z/\z<=9223372036854775807) \/
 ∃(b off:Nat) (l:List Int),q=some ⟨b,off,none⟩/\n=l.length/\l.length<=cap/\(cap:Int)<=9223372036854775807/\Cells w q Jl l /\
  DG W l/\NZ l/\l≠[]/\(s=1\/s = -1)/\z=s*dv W l/\9223372036854775808<=dv W l
def Xf(w:World)(v:Value)(z:Int):Prop:=∃s q n cap,v = .agg #[.int .i64 s,.slice q n cap]/\KB w s q n cap z
theorem KB.ext(h:Ext w w'){s:Int}{q:Option Addr}{n cap:Nat}{z:Int}(hv:KB w s q n cap z):KB w' s q n cap z:=by
 rcases hv with hv | ⟨b,off,l,h1,h2,h3,h4,h5,h6⟩
 ·exact .inl hv
 exact .inr ⟨b,off,l,h1,h2,h3,h4,h5.ext h,h6⟩
theorem Xf.ext(h:Ext w w'){v:Value}{z:Int}(hv:Xf w v z):Xf w' v z:=by
 obtain⟨s,q,n,cap,rfl,hp⟩:=hv;exact⟨s,q,n,cap,rfl,hp.ext h⟩
def Xf.small(w:World){z:Int}(h0 : -9223372036854775808<=z)(h1:z<=9223372036854775807):Xf w (.agg #[.int .i64 z,.slice none 0 0]) z :=
 ⟨z,none,0,0,rfl,.inl ⟨rfl,rfl,rfl,rfl,h0,h1⟩⟩
def Zm(w:World)(R:Value->World->Prop)(e:Ending)(w':World):Prop:=∃v,e = .returned v/\R v w'/\Ext w w'
def Jm(z:Int):Int:=if z<0 then -z else z
def Ee{z:Int}(h:z<0):Jm z = -z:=if_pos h
def GS{z:Int}(h:0<=z):Jm z=z:=if_neg O
def VJ(z:Int):Jm z=z.natAbs:=by unfold Jm;split<;>omega
def sg(neg:Bool)(n:Int):Int:=if neg then -n else n
theorem y5(neg:Bool)(q:Option Addr)(cap:Nat)(w:World):
  Calls prog 232 #[.bool neg,.slice q 0 cap] w λe w'=>Zm w (λv w'=>Xf w' v 0) e w':=by
 go_enter func232,ntmps232
 go_wp2
 exact bodyPost_ret (v:=.agg #[.int .i64 0,.slice none 0 0]) (by simp[results,results232,go_sem]) I ⟨_,rfl,Xf.small _ wu wu,(Ext.refl _).alloc _⟩
theorem yz(neg:Bool)(b off cap:Nat)(x:Int)(w:World)(hc:w.cell? ⟨b,off,none⟩=some (.int .u64 x))(h0:0<=x)(h1:x<=9223372036854775807)(hb:b<w.heap.size):
  Calls prog 232 #[.bool neg,.slice (some ⟨b,off,none⟩) 1 cap] w λe w'=>Zm w (λv w'=>Xf w' v (sg neg x)) e w':=by
 cases neg
 ·go_enter func232,ntmps232
  go_wp2
  exact bodyPost_ret (v:=.agg #[.int .i64 x,.slice none 0 0]) (by simp[results,results232,go_sem]) I ⟨_,rfl,Xf.small _ O O,(Ext.refl _).alloc _⟩
 go_enter func232,ntmps232
 go_wp2
 exact bodyPost_ret (v:=.agg #[.int .i64 (-x),.slice none 0 0]) (by simp[results,results232,go_sem]) I ⟨_,rfl,Xf.small _ O O,(Ext.refl _).alloc _⟩
theorem jB(neg:Bool)(b off cap:Nat)(x:Int)(w:World)(hc:w.cell? ⟨b,off,none⟩=some (.int .u64 x))(h1:9223372036854775808<=x)(hb:b<w.heap.size):
  Calls prog 232 #[.bool neg,.slice (some ⟨b,off,none⟩) 1 cap] w λe w'=>e = .returned (.agg #[.int .i64 (if neg then -1 else 1),.slice (some ⟨b,off,none⟩) 1 cap])/\Ext w w':=by
 cases neg
 ·go_enter func232,ntmps232
  go_wp2
  exact bodyPost_ret (v:=.agg #[.int .i64 1,.slice (some ⟨b,off,none⟩) 1 cap]) (by simp[results,results232,go_sem]) I ⟨rfl,(Ext.refl _).alloc _⟩
 go_enter func232,ntmps232
 go_wp2
 exact bodyPost_ret (v:=.agg #[.int .i64 (-1),.slice (some ⟨b,off,none⟩) 1 cap]) (by simp[results,results232,go_sem]) I ⟨rfl,(Ext.refl _).alloc _⟩
theorem jA(neg:Bool)(q:Option Addr)(n cap:Nat)(w:World)(hn:2<=n):
  Calls prog 232 #[.bool neg,.slice q n cap] w λe w'=>e = .returned (.agg #[.int .i64 (if neg then -1 else 1),.slice q n cap])/\Ext w w':=by
 cases neg
 ·go_enter func232,ntmps232
  go_wp2
  exact bodyPost_ret (v:=.agg #[.int .i64 1,.slice q n cap]) (by simp[results,results232,go_sem]) I ⟨rfl,(Ext.refl _).alloc _⟩
 go_enter func232,ntmps232
 go_wp2
 exact bodyPost_ret (v:=.agg #[.int .i64 (-1),.slice q n cap]) (by simp[results,results232,go_sem]) I ⟨rfl,(Ext.refl _).alloc _⟩
theorem Wa(neg:Bool)(v:Value)(l:List Int)(w:World)(hs:SL w v Jl l)(hd:DG W l)(hn:NZ l):
  Calls prog 232 #[.bool neg,v] w λe w'=>Zm w (λv w'=>Xf w' v (sg neg (dv W l))) e w':=by
 obtain⟨q,cap,rfl,h2,h3,h4⟩:=hs
 match l,hd,hn,h2,h4 with
 |[],hd,hn,h2,h4=>exact(y5 neg q cap w).mono λe w' h=>by cases neg<;>exact h
 |[x],hd,hn,h2,h4 =>
  obtain⟨b,off,rfl,hb,hc⟩:=h4 0 wz;have hx:=hd.head;have e1:dv W [x]=x:=wz;rw[e1];by_cases hx1:x<=9223372036854775807
  ·exact yz neg b off cap x w hc hx.1 hx1 hb.lt
  refine(jB neg b off cap x w hc O hb.lt).mono λe w' ⟨h,k⟩=>⟨_,h,⟨_,_,_,_,rfl,.inr ⟨b,off,[x],rfl,rfl,h2,h3,h4.ext k,hd,hn,wz,?_,?_,by rw[e1];omega⟩⟩,k⟩
  ·cases neg<;>simp
  cases neg<;>simp[sg]
 |x::y::l,hd,hn,h2,h4 =>
  obtain⟨b,off,rfl,hb,hc⟩:=h4 0 wz;refine(jA neg _ _ cap w wz).mono λe w' ⟨h,k⟩=>⟨_,h,⟨_,_,_,_,rfl,.inr ⟨b,off,x::y::l,rfl,rfl,h2,h3,h4.ext k,hd,hn,wz,?_,?_,?_⟩⟩,k⟩
  ·cases neg<;>simp
  ·cases neg<;>simp[sg]
  have:=R3 Ju hd hn wz;have h6:=X0 (b:=W) wu (m:=1) (n:=(x::y::l).length-1) wz;have h7:W^1=18446744073709551616:=wu;omega
theorem qt(s:Int)(b off n cap:Nat)(w:World):
  Calls prog 231 #[.agg #[.int .i64 s,.slice (some ⟨b,off,none⟩) n cap]] w λe w'=>e = .returned (.tuple #[.bool (decide (s<0)),.slice (some ⟨b,off,none⟩) n cap])/\Ext w w':=by
 have hn:=λw=>run_neq_slice_nil_any (P:=prog) w 91 289 (some ⟨b,off,none⟩) n cap 0 0 underlying91;go_enter func231,ntmps231
 go_wp2
 go_quiet (fail)
 go_wp2
 go_ret2
 exact⟨rfl,((Ext.refl _).alloc _).drewN _⟩
theorem L7(w:World):
  Calls prog 231 #[.agg #[.int .i64 0,.slice none 0 0]] w λe w'=>e = .returned (.tuple #[.bool false,.slice none 0 0])/\Ext w w':=by
 have hn:=λw=>run_neq_slice_nil_any (P:=prog) w 91 289 none 0 0 0 0 underlying91;go_enter func231,ntmps231
 go_wp2
 go_ret2
 exact⟨rfl,(Ext.refl _).alloc _⟩
def qE(n:Int)(h0 : -9223372036854775808<=n)(h:n<0):IntKind.u64.wrap (wrap64 (-n))=Jm n:=by
 rw[Ee h];have e:IntKind.u64.wrap (wrap64 (-n))=(wrap64 (-n))%18446744073709551616:=by simp[il,fS,bL]
 rw[e];unfold wrap64;omega
theorem BI(n:Int)(w:World)(h0 : -9223372036854775808<=n)(h1:n<=9223372036854775807):
  Calls prog 239 #[.int .i64 n] w λe w'=>e = .returned (.int .u64 (Jm n))/\w=w':=by
 by_cases h:n<0
 ·have H:=aa (qE n h0 h);go_enter func239,ntmps239
  go_wp2
  go_ret
  exact⟨congrArg (λx=>fU (.int .u64 x)) H.out,rfl⟩
 have H:=aa (GS (z:=n) O);go_enter func239,ntmps239
 go_wp2
 go_ret
 exact⟨congrArg (λx=>fU (.int .u64 x)) H.out.symm,rfl⟩
theorem FX(z:Int)(w:World)(hz:(z==0)=false)(h0 : -9223372036854775808<=z)(h1:z<=9223372036854775807):
  Calls prog 231 #[.agg #[.int .i64 z,.slice none 0 0]] w λe w'=>(∃b,e = .returned (.tuple #[.bool (decide (z<0)),.slice (some ⟨b,0,none⟩) 1 1])/\Y5 w' b 289 Jl [Jm z])/\Ext w w':=by
 have hn:=λw=>run_neq_slice_nil_any (P:=prog) w 91 289 none 0 0 0 0 underlying91;go_enter func231,ntmps231
 go_wp2
 go_region_held3 (λw'=>w'.cell? ⟨w.heap.size,0,none⟩=some (.int .i64 z)) (go_keep) (first | (go_at_call 239;refine(BI _ _ h0 h1).mono ?_;rintro e w' ⟨rfl,rfl⟩))
 go_wp2
 go_ret2
 exact⟨⟨_,rfl,(Y5.QHX _ _ 289 Jl [Jm z] _ I wz).drew⟩,(((Ext.refl _).alloc _).alloc _).drew⟩
theorem KI(v:Value)(z:Int)(w:World)(hv:Xf w v z):
  Calls prog 231 #[v] w λe w'=>Zm w (λr w'=>∃p l,r = .tuple #[.bool (decide (z<0)),p]/\SL w' p Jl l/\DG W l/\NZ l/\dv W l=Jm z) e w':=by
 obtain⟨s,q,n,cap,rfl,hp⟩:=hv;rcases hp with ⟨rfl,rfl,rfl,rfl,h0,h1⟩ | ⟨b,off,l,rfl,rfl,h3,h4,h5,h6,h7,h8,h9,h10,h11⟩
 ·by_cases hz:s=0
  ·subst hz;exact(L7 w).mono λe w' ⟨h,k⟩=>⟨_,h,⟨_,[],rfl,SL.nil _ _,DG.nil _,by simp[NZ],rfl⟩,k⟩
  refine(FX s w (by simpa using hz) h0 h1).mono λe w' ⟨⟨b,h,hb⟩,k⟩=>⟨_,h,⟨_,[Jm s],rfl,SL.BP hb 1 (av _) wz,?_,?_,wz⟩,k⟩
  ·have:Jm s=s.natAbs:=VJ s;have:=HH;exact DG.cons O O (DG.nil _)
  have:Jm s=s.natAbs:=VJ s;simp[NZ];omega
 have hz:decide (s<0)=decide (z<0)/\dv W l=Jm z:=by
  rcases h9 with rfl | rfl
  ·rw[lE]at h10;rw[GS O];exact⟨w6,h10.symm⟩
  have:z = -dv W l:=by rw[h10];omega
  rw[Ee O];exact⟨w6,O⟩
 refine(qt s b off _ cap w).mono λe w' ⟨h,k⟩=>⟨_,h,⟨_,l,by rw[hz.1],⟨_,_,rfl,h3,h4,h5.ext k⟩,h6,h7,hz.2⟩,k⟩
def Rk{l:List Int}(h:k<l.length):l.getD k default=l[k]:=by simp[bH,h]
theorem VO(v:Value)(l:List Int)(w:World)(hs:SL w v Jl l):
  Calls prog 307 #[v] w λe w'=>(∃v',e = .returned v'/\SL w v' Jl (Je l))/\w=w':=by
 obtain⟨q,cap,rfl,hcap,hmax,hc⟩:=hs;have HC:=aa hc;clear hc;go_enter func307,ntmps307
 go_wp2
 go_loop [3] (λn=>∃k:Nat,k<=l.length/\n = .int .i64 k/\Je l=Je (l.take k)) λn=>(intOf n).toNat
 case atStart=>exact⟨l.length,av _,rfl,by rw[bG]⟩
 case round =>
  obtain⟨k,hk,rfl,he⟩:=hrel;have HE:=aa he;clear he;cases k with
  |zero =>
   go_wp2
   go_ret
   exact⟨⟨_,rfl,by rw[HE.out];exact⟨q,cap,rfl,by simp[Je],hmax,λi hi=>by simp[Je]at hi⟩⟩,rfl⟩
  |succ k =>
   obtain⟨b,off,rfl,hb,hc⟩:=HC.out k O;simp only[Jl]at hc;have HT:=aa (GJ l k O);rw[Rk O]at hc;generalize hx:l[k]=x at hc;have HX:=aa hx;clear hx;by_cases h0:x=0
   ·have h1:(x==0)=true:=by simp[h0]
    go_wp2
    go_round
    case rel=>exact⟨k,O,rfl,by rw[HE.out,HT.out,HX.out,h0,Kw]⟩
    case measure=>simp[intOf]
   have h1:(x==0)=false:=by simp[h0]
   go_wp2
   go_ret
   have e1:Je l=l.take (k+1):=by rw[HE.out,HT.out,HX.out,BD _ h0,<-HX.out,<-HT.out]
   exact⟨⟨_,rfl,by rw[e1];exact⟨_,cap,by rw[ar,aT O];rfl,by rw[ar];omega,hmax,HC.out.take _⟩⟩,rfl⟩
def sz(z:Int):Nat:=if z=0 then 0 else z.natAbs.log2+1
def MH(z:Int):z.natAbs<2^sz z:=by
 unfold sz;split
 ·simp[*]
 exact Nat.lt_log2_self
theorem XE(z:Int)(k:Nat):sz z<=k↔z.natAbs<2^k:=by
 constructor
 ·intro h;exact fO (MH z) (Nat.pow_le_pow_right wu h)
 intro h;unfold sz;split
 ·exact bT _
 rename_i hz;have:z.natAbs.log2<k:=(Nat.log2_lt O).2 h;omega
def Vx(a b:Int):sz (a*b)<=sz a+sz b:=by
 rw[XE,Int.natAbs_mul,eO];have h1:=MH a;have h2:=MH b
 calc a.natAbs*b.natAbs<=a.natAbs*2^sz b:=fI _ (Nat.le_of_lt h2)
  _<2^sz a*2^sz b:=eX h1 (Nat.pow_pos wu)
def Lj(a b:Int):sz (a+b)<=max (sz a) (sz b)+1:=by
 rw[XE,Nat.pow_succ];have h1:=(XE a (max (sz a) (sz b))).1 (Nat.le_max_left _ _);have h2:=(XE b (max (sz a) (sz b))).1 (Nat.le_max_right _ _);omega
def KZ{a b:Int}(h:a.natAbs<=b.natAbs):sz a<=sz b:=by
 rw[XE];exact Nat.lt_of_le_of_lt h (MH b)
def Vf(a:Int):sz (-a)=sz a:=by unfold sz;simp
def N3(a:Int):sz (Jm a)=sz a:=by unfold Jm;split<;>simp[Vf]
theorem QB0{l:List Int}(h:DG W l)(hn:NZ l):l.length<=sz (dv W l):=by
 by_cases hl:l=[]
 ·subst hl;simp
 have h1:=R3 Ju h hn hl;have h2:=MH (dv W l);have h0:=JJ Ju h;have h3:(2:Int)^(l.length-1)<=W^(l.length-1):=by
  generalize l.length-1=k
  induction k with
  |zero=>simp
  |succ k ih=>rw[aD,aD];exact iz ih wu wu (bm (pow_pos Ju k))
 have h4:(2:Int)^(l.length-1)<2^sz (dv W l):=by
  have:((dv W l).natAbs:Int)<((2^sz (dv W l):Nat):Int):=O;rw[aV]at this;have e:((dv W l).natAbs:Int)=dv W l:=O;rw[e]at this;have e2:((2:Nat):Int)=2:=rfl;rw[e2]at this;omega
 have h5:2^(l.length-1)<2^sz (dv W l):=by
  have:((2^(l.length-1):Nat):Int)<((2^sz (dv W l):Nat):Int):=by
   rw[aV,aV];exact h4
  omega
 have:=(Nat.pow_lt_pow_iff_right (by decide:1<2)).1 h5;omega
theorem FE(v:Value)(z:Int)(w:World)(hv:Xf w v z):
  Calls prog 140 #[v] w λe w'=>e = .returned (.int .i64 (D8 z))/\Ext w w':=by
 obtain⟨s,q,n,cap,rfl,hp⟩:=hv;have hs:D8 z=if s<0 then -1 else if s=0 then 0 else 1:=by
  rcases hp with ⟨_,_,_,rfl,_⟩ | ⟨b,off,l,_,_,_,_,_,_,_,_,h,hz,hb⟩
  ·rfl
  unfold D8;rcases h with rfl | rfl
  ·rw[lE]at hz;rw[if_neg O,if_neg O];rfl
  rw[if_pos O];rfl
 have HS:=aa hs;clear hs hp;rcases fZ s 0 with g | g | g
 all_goals
  go_enter func140,ntmps140
  go_wp2
  go_ret
  exact⟨by rw[HS.out];simp[g]<;>omega,(Ext.refl _).alloc _⟩
def KB.isNone{s:Int}{q:Option Addr}{cap:Nat}{z:Int}(h:KB w s q n cap z):
  (q=none/\n=0/\cap=0/\s=z/\-9223372036854775808<=z/\z<=9223372036854775807)\/(∃b off,q=some ⟨b,off,none⟩):=by
 rcases h with h | ⟨b,off,_,h,_⟩
 ·exact .inl h
 exact .inr ⟨b,off,h⟩
abbrev IZ:Array Value:=#[.int .i64 0,.slice none 0 0]
theorem qx(s:Int)(w:World)(h0 : -9223372036854775807<=s)(h1:s<=9223372036854775807):
  Calls prog 236 #[.agg #[.int .i64 s,.slice none 0 0]] w λe w'=>e = .returned (.agg #[.int .i64 (-s),.slice none 0 0])/\Ext w w':=by
 have hn:=λw=>ew (P:=prog) w 91 289 none 0 0 0 0 underlying91;have hm':(s != -9223372036854775808)=true:=w6;go_enter func236,ntmps236
 go_wp2
 exact bodyPost_ret (v:=.agg #[.int .i64 (-s),.slice none 0 0]) (by simp[results,results236,go_sem]) I ⟨rfl,((Ext.refl _).alloc _).alloc _⟩
theorem KB.kp(h:Kp w w'){s:Int}{q:Option Addr}{n cap:Nat}{z:Int}(hv:KB w s q n cap z):KB w' s q n cap z:=by
 rcases hv with hv | ⟨b,off,l,h1,h2,h3,h4,h5,h6⟩
 ·exact .inl hv
 exact .inr ⟨b,off,l,h1,h2,h3,h4,h5.kp h wu,h6⟩
def Ff:¬DT 93:=wu
def Kp.Dq{a:World}(h:Kp a w){R T:Nat}(hT:VZ w R T)(hD:¬DT T)(v0 v1:Value):Kp a ((w.setCell ⟨R,0,none⟩ v0).setCell ⟨R,1,none⟩ v1) :=
 (h.set hT hD 0 v0).set (hT.set _ _ _) hD 1 v1
theorem TT(s:Int)(q:Option Addr)(n cap:Nat)(z:Int)(w:World)(hv:KB w s q n cap z)(hq:q.isNone=false\/(s != -9223372036854775808)=false):
  Calls prog 236 #[.agg #[.int .i64 s,.slice q n cap]] w λe w'=>Zm w (λv w'=>Xf w' v (-z)) e w':=by
 have hn:=λw=>ew (P:=prog) w 91 289 q n cap 0 0 underlying91;have hz0:Hid (sg (!decide (z<0)) (Jm z) = -z):=by
  show sg (!decide (z<0)) (Jm z) = -z;unfold sg Jm;by_cases h:z<0<;>simp[h]
 have HV:Hid (Xf w (.agg #[.int .i64 s,.slice q n cap]) z):=⟨_,_,_,_,rfl,hv⟩;have hB:Bx ((w.alloc (.cells #[.int .i64 s,.slice q n cap] 93)).alloc (.cells IZ 93)) (w.heap.size+1) 93 IZ.toList:=by
  have:=Bx.new (w.alloc (.cells #[.int .i64 s,.slice q n cap] 93)) 93 IZ;simpa using this
 have HB:=aa hB;clear hB hv;cases hqn:q.isNone
 all_goals
  rw[hqn]at hq;simp only[reduceCtorEq,true_or,false_or]at hq;rw[hqn]at hn;clear hqn;go_enter func236,ntmps236
  go_wp2_with fail
  refine(KI _ z _ (HV.out.ext (((Ext.refl _).alloc _).alloc _))).mono ?_;rintro e w1 ⟨_,rfl,⟨p,l,rfl,hsl,hd,hnz,hval⟩,hx⟩;go_wp2_with fail
  refine(Wa _ p l _ hsl hd hnz).mono ?_;rw[hval,hz0.out];rintro e w2 ⟨_,rfl,⟨s',q',n',cap',rfl,hp'⟩,hx2⟩;have hB2:=(HB.out.ext hx).ext hx2;obtain⟨c0,c1,f0,f1⟩:=hB2.two;have HB2:=aa hB2;clear hval hB2;go_wp2
  refine bodyPost_ret (v:=.agg #[.int .i64 s',.slice q' n' cap']) (by simp[results,results236,go_sem,c0,c1]) I ⟨_,rfl,⟨_,_,_,_,rfl,hp'.kp ((Kp.refl _).Dq HB2.out.Rg Ff _ _)⟩,?_⟩;exact((((((Ext.refl w).alloc _).alloc _).trans hx).trans hx2).X5 wz _).X5 wz _
theorem Ud(v:Value)(z:Int)(w:World)(hv:Xf w v z):
  Calls prog 236 #[v] w λe w'=>Zm w (λv w'=>Xf w' v (-z)) e w':=by
 obtain⟨s,q,n,cap,rfl,hp⟩:=hv;rcases hp.isNone with ⟨rfl,rfl,rfl,rfl,h0,h1⟩ | ⟨b,off,rfl⟩
 ·by_cases hm:s = -9223372036854775808
  ·exact TT _ _ _ _ _ w hp (.inr (by simpa using hm))
  exact(qx s w O h1).mono λe w' ⟨he,hx⟩=>⟨_,he,Xf.small _ O O,hx⟩
 exact TT _ _ _ _ _ w hp (.inl rfl)
end Go.Proofs.YtpmehagnedbkhaaGreatDoor
namespace Ig
def Qm(l:List Int)(k:Nat):Int:=if h:k<l.length then l[k]else 0
def YR{l:List Int}{k:Nat}(h:k<l.length):Qm l k=l[k]:=dif_pos h
def Mk{l:List Int}{k:Nat}(h:l.length<=k):Qm l k=0:=dif_neg O
def DG.Qm{b:Int}(hb:0<b){l:List Int}(h:DG b l)(k:Nat):0<=Qm l k/\Qm l k<b:=by
 unfold Ig.Qm;split
 ·exact h _ (fX _)
 exact⟨bK _,hb⟩
def Hs(b:Int)(l:List Int)(k:Nat):dv b (l.take (k+1))=dv b (l.take k)+b^k*Qm l k:=by
 by_cases h:k<l.length
 ·rw[YR h,B1 b l k h]
 rw[Mk O,af O,af O];simp
def Ep{l:List Int}{p:Nat}(h:p<l.length)(v:Int)(r:Nat):Qm (l.set p v) r=if r=p then v else Qm l r:=by
 unfold Qm;by_cases hr:r<l.length
 ·rw[dif_pos (by simpa using hr),dif_pos hr,List.getElem_set];by_cases e:p=r
  ·subst e;simp
  rw[if_neg e,if_neg (λe'=>e e'.symm)]
 rw[dif_neg (by simpa using hr),dif_neg hr,if_neg O]
def Ry(b:Int){l:List Int}{p:Nat}(h:p<l.length)(v:Int):dv b (l.set p v)=dv b l+b^p*(v-Qm l p):=by
 have h1:=Vu b (l.set p v) (p+1) w6;have h2:=Vu b l (p+1) O;have e1:(l.set p v).drop (p+1)=l.drop (p+1):=by rw[List.drop_set_of_lt O]
 have e2:(l.set p v).take (p+1)=l.take p++[v]:=by
  rw[GJ _ _ (by simpa using h)];simp[List.take_set_of_le]
 rw[h1,h2,e1,e2,ZA,B1 b l p h,YR h,ar,aT O]
 grind
def Xo{l:List Int}{k:Nat}(h:k<l.length):l.drop k=Qm l k::l.drop (k+1):=by rw[bS h,YR h]
def Cd{D V2 v' U3 u' t:Int}(hD:0<D)(hv1:v'<D)(hu0:0<=u')
  (ht0:0<=t) (ht:t*V2<=U3) (htv:t<=V2) (_hv0:0<=v'):(t-1)*(V2*D+v')<=U3*D+u':=by
 have h1:t*V2*D<=U3*D:=ay ht O;have h2:t*v'<=t*D:=ag O ht0;have h3:t*D<=V2*D:=ay htv O;have e:(t-1)*(V2*D+v')=t*V2*D+t*v'-V2*D-v':=by grind
 omega
def F5{D V2 v' U3 u' t:Int}(hv0:0<=v')(hu1:u'<D)(hD:0<D)
  (ht0:0<=t) (ht:U3<t*V2):U3*D+u'<t*(V2*D+v'):=by
 have h1:(U3+1)*D<=t*V2*D:=ay O O;have h2:0<=t*v':=aK ht0 hv0;have e:t*(V2*D+v')=t*V2*D+t*v':=by grind
 have e2:(U3+1)*D=U3*D+D:=by grind
 omega
def YF{u v q:Int}(hv:0<v)(h1:q*v<=u)(h2:u<(q+1)*v):u/v=q:=by
 have e:(q+1)*v=q*v+v:=by grind
 have:u=(u-q*v)+q*v:=O;rw[this,Int.add_mul_ediv_right _ _ O,Int.ediv_eq_zero_of_lt O O];omega
def YU{u v q:Int}(h1:q*v<=u)(h2:u<(q+1)*v):u%v=u-q*v:=by
 have e:(q+1)*v=q*v+v:=by grind
 have:u=(u-q*v)+q*v:=O;rw[this,Int.add_mul_emod_self_right,bV O O];omega
section
variable{b:Int}(hb:1<b)
include hb
theorem Ky{l:List Int}{n:Nat}(hl:DG b l)(h:l.length=n+3):
  dv b l=((Qm l (n+2)*b+Qm l (n+1))*b+Qm l n)*b^n+dv b (l.take n)/\0<=dv b (l.take n)/\dv b (l.take n)<b^n:=by
 have h1:=Hs b l n;have h2:=Hs b l (n+1);have h3:=Hs b l (n+2);rw[af (by omega:l.length<=n+2+1)]at h3;have h4:=Kn O (hl.take n);rw[ar,aT O]at h4;refine⟨?_,JJ O (hl.take n),h4⟩;rw[h3,h2,h1,aD,aD];grind
theorem Wq{l:List Int}{n:Nat}(hl:DG b l)(h:l.length=n+2):
  dv b l=(Qm l (n+1)*b+Qm l n)*b^n+dv b (l.take n)/\0<=dv b (l.take n)/\dv b (l.take n)<b^n:=by
 have h1:=Hs b l n;have h2:=Hs b l (n+1);rw[af (by omega:l.length<=n+1+1)]at h2;have h4:=Kn O (hl.take n);rw[ar,aT O]at h4;refine⟨?_,JJ O (hl.take n),h4⟩;rw[h2,h1,aD];grind
omit hb
structure H4(b:Int)(u v:List Int)(n:Nat):Prop where
 hu:DG b u
 hv:DG b v
 lu:u.length=n+3
 lv:v.length=n+2
 nz:0<Qm v (n+1)
 lt:dv b u<b*dv b v
include hb
theorem H4.top{u v:List Int}{n:Nat}(h:H4 b u v n):Qm u (n+2)<=Qm v (n+1):=by
 obtain⟨a1,a2,a3⟩:=Ky hb h.hu h.lu;obtain⟨b1,b2,b3⟩:=Wq hb h.hv h.lv;have hlt:=h.lt;have hb0:0<b:=O;have d1:=h.hu.Qm hb0 n;have d2:=h.hu.Qm hb0 (n+1);have d3:=h.hv.Qm hb0 n;have hp:=pow_pos hb0 n;refine Int.not_lt.1 λhc=>?_;have e1:(Qm v (n+1)+1)*(b*b*b^n)<=Qm u (n+2)*(b*b*b^n):=ay O (aK (aK O O) O);have e2:0<=Qm u (n+1)*(b*b^n):=aK d2.1 (aK O O);have e3:0<=Qm u n*b^n:=aK d1.1 O;have e4:(Qm v n+1)*b^n<=b*b^n:=ay O O;have e5:b*((Qm v n+1)*b^n)<=b*(b*b^n):=ag e4 O;have e6:b*dv b (v.take n)<=b*b^n:=ag O O;have e7:b*(dv b (v.take n)+1)<=b*b^n:=ag O O;rw[a1,b1]at hlt;generalize b^n=D at *
 generalize dv b (v.take n)=v' at *
 generalize dv b (u.take n)=u' at *
 generalize Qm u (n+2)=u0 at *
 generalize Qm u (n+1)=u1 at *
 generalize Qm u n=u2 at *
 generalize Qm v (n+1)=v1 at *
 generalize Qm v n=v2 at *
 grind
end
end Ig
namespace Go.Proofs.YtpmehagnedbkhaaGreatDoor
variable{w w' w0:World}{E N b bytes i k n off:Nat}{a:Act}{c cs l l' news z:List Value}{o:Obj}{u v1 v3 v4 v5 x2 x3 x4 x5 x6 x7 x8:Value}{A0 A1 A2 A3 A4 A5 A6 A7 A8 A9 α γ ι:Type}{T T' t yT:TypeId}{ops:Array Oper}{Q Q':Exit->Act->World->Prop}{tl:List Oper}{K:Act->World->Prop}{g:Bool}{x y:Operand}{bs bs' bs0 ob:List (Nat×Obj)}{fr:Nat×Nat}{P:Program}{f:Obj->List (Nat×Obj)}{fn:Func}{aft:Array Edge}{gd:Option (Nat×Bool)}{x1:Nat×Obj}{ps:List (Nat×Value)}{s:ByteArray}{pl:List (Nat×Nat)}{ds:List Int}{h:Int}{F F0:Gs}{G:Gs->Prop}{m:Sl}
open Go.RowKit Ig
def XR(x y c:Int):Int:=(x+y+c)%W
def Xy(x y c:Int):Int:=(x+y+c)/W
def Zj(x y c:Int):Int:=(x-y-c)%W
def Vr(x y c:Int):Int:=if x<y+c then 1 else 0
def G9{x y c:Int}(hx:0<=x/\x<W)(hy:0<=y/\y<W)(hc:0<=c/\c<=1):
  XR x y c+W*Xy x y c=x+y+c/\(0<=XR x y c/\XR x y c<W)/\0<=Xy x y c/\Xy x y c<=1:=by
 unfold XR Xy;simp only[HH]at *;omega
def EI{x y c:Int}(hx:0<=x/\x<W)(hy:0<=y/\y<W)(hc:0<=c/\c<=1):
  Zj x y c-W*Vr x y c=x-y-c/\(0<=Zj x y c/\Zj x y c<W)/\0<=Vr x y c/\Vr x y c<=1:=by
 unfold Zj Vr;simp only[HH]at *;split<;>omega
theorem KG(x y c:Int)(hx:0<=x)(hy:0<=y)(hc:0<=c)(hc1:c<=1)(w:World):
  (callFunc 306 #[.int .u64 x,.int .u64 y,.int .u64 c]).run prog w = .ok (.value (.tuple #[.int .u64 (XR x y c),.int .u64 (Xy x y c)])) w:=by
 rw[run_callFunc_extern (fn:=f306) wm wm wm wm (e:=add64Entry) wm,run_add64 x y c hx hy hc hc1];rfl
def RD:Array Value->Sem Value:=λargs=>do
 let (x,y,b) <-fK "Sub64" args
 pure (fL ((x+er-y-b)%er) (if x<y+b then 1 else 0))
theorem qX(x y b:Nat)(hb:b<=1)(w:World):
  (RD #[.int .u64 x,.int .u64 y,.int .u64 b]).run prog w =
   .ok (.tuple #[.int .u64 (((x+18446744073709551616-y-b)%18446744073709551616:Nat):Int),.int .u64 ((if x<y+b then 1 else 0:Nat):Int)]) w:=by
 have:b=0\/b=1:=O;rcases this with rfl | rfl<;>rfl
theorem Bs(x y c:Int)(hx:0<=x/\x<W)(hy:0<=y/\y<W)(hc:0<=c/\c<=1)(w:World):
  (callFunc 308 #[.int .u64 x,.int .u64 y,.int .u64 c]).run prog w = .ok (.value (.tuple #[.int .u64 (Zj x y c),.int .u64 (Vr x y c)])) w:=by
 obtain⟨x,rfl⟩:=ah hx.1;obtain⟨y,rfl⟩:=ah hy.1;obtain⟨c,rfl⟩:=ah hc.1;rw[run_callFunc_extern (fn:=f308) wm wm wm wm (e:=RD) wm,qX x y c O];simp only[Result.andThen,Zj,Vr,HH]at *
 have e1:(((x+18446744073709551616-y-c)%18446744073709551616:Nat):Int)=((x:Int)-y-c)%18446744073709551616:=O;have e2:((if x<y+c then 1 else 0:Nat):Int)=if(x:Int)<y+c then 1 else 0:=by split<;>split<;>omega
 rw[e1,e2]
def RH(ds:List α)(z x:α)(m:Nat):(ds++ai (m+1) z).set ds.length x=(ds++[x])++ai m z:=by
 rw[fj _ _ (av _),ei,bw,fJ,bB];rfl
def Md[Inhabited α](ds:List α)(z:α)(m k:Nat)(hk:k=ds.length):(ds++ai (m+1) z).getD k default=z:=by
 subst hk;simp[bH,bw]
def Jf{l:List Int}(h:DG W l)(k:Nat):0<=Qm l k/\Qm l k<W:=h.Qm Ju k
def XL(l:List Int)(k:Nat):dv W (l.take (k+1))=dv W (l.take k)+W^k*Qm l k:=Hs W l k
def Z8{l:List Int}(h:k<l.length):l.getD k default=Qm l k:=by rw[Rk h,YR h]
def Mu(lx ly:List Int)(k:Nat)(ds:List Int)(c:Int):Prop :=
 ds.length=k/\DG W ds/\(0<=c/\c<=1)/\dv W ds+W^k*c=dv W (lx.take k)+dv W (ly.take k)
theorem Mu.step{lx ly:List Int}{c:Int}(h:Mu lx ly k ds c)(hx:DG W lx)(hy:DG W ly):
  Mu lx ly (k+1) (ds++[XR (Qm lx k) (Qm ly k) c]) (Xy (Qm lx k) (Qm ly k) c):=by
 obtain⟨h1,h2,h3,h4⟩:=h;obtain⟨a1,a2,a3⟩:=G9 (Jf hx k) (Jf hy k) h3;refine⟨by simp[h1],h2.append (DG.cons a2.1 a2.2 (DG.nil _)),a3,?_⟩;rw[ZA,h1,XL,XL,aD];generalize W^k=p at *
 generalize XR (Qm lx k) (Qm ly k) c=lo at *
 generalize Xy (Qm lx k) (Qm ly k) c=hi at *
 generalize Qm lx k=a at *
 generalize Qm ly k=b at *
 have e:p*(lo+W*hi)=p*(a+b+c):=by rw[a1]
 grind
def AM(lx ly:List Int)(k:Nat)(ds:List Int)(c:Int):Prop :=
 ds.length=k/\DG W ds/\(0<=c/\c<=1)/\dv W ds-W^k*c=dv W (lx.take k)-dv W (ly.take k)
theorem AM.step{lx ly:List Int}{c:Int}(h:AM lx ly k ds c)(hx:DG W lx)(hy:DG W ly):
  AM lx ly (k+1) (ds++[Zj (Qm lx k) (Qm ly k) c]) (Vr (Qm lx k) (Qm ly k) c):=by
 obtain⟨h1,h2,h3,h4⟩:=h;obtain⟨a1,a2,a3⟩:=EI (Jf hx k) (Jf hy k) h3;refine⟨by simp[h1],h2.append (DG.cons a2.1 a2.2 (DG.nil _)),a3,?_⟩;rw[ZA,h1,XL,XL,aD];generalize W^k=p at *
 generalize Zj (Qm lx k) (Qm ly k) c=lo at *
 generalize Vr (Qm lx k) (Qm ly k) c=hi at *
 generalize Qm lx k=a at *
 generalize Qm ly k=b at *
 have e:p*(lo-W*hi)=p*(a-b-c):=by rw[a1]
 grind
theorem uJ:(prog.info? 289).map (λi=>(i.zero,i.size,i.bytes))=some (some (.int .u64 0),1,8):=wm
theorem Yd(n:Nat)(hn:n<=1000000000000)(w:World):
  (ic 91 (.int .i64 (n:Int)) (.int .i64 (n:Int))).run prog w = .ok (.slice (some ⟨w.heap.size,0,none⟩) n n) (w.alloc (.cells (madeCells #[.int .u64 0] n) 289)):=by
 obtain⟨i0,hi,hz0,hz1,hz2⟩:=info_parts uJ;have:=run_make (P:=prog) w 91 289 i0 (.int .u64 0) underlying91 hi hz0 .i64 .i64 n n O O (by rw[hz2];omega) O;rw[this,hz1];simp[Value.cells]
theorem Dc(sw:Bool)(q q':Option Addr)(cap cap':Nat)(lx ly:List Int)(w:World)(hx:DG W lx)(hy:DG W ly)(hcx:Cells w q Jl lx)(hcy:Cells w q' Jl ly)(hlen:lx.length<=100000000000)(hle:ly.length<=lx.length)(hsw:sw=true->ly.length<lx.length):
  Calls prog 233 (if sw then #[.slice q' ly.length cap',.slice q lx.length cap]else #[.slice q lx.length cap,.slice q' ly.length cap']) w λe w' =>
   Zm w (λv w'=>∃l,SL w' v Jl l/\DG W l/\NZ l/\dv W l=dv W lx+dv W ly) e w':=by
 have HX:=aa hcx;clear hcx;have HY:=aa hcy;clear hcy;have hmk:=λw=>Yd (lx.length+1) O w;have ec:((lx.length+1:Nat):Int)=(lx.length:Int)+1:=O;simp only[ec]at hmk;cases sw
 all_goals
  simp only[Bool.false_eq_true,if_false,if_true,forall_const,false_implies]at hsw ⊢;go_enter func233,ntmps233
  go_wp2
  go_loopw [22,6] (λi c wr=>∃(k:Nat) (ds:List Int) (cc:Int),k<=lx.length/\i = .int .i64 k/\c = .int .u64 cc/\Mu lx ly k ds cc/\Y5 wr w.heap.size 289 Jl (ds++ai (lx.length+1-k) 0)/\Ext w wr)
   (λi _ _=>lx.length-(intOf i).toNat)
  case atStart=>exact⟨0,[],0,bT _,rfl,rfl,⟨rfl,DG.nil _,wu,wz⟩,Y5.made w _ Jl 0 _ _ rfl,(Ext.refl _).alloc _⟩
  case round =>
   obtain⟨k,ds,cc,hk,rfl,rfl,hI,hB,hE⟩:=hrel;have hst:=hI.step hx hy;obtain⟨hd1,hd2,hd3,hd4⟩:=hI;have hd1':=aa hd1;clear hd1;have hd4':=aa hd4;clear hd4;by_cases hlt:k<lx.length
   ·obtain⟨b,off,rfl,hb,hc⟩:=HX.out k hlt;rw[Z8 hlt]at hc;have hc:=hE.cell hc;simp only[Jl]at hc;have e1:lx.length+1-k=(lx.length-k)+1:=O;rw[e1]at hB;have hcell:=hB.cell (i:=k) (by simp[hd1'.out]);rw[Md _ _ _ _ hd1'.out.symm]at hcell;simp only[Jl]at hcell;have hfr:=hB.frozen k;have hBs:=hB.set k (XR (Qm lx k) (Qm ly k) cc);rw[<-hd1'.out,RH,hd1'.out]at hBs;have HB:=aa hB;clear hB;have HBs:=aa hBs;clear hBs;have HS:=aa hst;clear hst;have hx0:=(Jf hx k).1;have hy0:=(Jf hy k).1;by_cases hlt2:k<ly.length
    ·obtain⟨b2,off2,rfl,hb2,hc2⟩:=HY.out k hlt2;rw[Z8 hlt2]at hc2;have hc2:=hE.cell hc2;simp only[Jl]at hc2;have ha:=λw=>KG (Qm lx k) (Qm ly k) cc hx0 hy0 hd3.1 hd3.2 w;go_wp2
     go_roundw
     case rel=>exact⟨k+1,_,_,O,by go_num,rfl,HS.out,by rw[show lx.length+1-(k+1)=lx.length-k from by omega];exact HBs.out,aS hE wz _⟩
     case measure=>simp[intOf];omega
    have H0:=aa (Mk (l:=ly) (k:=k) O);have ha:=λw=>KG (Qm lx k) 0 cc hx0 (bK _) hd3.1 hd3.2 w;go_wp2
    go_roundw
    case rel=>exact⟨k+1,_,_,O,by go_num,rfl,by have:=HS.out;rw[H0.out]at this;exact this,by rw[show lx.length+1-(k+1)=lx.length-k from by omega];have:=HBs.out;rw[H0.out]at this;exact this,aS hE wz _⟩
    case measure=>simp[intOf];omega
   have hk':k=lx.length:=O;subst hk';have e1:lx.length+1-lx.length=0+1:=O;rw[e1]at hB;have hcell:=hB.cell (i:=lx.length) (by simp[hd1'.out]);rw[Md _ _ _ _ hd1'.out.symm]at hcell;simp only[Jl]at hcell;have hfr:=hB.frozen lx.length;have hBs:=hB.set lx.length cc;rw[<-hd1'.out,RH,hd1'.out]at hBs;simp only[eB,ij]at hBs;have hSL:=SL.BP hBs (lx.length+1) (by simp[hd1'.out]) (by simp[hd1'.out];omega);have el:(ds++[cc]).length=lx.length+1:=by simp[hd1'.out]
   rw[af O,el]at hSL;have hEs:Ext w _:=aS hE (p:=⟨w.heap.size,lx.length,none⟩) wz (Jl cc);have hfin:DG W (ds++[cc])/\dv W (ds++[cc])=dv W lx+dv W ly:=by
    refine⟨hd2.append (DG.cons hd3.1 (wk HH) (DG.nil _)),?_⟩;rw[ZA,hd1'.out,hd4'.out,af (av _),af hle]
   have HB:=aa hB;clear hB;have HBs:=aa hBs;clear hBs;have HSL:=aa hSL;clear hSL;have HF:=aa hfin;clear hfin;have HES:=aa hEs;clear hEs;clear el e1 hst;go_wp2_with (go_at_call 307;refine(VO _ _ _ HSL.out).mono ?_;rintro e w' ⟨⟨v',rfl,hv⟩,rfl⟩)
   go_ret
   exact⟨_,rfl,⟨_,hv,HF.out.1.Je,Zv _,by rw[ZH,HF.out.2]⟩,HES.out⟩
theorem AI(v v':Value)(lx ly:List Int)(w:World)(hx:DG W lx)(hy:DG W ly)(hs:SL w v Jl lx)(hs':SL w v' Jl ly)(h1:lx.length<=100000000000)(h2:ly.length<=100000000000):
  Calls prog 233 #[v,v'] w λe w'=>Zm w (λv w'=>∃l,SL w' v Jl l/\DG W l/\NZ l/\dv W l=dv W lx+dv W ly) e w':=by
 obtain⟨q,cap,rfl,hcap,hmax,hc⟩:=hs;obtain⟨q',cap',rfl,hcap',hmax',hc'⟩:=hs';by_cases h:lx.length<ly.length
 ·have:=Dc true q' q cap' cap ly lx w hy hx hc' hc h2 O (λ_=>h);rw[lf]at this;exact this
 exact Dc false q q' cap cap' lx ly w hx hy hc hc' h1 O λh=>by cases h
theorem EJ(v v':Value)(lx ly:List Int)(w:World)(hx:DG W lx)(hy:DG W ly)(hs:SL w v Jl lx)(hs':SL w v' Jl ly)(h1:lx.length<=100000000000)(hle:ly.length<=lx.length)(hle2:dv W ly<=dv W lx):
  Calls prog 235 #[v,v'] w λe w'=>Zm w (λv w'=>∃l,SL w' v Jl l/\DG W l/\NZ l/\dv W l=dv W lx-dv W ly) e w':=by
 obtain⟨q,cap,rfl,hcap,hmax,hcx⟩:=hs;obtain⟨q',cap',rfl,hcap',hmax',hcy⟩:=hs';have HX:=aa hcx;clear hcx;have HY:=aa hcy;clear hcy;have HLE:=aa hle2;clear hle2;have hmk:=λw=>Yd lx.length O w;go_enter func235,ntmps235
 go_wp2
 go_loopw [14,6] (λi c wr=>∃(k:Nat) (ds:List Int) (cc:Int),k<=lx.length/\i = .int .i64 k/\c = .int .u64 cc/\AM lx ly k ds cc/\Y5 wr w.heap.size 289 Jl (ds++ai (lx.length-k) 0)/\Ext w wr)
  (λi _ _=>lx.length-(intOf i).toNat)
 case atStart=>exact⟨0,[],0,bT _,rfl,rfl,⟨rfl,DG.nil _,wu,wz⟩,Y5.made w _ Jl 0 _ _ rfl,(Ext.refl _).alloc _⟩
 case round =>
  obtain⟨k,ds,cc,hk,rfl,rfl,hI,hB,hE⟩:=hrel;have hst:=hI.step hx hy;obtain⟨hd1,hd2,hd3,hd4⟩:=hI;have hd1':=aa hd1;clear hd1;have hd4':=aa hd4;clear hd4;by_cases hlt:k<lx.length
  ·obtain⟨b,off,rfl,hb,hc⟩:=HX.out k hlt;rw[Z8 hlt]at hc;have hc:=hE.cell hc;simp only[Jl]at hc;have e1:lx.length-k=(lx.length-(k+1))+1:=O;rw[e1]at hB;have hcell:=hB.cell (i:=k) (by simp[hd1'.out]);rw[Md _ _ _ _ hd1'.out.symm]at hcell;simp only[Jl]at hcell;have hfr:=hB.frozen k;have hBs:=hB.set k (Zj (Qm lx k) (Qm ly k) cc);rw[<-hd1'.out,RH,hd1'.out]at hBs;have HB:=aa hB;clear hB;have HBs:=aa hBs;clear hBs;have HS:=aa hst;clear hst;have hx0:=Jf hx k;have hy0:=Jf hy k;clear e1;by_cases hlt2:k<ly.length
   ·obtain⟨b2,off2,rfl,hb2,hc2⟩:=HY.out k hlt2;rw[Z8 hlt2]at hc2;have hc2:=hE.cell hc2;simp only[Jl]at hc2;have ha:=λw=>Bs (Qm lx k) (Qm ly k) cc hx0 hy0 hd3 w;go_wp2
    go_roundw
    case rel=>exact⟨k+1,_,_,O,by go_num,rfl,HS.out,HBs.out,aS hE wz _⟩
    case measure=>simp[intOf];omega
   have H0:=aa (Mk (l:=ly) (k:=k) O);have ha:=λw=>Bs (Qm lx k) 0 cc hx0 ⟨bK _,Ju⟩ hd3 w;go_wp2
   go_roundw
   case rel=>exact⟨k+1,_,_,O,by go_num,rfl,by have:=HS.out;rw[H0.out]at this;exact this,by have:=HBs.out;rw[H0.out]at this;exact this,aS hE wz _⟩
   case measure=>simp[intOf];omega
  have hk':k=lx.length:=O;subst hk';rw[ei,eB,ij]at hB;have hSL:=SL.BP hB lx.length (by simp[hd1'.out]) (by simp[hd1'.out];omega);rw[af (by simp[hd1'.out]),hd1'.out]at hSL;have hfin:dv W ds=dv W lx-dv W ly:=by
   have h4:=hd4'.out;rw[af (av _),af hle]at h4;have h5:=Kn Ju hd2;have h6:=JJ Ju hd2;have h8:=HLE.out;rw[hd1'.out]at h5;have h7:cc=0\/cc=1:=O;rcases h7 with rfl | rfl<;>omega
  have HB:=aa hB;clear hB;have HSL:=aa hSL;clear hSL;have HF:=aa hfin;clear hfin;clear hst;go_wp2_with (go_at_call 307;refine(VO _ _ _ HSL.out).mono ?_;rintro e w' ⟨⟨v',rfl,hv⟩,rfl⟩)
  go_ret
  exact⟨_,rfl,⟨_,hv,hd2.Je,Zv _,by rw[ZH,HF.out]⟩,hE⟩
def G6{x y:Int}(h:x<y):YG x y = -1:=if_pos h
def Ev{x y:Int}(h:y<x):YG x y=1:=by unfold YG;rw[if_neg O,if_neg O]
def SS(x:Int):YG x x=0:=by unfold YG;rw[if_neg O,if_pos rfl]
theorem Zu(v v':Value)(lx ly:List Int)(w:World)(hx:DG W lx)(hy:DG W ly)(nx:NZ lx)(ny:NZ ly)(hs:SL w v Jl lx)(hs':SL w v' Jl ly):
  Calls prog 234 #[v,v'] w λe w'=>e = .returned (.int .i64 (YG (dv W lx) (dv W ly)))/\Ext w w':=by
 obtain⟨q,cap,rfl,hcap,hmax,hcx⟩:=hs;obtain⟨q',cap',rfl,hcap',hmax',hcy⟩:=hs';have HX:=aa hcx;clear hcx;have HY:=aa hcy;clear hcy;rcases fV lx.length ly.length with h | h | h
 ·have HL:=aa (G6 (ZT Nv hx hy ny h));go_enter func234,ntmps234
  go_wp2
  go_ret
  exact⟨by rw[HL.out];rfl,Ext.refl _⟩
 ·go_enter func234,ntmps234
  have hb:((lx.length:Int) != (ly.length:Int))=false:=by simp[h]
  have HLL:=aa h;clear h;go_wp2
  go_loopw [5] (λi wr=>∃k:Nat,k<=lx.length/\i = .int .i64 ((k:Int)-1)/\lx.drop k=ly.drop k/\Ext w wr) λi _=>(intOf i+1).toNat
  case atStart=>exact⟨lx.length,av _,rfl,by rw[ff (av _),ff (by rw[HLL.out];exact av _)],Ext.refl _⟩
  case round =>
   obtain⟨k,hk,rfl,hd,hE⟩:=hrel;have HD:=aa hd;clear hd;cases k with
   |zero =>
    have HF:Hid (YG (dv W lx) (dv W ly)=0):=by
     have:=HD.out;rw[iu,iu]at this;rw[this];exact SS _
    go_wp2
    go_ret
    exact⟨by rw[HF.out];rfl,hE⟩
   |succ k =>
    have e1:((k+1:Nat):Int)-1=(k:Int):=O;rw[e1];have hk2:k<ly.length:=wk HLL.out;obtain⟨b,off,rfl,hb1,hc⟩:=HX.out k O;obtain⟨b2,off2,rfl,hb2,hc2⟩:=HY.out k hk2;rw[Rk O]at hc hc2;have hc:=hE.cell hc;have hc2:=hE.cell hc2;simp only[Jl]at hc hc2;have HLT:=aa (Oc Ju hx hy HLL.out k O HD.out);have HGT:=aa (Oc Ju hy hx HLL.out.symm k hk2 HD.out.symm);have HEQ:Hid (lx[k]=ly[k]->lx.drop k=ly.drop k):=by
     intro e;rw[bS O,bS hk2,e,HD.out]
    generalize lx[k]=x at *
    generalize ly[k]=y at *
    clear e1;rcases fZ x y with g | g | g
    ·have hne:(x != y)=true:=w6;have HL:=aa (G6 (HLT.out g));go_wp2
     go_quiet (fail)
     go_wp2
     go_quiet (fail)
     go_wp2
     go_ret
     exact⟨by rw[HL.out];rfl,(hE.drewN _).drewN _⟩
    ·have hne:(x != y)=false:=w6;go_wp2
     go_quiet (fail)
     go_wp2
     go_roundw
     case rel=>exact⟨k,O,by go_num,HEQ.out g,hE.drewN _⟩
     case measure=>simp[intOf]
    have hne:(x != y)=true:=w6;have HL:=aa (Ev (HGT.out g));go_wp2
    go_quiet (fail)
    go_wp2
    go_quiet (fail)
    go_wp2
    go_ret
    exact⟨by rw[HL.out];rfl,(hE.drewN _).drewN _⟩
 have HL:=aa (Ev (ZT Nv hy hx nx h));go_enter func234,ntmps234
 go_wp2
 go_ret
 exact⟨by rw[HL.out];rfl,Ext.refl _⟩
end Go.Proofs.YtpmehagnedbkhaaGreatDoor
namespace Go.Proofs
open Go.Shelf
def NF:au:=⟨λ| 169=>305 | n=>n,λ| 70=>342 | 9=>9 | 0=>0 | 72=>345 | 37=>343 | 127=>370 | 3=>3 | 5=>5 | n=>n,λ| n=>n⟩
theorem ph:iL prog NF:={
 mixed:=wm
 f169:=func305.trans tH
 t0:=underlying0
 a0:=isAgg0
 z0:=sizeOf0
 v0:=zeroValue0
 t3:=underlying3
 a3:=isAgg3
 z3:=sizeOf3
 v3:=zeroValue3
 t9:=underlying9
 a9:=isAgg9
 z9:=sizeOf9
 v9:=zeroValue9
 t37:=underlying343
 a37:=isAgg343
 z37:=sizeOf343
 v37:=zeroValue343
 t70:=underlying342
 a70:=isAgg342
 z70:=sizeOf342
 v70:=zeroValue342
 t72:=underlying345
 a72:=isAgg345
 z72:=sizeOf345
 v72:=zeroValue345
 t127:=underlying370
 a127:=isAgg370
 z127:=sizeOf370
 v127:=zeroValue370 }
theorem MB:ia prog NF:={
 sizeBuilder:=wm
 liesBuilder:=wm
 t5:=underlying5
 a5:=isAgg5
 z5:=sizeOf5
 v5:=zeroValue5
 infoByte:=wm
 cellsByte:=wm
 sizeByte:=wm
 neB5:=by decide }
open Go.RowKit in
theorem Builder_String_any(B b:Nat)(l:List UInt8)(w:World)(h:Lib.IsBuilder 345 5 B b (Lib.byteCells l) w)(hBw:B<=w.heap.size):
  Calls prog 305 #[.pointer (some ⟨b,0,none⟩)] w λe w'=>e = .returned (.string ⟨l.toArray⟩)/\Below B w w':=Any.Builder_String_any ph MB B b l w h hBw
def Fy:au:=⟨λ| 125=>142 | 128=>249 | 129=>250 | n=>n,λ| 46=>212 | 3=>3 | 51=>301 | 53=>289 | 4=>4 | 5=>5 | 9=>9 | n=>n,λ| n=>n⟩
theorem p4:iP prog Fy:={
 mixed:=wm
 f125:=func142.trans tH
 f128:=func249.trans tH
 f129:=func250.trans tH
 t3:=underlying3
 a3:=isAgg3
 z3:=sizeOf3
 v3:=zeroValue3
 t4:=underlying4
 a4:=isAgg4
 z4:=sizeOf4
 v4:=zeroValue4
 t5:=underlying5
 a5:=isAgg5
 z5:=sizeOf5
 v5:=zeroValue5
 t9:=underlying9
 a9:=isAgg9
 z9:=sizeOf9
 v9:=zeroValue9
 t46:=underlying212
 a46:=isAgg212
 z46:=sizeOf212
 v46:=zeroValue212
 t51:=underlying301
 a51:=isAgg301
 z51:=sizeOf301
 v51:=zeroValue301
 t53:=underlying289
 a53:=isAgg289
 z53:=sizeOf289
 v53:=zeroValue289 }
theorem bits_Len(x:Int)(w:World)(h0:0<=x)(h1:x<=18446744073709551615):
  Calls prog 142 #[.int .u64 x] w λe w'=>e = .returned (.int .i64 (bh x.toNat))/\w'=w:=Any.bits_Len p4 x w h0 h1
def Fw:au:=⟨λ| 134=>338 | 129=>250 | n=>n,λ| 53=>289 | 3=>3 | 4=>4 | 46=>212 | 5=>5 | 9=>9 | n=>n,λ| n=>n⟩
theorem pk:iN prog Fw:={
 mixed:=wm
 f129:=func250.trans tH
 f134:=func338.trans tH
 t3:=underlying3
 a3:=isAgg3
 z3:=sizeOf3
 v3:=zeroValue3
 t4:=underlying4
 a4:=isAgg4
 z4:=sizeOf4
 v4:=zeroValue4
 t5:=underlying5
 a5:=isAgg5
 z5:=sizeOf5
 v5:=zeroValue5
 t9:=underlying9
 a9:=isAgg9
 z9:=sizeOf9
 v9:=zeroValue9
 t46:=underlying212
 a46:=isAgg212
 z46:=sizeOf212
 v46:=zeroValue212
 t53:=underlying289
 a53:=isAgg289
 z53:=sizeOf289
 v53:=zeroValue289 }
theorem bits_LeadingZeros64(x:Int)(w:World)(h0:0<=x)(h1:x<=18446744073709551615):
  Calls prog 338 #[.int .u64 x] w λe w'=>e = .returned (.int .i64 (64-(bh x.toNat:Int)))/\w'=w:=Any.bits_LeadingZeros64 pk x w h0 h1
def F3:au:=⟨λ| 103=>202 | 210=>280 | 206=>325 | n=>n,λ| 9=>9 | 4=>4 | 24=>256 | 3=>3 | n=>n,λ| n=>n⟩
theorem p8:iS prog F3:={
 mixed:=wm
 f103:=func202.trans tH
 f206:=func325.trans tH
 f210:=func280.trans tH
 t3:=underlying3
 a3:=isAgg3
 z3:=sizeOf3
 v3:=zeroValue3
 t4:=underlying4
 a4:=isAgg4
 z4:=sizeOf4
 v4:=zeroValue4
 t9:=underlying9
 a9:=isAgg9
 z9:=sizeOf9
 v9:=zeroValue9
 t24:=underlying256
 a24:=isAgg256
 z24:=sizeOf256
 v24:=zeroValue256 }
open Go.RowKit in
theorem strings_CutPrefix(s p:ByteArray)(w:World):
  Calls prog 202 #[.string s,.string p] w λe w'=>e = .returned (.tuple #[.string ⟨(iD s.data.toList p.data.toList).toArray⟩,.bool (iV s.data.toList p.data.toList)])/\w'=w:=Any.strings_CutPrefix p8 s p w
def Fz:au:=⟨λ| 122=>144 | 215=>251 | n=>n,λ| 3=>3 | 4=>4 | n=>n,λ| n=>n⟩
theorem p5:iQ prog Fz:={
 mixed:=wm
 f122:=func144.trans tH
 f215:=func251.trans tH
 t3:=underlying3
 a3:=isAgg3
 z3:=sizeOf3
 v3:=zeroValue3
 t4:=underlying4
 a4:=isAgg4
 z4:=sizeOf4
 v4:=zeroValue4 }
open Go.RowKit in
theorem cmp_Compare_int(x y:Int)(w:World):
  Calls prog 144 #[.int .i64 x,.int .i64 y] w λe w'=>e = .returned (.int .i64 (Lib.compareInt x y))/\w'=w:=Any.cmp_Compare_int p5 x y w
def Fu:au:=⟨λ| 172=>286 | 244=>327 | 245=>328 | 247=>349 | 279=>350 | 280=>351 | 281=>352 | 282=>353 | 287=>372 | 316=>373 | 171=>303 | 205=>374 | 321=>383 | 322=>384 | 243=>335 | 246=>363 | 283=>364 | 284=>365 | 285=>366 | 286=>367 | 129=>250 | 317=>378 | 318=>379 | 319=>380 | 320=>381 | 337=>386 | 338=>387 | n=>n,λ| 9=>9 | 3=>3 | 75=>327 | 76=>328 | 4=>4 | 5=>5 | 167=>381 | 37=>343 | 0=>0 | 85=>382 | 2=>2 | 168=>384 | 53=>289 | 175=>402 | 46=>212 | 210=>406 | 127=>370 | 145=>417 | 143=>415 | 21=>21 | 171=>395 | 173=>397 | 212=>411 | 51=>301 | 20=>20 | 213=>412 | 232=>419 | 233=>420 | 80=>321 | n=>n,λ| 15=>3 | 16=>4 | 17=>5 | 18=>6 | 19=>7 | n=>n⟩
theorem pg:iK prog Fu:={
 mixed:=wm
 f129:=func250.trans tH
 f171:=func303.trans tH
 f172:=func286.trans tH
 f205:=func374.trans tH
 f243:=func335.trans tH
 f244:=func327.trans tH
 f245:=func328.trans tH
 f246:=func363.trans tH
 f247:=func349.trans tH
 f279:=func350.trans tH
 f280:=func351.trans tH
 f281:=func352.trans tH
 f282:=func353.trans tH
 f283:=func364.trans tH
 f284:=func365.trans tH
 f285:=func366.trans tH
 f286:=func367.trans tH
 f287:=func372.trans tH
 f316:=func373.trans tH
 f317:=func378.trans tH
 f318:=func379.trans tH
 f319:=func380.trans tH
 f320:=func381.trans tH
 f321:=func383.trans tH
 f322:=func384.trans tH
 f337:=func386.trans tH
 f338:=func387.trans tH
 t0:=underlying0
 a0:=isAgg0
 z0:=sizeOf0
 v0:=zeroValue0
 t2:=underlying2
 a2:=isAgg2
 z2:=sizeOf2
 v2:=zeroValue2
 t3:=underlying3
 a3:=isAgg3
 z3:=sizeOf3
 v3:=zeroValue3
 t4:=underlying4
 a4:=isAgg4
 z4:=sizeOf4
 v4:=zeroValue4
 t5:=underlying5
 a5:=isAgg5
 z5:=sizeOf5
 v5:=zeroValue5
 t9:=underlying9
 a9:=isAgg9
 z9:=sizeOf9
 v9:=zeroValue9
 t20:=underlying20
 a20:=isAgg20
 z20:=sizeOf20
 v20:=zeroValue20
 t21:=underlying21
 a21:=isAgg21
 z21:=sizeOf21
 v21:=zeroValue21
 t37:=underlying343
 a37:=isAgg343
 z37:=sizeOf343
 v37:=zeroValue343
 t46:=underlying212
 a46:=isAgg212
 z46:=sizeOf212
 v46:=zeroValue212
 t51:=underlying301
 a51:=isAgg301
 z51:=sizeOf301
 v51:=zeroValue301
 t53:=underlying289
 a53:=isAgg289
 z53:=sizeOf289
 v53:=zeroValue289
 t75:=underlying327
 a75:=isAgg327
 z75:=sizeOf327
 v75:=zeroValue327
 t76:=underlying328
 a76:=isAgg328
 z76:=sizeOf328
 v76:=zeroValue328
 t85:=underlying382
 a85:=isAgg382
 z85:=sizeOf382
 v85:=zeroValue382
 t127:=underlying370
 a127:=isAgg370
 z127:=sizeOf370
 v127:=zeroValue370
 t143:=underlying415
 a143:=isAgg415
 z143:=sizeOf415
 v143:=zeroValue415
 t145:=underlying417
 a145:=isAgg417
 z145:=sizeOf417
 v145:=zeroValue417
 t167:=underlying381
 a167:=isAgg381
 z167:=sizeOf381
 v167:=zeroValue381
 t168:=underlying384
 a168:=isAgg384
 z168:=sizeOf384
 v168:=zeroValue384
 t171:=underlying395
 a171:=isAgg395
 z171:=sizeOf395
 v171:=zeroValue395
 t173:=underlying397
 a173:=isAgg397
 z173:=sizeOf397
 v173:=zeroValue397
 t175:=underlying402
 a175:=isAgg402
 z175:=sizeOf402
 v175:=zeroValue402
 t210:=underlying406
 a210:=isAgg406
 z210:=sizeOf406
 v210:=zeroValue406
 t212:=underlying411
 a212:=isAgg411
 z212:=sizeOf411
 v212:=zeroValue411
 t213:=underlying412
 a213:=isAgg412
 z213:=sizeOf412
 t232:=underlying419
 a232:=isAgg419
 z232:=sizeOf419
 v232:=zeroValue419
 t233:=underlying420
 a233:=isAgg420
 z233:=sizeOf420
 v233:=zeroValue420
 g15:=wm
 g16:=wm
 g17:=wm
 g18:=wm
 g19:=by kernel_rfl }
open Go.RowKit in
theorem strconv_Atoi(s:ByteArray)(n:Int)(hl:s.size<=18)(h:Lib.atoi s.data.toList=some n)(w:World):
  Calls prog 286 #[.string s] w λe w'=>e = .returned (.tuple #[.int .i64 n,.nilIface])/\∃t,w'=Lib.bytesWorld w 5 t:=Any.strconv_Atoi pg s n hl h w
def Fx:au:=⟨λ| 129=>250 | n=>n,λ| 53=>289 | 3=>3 | 4=>4 | 46=>212 | 5=>5 | 9=>9 | n=>n,λ| n=>n⟩
theorem pv:iO prog Fx:={
 mixed:=wm
 f129:=func250.trans tH
 t3:=underlying3
 a3:=isAgg3
 z3:=sizeOf3
 v3:=zeroValue3
 t4:=underlying4
 a4:=isAgg4
 z4:=sizeOf4
 v4:=zeroValue4
 t5:=underlying5
 a5:=isAgg5
 z5:=sizeOf5
 v5:=zeroValue5
 t9:=underlying9
 a9:=isAgg9
 z9:=sizeOf9
 v9:=zeroValue9
 t46:=underlying212
 a46:=isAgg212
 z46:=sizeOf212
 v46:=zeroValue212
 t53:=underlying289
 a53:=isAgg289
 z53:=sizeOf289
 v53:=zeroValue289 }
theorem bits_Len64(x:Int)(w:World)(h0:0<=x)(h1:x<=18446744073709551615):
  Calls prog 250 #[.int .u64 x] w λe w'=>e = .returned (.int .i64 (bh x.toNat))/\w'=w:=Any.bits_Len64 pv x w h0 h1
def Fs:au:=⟨λ| 283=>364 | n=>n,λ| 3=>3 | 9=>9 | 4=>4 | n=>n,λ| n=>n⟩
theorem pe:iI prog Fs:={
 mixed:=wm
 f283:=func364.trans tH
 t3:=underlying3
 a3:=isAgg3
 z3:=sizeOf3
 v3:=zeroValue3
 t4:=underlying4
 a4:=isAgg4
 z4:=sizeOf4
 v4:=zeroValue4
 t9:=underlying9
 a9:=isAgg9
 z9:=sizeOf9
 v9:=zeroValue9 }
open Go.Lib in
theorem internal_strconv_small(i:Nat)(h:i<100)(w:World):
  Calls prog 364 #[.int .i64 i] w λe w'=>e = .returned (.string ⟨(Lib.decDigits i).toArray⟩)/\w'=w:=Any.internal_strconv_small pe i h w
def Um:au:=⟨λ| 284=>365 | 129=>250 | 317=>378 | 318=>379 | n=>n,λ| 53=>289 | 3=>3 | 212=>411 | 0=>0 | 4=>4 | 46=>212 | 5=>5 | 9=>9 | n=>n,λ| 17=>5 | n=>n⟩
theorem y9:iB prog Um:={
 mixed:=wm
 f129:=func250.trans tH
 f284:=func365.trans tH
 f317:=func378.trans tH
 f318:=func379.trans tH
 t0:=underlying0
 a0:=isAgg0
 z0:=sizeOf0
 v0:=zeroValue0
 t3:=underlying3
 a3:=isAgg3
 z3:=sizeOf3
 v3:=zeroValue3
 t4:=underlying4
 a4:=isAgg4
 z4:=sizeOf4
 v4:=zeroValue4
 t5:=underlying5
 a5:=isAgg5
 z5:=sizeOf5
 v5:=zeroValue5
 t9:=underlying9
 a9:=isAgg9
 z9:=sizeOf9
 v9:=zeroValue9
 t46:=underlying212
 a46:=isAgg212
 z46:=sizeOf212
 v46:=zeroValue212
 t53:=underlying289
 a53:=isAgg289
 z53:=sizeOf289
 v53:=zeroValue289
 t212:=underlying411
 a212:=isAgg411
 z212:=sizeOf411
 v212:=zeroValue411
 g17:=wm
 i0:=wm
 i3:=wm
 i4:=wm
 i5:=wm
 i9:=wm
 i46:=wm
 i53:=wm
 i212:=wm
 m17:=by kernel_rfl }
open Go.Lib in
theorem internal_strconv_numDigits(u:Nat)(h1:1<=u)(h2:u<18446744073709551616)(w:World)(htab:Lib.TabIs prog w "internal/strconv.uint64pow10" .u64 lz):
  Calls prog 365 #[.int .u64 u] w λe w'=>e = .returned (.int .i64 (Lib.nDigits u))/\w'=w:=Any.internal_strconv_numDigits y9 u h1 h2 w htab
def Fq:au:=⟨λ| 285=>366 | n=>n,λ| 37=>343 | 53=>289 | 3=>3 | 4=>4 | 51=>301 | 9=>9 | 5=>5 | 0=>0 | n=>n,λ| n=>n⟩
theorem pc:iH prog Fq:={
 mixed:=wm
 f285:=func366.trans tH
 t0:=underlying0
 a0:=isAgg0
 z0:=sizeOf0
 v0:=zeroValue0
 t3:=underlying3
 a3:=isAgg3
 z3:=sizeOf3
 v3:=zeroValue3
 t4:=underlying4
 a4:=isAgg4
 z4:=sizeOf4
 v4:=zeroValue4
 t5:=underlying5
 a5:=isAgg5
 z5:=sizeOf5
 v5:=zeroValue5
 t9:=underlying9
 a9:=isAgg9
 z9:=sizeOf9
 v9:=zeroValue9
 t37:=underlying343
 a37:=isAgg343
 z37:=sizeOf343
 v37:=zeroValue343
 t51:=underlying301
 a51:=isAgg301
 z51:=sizeOf301
 v51:=zeroValue301
 t53:=underlying289
 a53:=isAgg289
 z53:=sizeOf289
 v53:=zeroValue289 }
open Go.RowKit Go.Sort Go.Lib in
theorem internal_strconv_formatBase10(H7 off cap:Nat)(u:Nat)(d:Array UInt8)(w:World)(hH:Holds (λ(b:UInt8)=>aL .u8 (b.toNat:Int)) w H7 off d)(hu:u<10^d.size)(hu64:u<18446744073709551616)(hsz:d.size<4611686018427387904):
  Calls prog 366 #[.slice (some ⟨H7,off,none⟩) d.size cap,.int .u64 u] w λe w' =>
   e = .returned (.tuple #[])/\∃(n v':Nat) (dk:Array UInt8),w'=(putRow (λ(b:UInt8)=>aL .u8 (b.toNat:Int)) w H7 off dk).drewN n/\FmtInv d.size u 0 v' dk:=Any.internal_strconv_formatBase10 pc H7 off cap u d w hH hu hu64 hsz
def Un:au:=⟨λ| 171=>303 | 243=>335 | 246=>363 | 283=>364 | 284=>365 | 285=>366 | 286=>367 | 129=>250 | 317=>378 | 318=>379 | 319=>380 | 320=>381 | 337=>386 | 338=>387 | n=>n,λ| 3=>3 | 9=>9 | 2=>2 | 4=>4 | 171=>395 | 0=>0 | 53=>289 | 37=>343 | 5=>5 | 173=>397 | 212=>411 | 51=>301 | 20=>20 | 213=>412 | 46=>212 | 232=>419 | 233=>420 | n=>n,λ| 17=>5 | 18=>6 | 19=>7 | n=>n⟩
theorem kA:iC prog Un:={
 mixed:=wm
 f129:=func250.trans tH
 f171:=func303.trans tH
 f243:=func335.trans tH
 f246:=func363.trans tH
 f283:=func364.trans tH
 f284:=func365.trans tH
 f285:=func366.trans tH
 f286:=func367.trans tH
 f317:=func378.trans tH
 f318:=func379.trans tH
 f319:=func380.trans tH
 f320:=func381.trans tH
 f337:=func386.trans tH
 f338:=func387.trans tH
 t0:=underlying0
 a0:=isAgg0
 z0:=sizeOf0
 v0:=zeroValue0
 t2:=underlying2
 a2:=isAgg2
 z2:=sizeOf2
 v2:=zeroValue2
 t3:=underlying3
 a3:=isAgg3
 z3:=sizeOf3
 v3:=zeroValue3
 t4:=underlying4
 a4:=isAgg4
 z4:=sizeOf4
 v4:=zeroValue4
 t5:=underlying5
 a5:=isAgg5
 z5:=sizeOf5
 v5:=zeroValue5
 t9:=underlying9
 a9:=isAgg9
 z9:=sizeOf9
 v9:=zeroValue9
 t20:=underlying20
 a20:=isAgg20
 z20:=sizeOf20
 v20:=zeroValue20
 t37:=underlying343
 a37:=isAgg343
 z37:=sizeOf343
 v37:=zeroValue343
 t46:=underlying212
 a46:=isAgg212
 z46:=sizeOf212
 v46:=zeroValue212
 t51:=underlying301
 a51:=isAgg301
 z51:=sizeOf301
 v51:=zeroValue301
 t53:=underlying289
 a53:=isAgg289
 z53:=sizeOf289
 v53:=zeroValue289
 t171:=underlying395
 a171:=isAgg395
 z171:=sizeOf395
 v171:=zeroValue395
 t173:=underlying397
 a173:=isAgg397
 z173:=sizeOf397
 v173:=zeroValue397
 t212:=underlying411
 a212:=isAgg411
 z212:=sizeOf411
 v212:=zeroValue411
 t213:=underlying412
 a213:=isAgg412
 z213:=sizeOf412
 t232:=underlying419
 a232:=isAgg419
 z232:=sizeOf419
 v232:=zeroValue419
 t233:=underlying420
 a233:=isAgg420
 z233:=sizeOf420
 v233:=zeroValue420
 g17:=wm
 g18:=wm
 g19:=wm
 i0:=wm
 i2:=wm
 i3:=wm
 i4:=wm
 i5:=wm
 i9:=wm
 i20:=wm
 i37:=wm
 i46:=wm
 i51:=wm
 i53:=wm
 i171:=wm
 i173:=wm
 i212:=wm
 i232:=wm
 i233:=wm
 m17:=wm
 m18:=wm
 m19:=by kernel_rfl }
open Go.RowKit Go.Sort Go.Lib in
theorem strconv_Itoa(n:Int)(h0 : -9223372036854775808<=n)(h1:n<=9223372036854775807)(w:World)(htab:Lib.TabIs prog w "internal/strconv.uint64pow10" .u64 lz):
  Calls prog 303 #[.int .i64 n] w λe w'=>e = .returned (.string ⟨(Lib.itoa n).toArray⟩)/\∃k os,w'=grow (w.drewN k) os:=Any.strconv_Itoa kA n h0 h1 w htab
def Fv:au:=⟨λ| 145=>201 | 220=>279 | 219=>324 | 217=>345 | 225=>346 | 224=>347 | 267=>348 | 266=>370 | 314=>371 | n=>n,λ| 9=>9 | 4=>4 | 59=>254 | 3=>3 | 5=>5 | 46=>212 | 146=>399 | 51=>301 | n=>n,λ| 1=>0 | n=>n⟩
theorem pj:iM prog Fv:={
 mixed:=wm
 f145:=func201.trans tH
 f217:=func345.trans tH
 f219:=func324.trans tH
 f220:=func279.trans tH
 f224:=func347.trans tH
 f225:=func346.trans tH
 f266:=func370.trans tH
 f267:=func348.trans tH
 f314:=func371.trans tH
 t3:=underlying3
 a3:=isAgg3
 z3:=sizeOf3
 v3:=zeroValue3
 t4:=underlying4
 a4:=isAgg4
 z4:=sizeOf4
 v4:=zeroValue4
 t5:=underlying5
 a5:=isAgg5
 z5:=sizeOf5
 v5:=zeroValue5
 t9:=underlying9
 a9:=isAgg9
 z9:=sizeOf9
 v9:=zeroValue9
 t46:=underlying212
 a46:=isAgg212
 z46:=sizeOf212
 v46:=zeroValue212
 t51:=underlying301
 a51:=isAgg301
 z51:=sizeOf301
 v51:=zeroValue301
 t59:=underlying254
 a59:=isAgg254
 z59:=sizeOf254
 v59:=zeroValue254
 t146:=underlying399
 a146:=isAgg399
 z146:=sizeOf399
 v146:=zeroValue399
 g1:=by kernel_rfl }
open Go.RowKit Go.Lib in
theorem strings_Cut(s sep:ByteArray)(m:Int)(w:World)(hs:s.size<4294967281)(hm:w.cell? ⟨0,0,none⟩=some (.int .i64 m)):
  Calls prog 201 #[.string s,.string sep] w λe w'=>e = .returned (.tuple #[.string ⟨(lA s.data.toList sep.data.toList).1.toArray⟩,.string ⟨(lA s.data.toList sep.data.toList).2.1.toArray⟩,.bool (lA s.data.toList sep.data.toList).2.2])/\∃n,w'=w.drewN n:=Any.strings_Cut pj s sep m w hs hm
def OK:au:=⟨λ| 99=>284 | 206=>325 | n=>n,λ| 9=>9 | 4=>4 | 3=>3 | n=>n,λ| n=>n⟩
theorem QB1:iG prog OK:={
 mixed:=wm
 f99:=func284.trans tH
 f206:=func325.trans tH
 t3:=underlying3
 a3:=isAgg3
 z3:=sizeOf3
 v3:=zeroValue3
 t4:=underlying4
 a4:=isAgg4
 z4:=sizeOf4
 v4:=zeroValue4
 t9:=underlying9
 a9:=isAgg9
 z9:=sizeOf9
 v9:=zeroValue9 }
open Go.RowKit Go.Lib in
theorem strings_HasPrefix(s p:ByteArray)(w:World):
  Calls prog 284 #[.string s,.string p] w λe w'=>e = .returned (.bool (iV s.data.toList p.data.toList))/\w'=w:=Any.strings_HasPrefix QB1 s p w
def F4:au:=⟨λ| 101=>285 | 208=>326 | 206=>325 | n=>n,λ| 9=>9 | 4=>4 | 3=>3 | n=>n,λ| n=>n⟩
theorem p9:iT prog F4:={
 mixed:=wm
 f101:=func285.trans tH
 f206:=func325.trans tH
 f208:=func326.trans tH
 t3:=underlying3
 a3:=isAgg3
 z3:=sizeOf3
 v3:=zeroValue3
 t4:=underlying4
 a4:=isAgg4
 z4:=sizeOf4
 v4:=zeroValue4
 t9:=underlying9
 a9:=isAgg9
 z9:=sizeOf9
 v9:=zeroValue9 }
open Go.RowKit Go.Lib in
theorem strings_TrimPrefix(s p:ByteArray)(w:World):
  Calls prog 285 #[.string s,.string p] w λe w'=>e = .returned (.string ⟨(iD s.data.toList p.data.toList).toArray⟩)/\w'=w:=Any.strings_TrimPrefix p9 s p w
def Ft:au:=⟨λ| 264=>238 | n=>n,λ| 53=>289 | 46=>212 | n=>n,λ| n=>n⟩
theorem pf:iJ prog Ft:={
 mixed:=wm
 f264:=func238.trans tH
 t46:=underlying212
 a46:=isAgg212
 z46:=sizeOf212
 v46:=zeroValue212
 t53:=underlying289
 a53:=isAgg289
 z53:=sizeOf289
 v53:=zeroValue289 }
open Go.RowKit Go.Lib in
theorem bits_Mul64(x y:Nat)(hx:x<18446744073709551616)(hy:y<18446744073709551616)(w:World):
  Calls prog 238 #[.int .u64 x,.int .u64 y] w λe w'=>e = .returned (.tuple #[.int .u64 ((x*y/18446744073709551616:Nat):Int),.int .u64 ((x*y%18446744073709551616:Nat):Int)])/\w'=w:=Any.bits_Mul64 pf x y hx hy w
def NG:au:=⟨λ| 105=>323 | 212=>342 | 99=>284 | 165=>343 | 166=>302 | 170=>344 | 169=>305 | 263=>368 | 264=>238 | 206=>325 | 240=>334 | 241=>369 | 276=>362 | 277=>382 | n=>n,λ| 9=>9 | 3=>3 | 4=>4 | 20=>20 | 0=>0 | 46=>212 | 109=>376 | 5=>5 | 72=>345 | 76=>328 | 51=>301 | 146=>399 | 53=>289 | 148=>290 | 70=>342 | 37=>343 | 75=>327 | 127=>370 | 164=>392 | 80=>321 | n=>n,λ| n=>n⟩
theorem p6:iR prog NG:={
 mixed:=wm
 f99:=func284.trans tH
 f105:=func323.trans tH
 f165:=func343.trans tH
 f166:=func302.trans tH
 f169:=func305.trans tH
 f170:=func344.trans tH
 f206:=func325.trans tH
 f212:=func342.trans tH
 f240:=func334.trans tH
 f241:=func369.trans tH
 f263:=func368.trans tH
 f264:=func238.trans tH
 f276:=func362.trans tH
 f277:=func382.trans tH
 t0:=underlying0
 a0:=isAgg0
 z0:=sizeOf0
 v0:=zeroValue0
 t3:=underlying3
 a3:=isAgg3
 z3:=sizeOf3
 v3:=zeroValue3
 t4:=underlying4
 a4:=isAgg4
 z4:=sizeOf4
 v4:=zeroValue4
 t5:=underlying5
 a5:=isAgg5
 z5:=sizeOf5
 v5:=zeroValue5
 t9:=underlying9
 a9:=isAgg9
 z9:=sizeOf9
 v9:=zeroValue9
 t20:=underlying20
 a20:=isAgg20
 z20:=sizeOf20
 v20:=zeroValue20
 t37:=underlying343
 a37:=isAgg343
 z37:=sizeOf343
 v37:=zeroValue343
 t46:=underlying212
 a46:=isAgg212
 z46:=sizeOf212
 v46:=zeroValue212
 t51:=underlying301
 a51:=isAgg301
 z51:=sizeOf301
 v51:=zeroValue301
 t53:=underlying289
 a53:=isAgg289
 z53:=sizeOf289
 v53:=zeroValue289
 t70:=underlying342
 a70:=isAgg342
 z70:=sizeOf342
 v70:=zeroValue342
 t72:=underlying345
 a72:=isAgg345
 z72:=sizeOf345
 v72:=zeroValue345
 t75:=underlying327
 a75:=isAgg327
 z75:=sizeOf327
 v75:=zeroValue327
 t76:=underlying328
 a76:=isAgg328
 z76:=sizeOf328
 v76:=zeroValue328
 t109:=underlying376
 a109:=isAgg376
 z109:=sizeOf376
 v109:=zeroValue376
 t127:=underlying370
 a127:=isAgg370
 z127:=sizeOf370
 v127:=zeroValue370
 t146:=underlying399
 a146:=isAgg399
 z146:=sizeOf399
 v146:=zeroValue399
 t148:=underlying290
 a148:=isAgg290
 z148:=sizeOf290
 v148:=zeroValue290
 t164:=underlying392
 a164:=isAgg392
 z164:=sizeOf392
 v164:=zeroValue392 }
theorem MC:ia prog NG:={
 sizeBuilder:=wm
 liesBuilder:=wm
 t5:=underlying5
 a5:=isAgg5
 z5:=sizeOf5
 v5:=zeroValue5
 infoByte:=wm
 cellsByte:=wm
 sizeByte:=wm
 neB5:=by decide }
open Go.RowKit Go.Lib in
theorem strings_Repeat(s:ByteArray)(c:Nat)(w:World)(hc:c<=9223372036854775807)(hlen:s.size*c<=140737488355328):
  Calls prog 323 #[.string s,.int .i64 c] w λe w'=>e = .returned (.string ⟨(Lib.repeatL s.data.toList c).toArray⟩)/\Below w.heap.size w w':=Any.strings_Repeat p6 MC s c w hc hlen
end Go.Proofs
namespace Go.Proofs.YtpmehagnedbkhaaGreatDoor
variable{w w' w0:World}{E N b bytes i k n off:Nat}{a:Act}{c cs l l' news z:List Value}{o:Obj}{u v1 v3 v4 v5 x2 x3 x4 x5 x6 x7 x8:Value}{A0 A1 A2 A3 A4 A5 A6 A7 A8 A9 α γ ι:Type}{T T' t yT:TypeId}{ops:Array Oper}{Q Q':Exit->Act->World->Prop}{tl:List Oper}{K:Act->World->Prop}{g:Bool}{x y:Operand}{bs bs' bs0 ob:List (Nat×Obj)}{fr:Nat×Nat}{P:Program}{f:Obj->List (Nat×Obj)}{fn:Func}{aft:Array Edge}{gd:Option (Nat×Bool)}{x1:Nat×Obj}{ps:List (Nat×Value)}{s:ByteArray}{pl:List (Nat×Nat)}{ds:List Int}{h:Int}{F F0:Gs}{G:Gs->Prop}{m:Sl}
open Go.RowKit
section
variable{P:Program}{N:Nat}{m:Sl}{S:World->Prop}{ty:TypeId}{T yT:TypeId}{x y:Operand}{a b:Nat}{k:IntKind}
def Ah(n:Int):IntKind.u64.wrap n=n%18446744073709551616:=IntKind.wrap_u64 n
theorem Lz(hx:ev m x=some (.int .u64 (a:Int)))(hy:ev m y=some (.int k (b:Int)))(z:Nat)(h:b<=64/\a*2^b%18446744073709551616=z):Qt P N m S (.binOp .shl T x y yT) ty (.int .u64 (z:Int)):=λs w _ _ _ _ ha _=>by
 have h1:min b 64=b:=O;have h2:¬((b:Int)<0):=O;have h3:IntKind.u64.wrap ((a:Int)*2^b)=(z:Int):=by
  rw[Ah,<-h.2,bY,aW,aV];rfl
 simp[execOp,ha.ev hx,ha.ev hy,eqGuard,binOp,iU,bL,h1,h2,h3]
theorem UU(hx:ev m x=some (.int .u64 (a:Int)))(hy:ev m y=some (.int k (b:Int)))(z:Nat)(h:b<=64/\a/2^b=z):Qt P N m S (.binOp .shr T x y yT) ty (.int .u64 (z:Int)):=λs w _ _ _ _ ha _=>by
 have h1:min b 64=b:=O;have h2:¬((b:Int)<0):=O;have h3:(a:Int)/2^b=(z:Int):=by
  rw[<-h.2,bZ,aV];rfl
 simp[execOp,ha.ev hx,ha.ev hy,eqGuard,binOp,iU,bL,h1,h2];exact h3
def Wu(n:Nat)(h:n<18446744073709551616):(aQ 64 (n:Int)).toNat=n:=by
 rw[fB];have h3:(((2^64:Nat):Int))=18446744073709551616:=wu;rw[h3];omega
theorem yG(hx:ev m x=some (.int .u64 (a:Int)))(hy:ev m y=some (.int .u64 ((4294967295:Nat):Int)))(z:Nat)(h:a<18446744073709551616/\a%4294967296=z):Qt P N m S (.binOp .and T x y yT) ty (.int .u64 (z:Int)):=λs w _ _ _ _ ha _=>by
 have e:IntKind.u64.wrap (((aQ 64 (a:Int) &&& aQ 64 ((4294967295:Nat):Int)).toNat:Nat):Int)=(z:Int):=by
  rw[fM,Wu a h.1,Wu _ wu,show(4294967295:Nat)=2^32-1 by decide,Nat.and_two_pow_sub_one_eq_mod,Ah];have:=h.2;omega
 have e2:(do eqGuard .and T x y (.int .u64 (a:Int)) (.int .u64 ((4294967295:Nat):Int));binOp .and T (.int .u64 (a:Int)) (.int .u64 ((4294967295:Nat):Int)):Sem Value).run P w = .ok (.int .u64 (z:Int)) w:=by
  simp only[eqGuard,binOp,ib,ak,aH,ao];rw[<-e];rfl
 simp only[execOp,ha.ev hx,ha.ev hy];simp only[ak]at e2 ⊢;rw[e2];rfl
theorem QEb(hx:ev m x=some (.int .u64 (a:Int)))(hy:ev m y=some (.int .u64 (b:Int)))(z:Nat)(h:a<18446744073709551616/\(∃c k,a=c*2^k/\b<2^k)/\b<18446744073709551616/\a+b=z):Qt P N m S (.binOp .or T x y yT) ty (.int .u64 (z:Int)):=λs w _ _ _ _ ha _=>by
 obtain⟨h1,⟨c,k,h2,h3⟩,h4,h5⟩:=h;have e:IntKind.u64.wrap (((aQ 64 (a:Int) ||| aQ 64 (b:Int)).toNat:Nat):Int)=(z:Int):=by
  have h7:a ||| b=a+b:=by rw[h2,aC,eW h3]
  have h8:a ||| b<2^64:=Nat.or_lt_two_pow h1 h4
  rw[BitVec.toNat_or,Wu a h1,Wu b h4,Ah];omega
 have e2:(do eqGuard .or T x y (.int .u64 (a:Int)) (.int .u64 (b:Int));binOp .or T (.int .u64 (a:Int)) (.int .u64 (b:Int)):Sem Value).run P w = .ok (.int .u64 (z:Int)) w:=by
  simp only[eqGuard,binOp,ib,ak,aH,ao];rw[<-e];rfl
 simp only[execOp,ha.ev hx,ha.ev hy];simp only[ak]at e2 ⊢;rw[e2];rfl
def Gu(hx:ev m x=some (.int .u64 (a:Int)))(hy:ev m y=some (.int .u64 (b:Int)))(z:Nat)(h:(a+b)%18446744073709551616=z):Qt P N m S (.binOp .add T x y yT) ty (.int .u64 (z:Int)) :=
 QU hx hy (by show some (aL .u64 (IntKind.u64.wrap ((a:Int)+b)))=_;rw[Ah];congr 2;omega)
def WW(hx:ev m x=some (.int .u64 (a:Int)))(hy:ev m y=some (.int .u64 (b:Int)))(z:Nat)(h:a*b%18446744073709551616=z):Qt P N m S (.binOp .mul T x y yT) ty (.int .u64 (z:Int)) :=
 QU hx hy (by show some (aL .u64 (IntKind.u64.wrap ((a:Int)*b)))=_;rw[Ah,<-aW];congr 2;omega)
def Gt(hx:ev m x=some (.int .u64 (a:Int)))(hy:ev m y=some (.int .u64 (b:Int)))(z:Nat)(h:b<18446744073709551616/\(a+18446744073709551616-b)%18446744073709551616=z):Qt P N m S (.binOp .sub T x y yT) ty (.int .u64 (z:Int)) :=
 QU hx hy (by show some (aL .u64 (IntKind.u64.wrap ((a:Int)-b)))=_;rw[Ah];congr 2;omega)
def L0(hx:ev m x=some (.int .u64 (a:Int)))(hy:ev m y=some (.int .u64 (b:Int)))(z:Nat)(h:0<b/\a<18446744073709551616/\a/b=z):Qt P N m S (.binOp .quo T x y yT) ty (.int .u64 (z:Int)):=by
 have:=gj (P:=P) (N:=N) (m:=m) (S:=S) (ty:=ty) (T:=T) (yT:=yT) hx hy O;have e:IntKind.u64.wrap ((a:Int).tdiv b)=(z:Int):=by
  have h1:a/b<=a:=Nat.div_le_self a b;rw[Int.tdiv_eq_ediv_of_nonneg O,<-bZ,Ah,h.2.2];omega
 rw[e]at this;exact this
def QBX(hx:ev m x=some (.int .u64 (a:Int)))(hy:ev m y=some (.int .u64 (b:Int)))(z:Nat)(h:0<b/\a%b=z):Qt P N m S (.binOp .rem T x y yT) ty (.int .u64 (z:Int)):=by
 have:=Hp (P:=P) (N:=N) (m:=m) (S:=S) (ty:=ty) (T:=T) (yT:=yT) hx hy O O;rw[<-bY,h.2]at this;exact this
end
section
variable{D yn1 yn0 u un q r:Nat}
def kQ(hD:D=4294967296)(h:q*yn1+r=u)(hc:q*yn0<=D*r+un):q*(yn1*D+yn0)<=u*D+un:=by
 subst hD;rw[lC,<-iF,<-h];generalize q*yn1=A at *
 generalize q*yn0=B at *
 omega
def uP(hy:0<yn1*D+yn0)(hq:(u*D+un)/(yn1*D+yn0)<=q)(h:q*(yn1*D+yn0)<=u*D+un):q=(u*D+un)/(yn1*D+yn0) :=
 Nat.le_antisymm ((Nat.le_div_iff_mul_le hy).2 h) hq
def Mc(hD:D=4294967296)(hy:0<yn1*D+yn0)(h:q*yn1+r=u)(hq:(u*D+un)/(yn1*D+yn0)<=q)(hc:q*yn0<=D*r+un):q=(u*D+un)/(yn1*D+yn0):=uP hy hq (kQ hD h hc)
def Eg(hD:D=4294967296)(hy:0<yn1*D+yn0)(h0:yn0<D)(h:q*yn1+r=u)(hq:(u*D+un)/(yn1*D+yn0)<=q)(hqD:q<=D)(hr:D<=r):q=(u*D+un)/(yn1*D+yn0):=by
 refine Mc hD hy h hq ?_;have h1:q*yn0<=D*D:=iy hqD O;have h2:D*D<=D*r:=fI D hr;omega
def KL(hD:D=4294967296)(hy:0<yn1*D+yn0)(hu:u<yn1*D+yn0)(hun:un<D)(h:q*yn1+r=u)(hc:D<=q\/D*r+un<q*yn0):(u*D+un)/(yn1*D+yn0)<q:=by
 rw[aX hy];rcases hc with hc | hc
 ·have h1:D*(yn1*D+yn0)<=q*(yn1*D+yn0):=bc _ hc;have h2:(u+1)*D<=(yn1*D+yn0)*D:=bc _ hu;rw[aF]at h2;rw[aC D]at h1;omega
 subst hD;rw[lC,<-iF,<-h];generalize q*yn1=A at *
 generalize q*yn0=B at *
 omega
def Rh(hD:D=4294967296)(h1:2147483648<=yn1)(hun:un<D):(u*D+un)/(yn1*D+yn0)<=u/yn1:=by
 have h2:0<yn1*D:=by subst hD;omega
 refine eK (Nat.div_le_div_left (Nat.le_add_right _ yn0) h2) ?_;rw[aC yn1,<-Nat.div_div_eq_div_mul];have:(u*D+un)/D=u:=by subst hD;omega
 rw[this];exact av _
def NH(hD:D=4294967296)(h1:2147483648<=yn1)(h0:yn0<D)(hu:u<yn1*D+yn0):u/yn1<=D+1:=by
 have:u/yn1<D+2:=by
  rw[aX O];subst hD;omega
 omega
end
structure Ty(yn1 yn0 u un:Nat) where
 q:Nat
 r:Nat
 h:q*yn1+r=u
 le:(u*4294967296+un)/(yn1*4294967296+yn0)<=q
 up:q<=4294967297
 lo:r<4294967296
theorem KK{q yn1 r u:Nat}(h:q*yn1+r=u)(hq:1<=q):(q-1)*yn1+(r+yn1)=u:=by
 obtain⟨k,rfl⟩:∃k,q=k+1:=⟨q-1,O⟩;rw[aF]at h;rw[Nat.add_sub_cancel];omega
def Cg{q a:Nat}(hq:q<4294967296)(ha:a<4294967296):q*a<18446744073709551616:=by
 have:q*a<=4294967295*4294967295:=iy O O;omega
def CN{S:World->Prop}{ty:TypeId}{src dst:TypeId}{k':IntKind}{n:Nat}(hx:ev m x=some (.int k' (n:Int)))(hs:(P.underlying src).isSome=true)(hk:N1 P dst=some .u64)(h:n<18446744073709551616):Qt P N m S (.convert src dst x) ty (.int .u64 (n:Int)):=by
 have:=LC (P:=P) (N:=N) (m:=m) (S:=S) (ty:=ty) hx hs hk;rw[Ah,bV O O]at this;exact this
def QT.same[Dr]{P:Program}{f:FuncId}{args:List Value}{w:World}{F:Gs}{v:Value}(he:Enters P f)(hF:Fits F w)(h:Calls P f args.toArray w λe w'=>e = .returned v/\w'=w):QT P f args w F (λ(_:Unit)=>v) (λ_ _=>True) :=
 ⟨he,h.mono λe w' ⟨h1,h2⟩=>⟨(),F,h1,by rw[h2];exact Sx.refl _,Gs.le_refl F,λ_ _=>rfl,by rw[h2];exact hF,λ_ _=>trivial⟩⟩
theorem CZ{y:Nat}(h0:0<y)(h1:y<18446744073709551616):∃s:Nat,(64-(bh y:Int))=s/\s<64/\y*2^s<18446744073709551616/\9223372036854775808<=y*2^s:=by
 obtain⟨g1,g2,g3⟩:=Lib.bitLenAux_bounds 64 y h1 O;have g4:bh y<=64:=Lib.bitLen_le y 64 O h1;change 1<=bh y at g1;change 2^(bh y-1)<=y at g2;change y<2^bh y at g3;generalize bh y=n at *
 refine⟨64-n,O,O,?_,?_⟩
 ·have e:2^n*2^(64-n)=18446744073709551616:=by rw[<-eO,show n+(64-n)=64 by omega]
  rw[<-e];exact eX g3 (eT _)
 have e:2^(n-1)*2^(64-n)=9223372036854775808:=by rw[<-eO,show n-1+(64-n)=63 by omega]
 rw[<-e];exact bc _ g2
theorem QBx{y s:Nat}(hF:Fits F w)(h1:y<18446744073709551616)(hs:(64-(bh y:Int))=s):QT prog 338 [.int .u64 (y:Int)] w F (λ(_:Unit)=>.int .i64 (s:Int)) (λ_ _=>True) :=
 QT.same (enters_of func338 wy rfl) hF ((bits_LeadingZeros64 (y:Int) w O O).mono λe w' ⟨h2,h3⟩=>⟨by rw[h2,eM,hs],h3⟩)
def jD{A B R1 R0 u v v1 v0:Nat}(h1:A+R1=u*4294967296+v1)(h2:B+R0=R1*4294967296+v0)(h3:v=v1*4294967296+v0):A*4294967296+B+R0=u*18446744073709551616+v:=by
 subst h3;omega
def ID{q a r:Nat}(h:((q*a:Nat):Int)>(r:Int)):1<=q:=by
 rcases fP q with h0 | h0
 ·subst h0;simp at h;omega
 exact h0
def QCM{q:Nat}(h:q<4294967296):q*4294967296%18446744073709551616=q*4294967296:=O
def QCN{q p:Nat}(h:q<4294967296)(k:p<4294967296):(q*4294967296+p)%18446744073709551616=q*4294967296+p:=O
theorem ug{h l y:Nat}(hF:Fits F w)(hh:h<y)(hl:l<18446744073709551616)(hy:y<18446744073709551616):
  QT prog 337 [.int .u64 (h:Int),.int .u64 (l:Int),.int .u64 (y:Int)] w F (λ(_:Unit)=>.tuple #[.int .u64 (((h*18446744073709551616+l)/y:Nat):Int),.int .u64 (((h*18446744073709551616+l)%y:Nat):Int)]) (λ_ _=>True):=by
 obtain⟨s,hs,hs64,hY1,hY2⟩:=CZ O hy;obtain⟨Y,hYe⟩:∃Y,Y=y*2^s:=⟨_,rfl⟩;obtain⟨a1,ha1⟩:∃a1,a1=Y/4294967296:=⟨_,rfl⟩;obtain⟨a0,ha0⟩:∃a0,a0=Y%4294967296:=⟨_,rfl⟩;obtain⟨u,hu⟩:∃u,u=h*2^s+l/2^(64-s):=⟨_,rfl⟩;obtain⟨v,hv⟩:∃v,v=l*2^s%18446744073709551616:=⟨_,rfl⟩;obtain⟨v1,hv1⟩:∃v1,v1=v/4294967296:=⟨_,rfl⟩;obtain⟨v0,hv0⟩:∃v0,v0=v%4294967296:=⟨_,rfl⟩;rw[<-hYe]at hY1 hY2;have hA1:2147483648<=a1:=O;have ha0l:a0<4294967296:=O;have hv1l:v1<4294967296:=O;have hv0l:v0<4294967296:=O;have hYa:a1*4294967296+a0=Y:=O;have e64:2^(64-s)*2^s=18446744073709551616:=by rw[<-eO,show 64-s+s=64 by omega]
 have hp:=eT s;have hlow:l/2^(64-s)<2^s:=by rw[aX (eT _),aC,e64];exact hl
 have hhs:h*2^s+2^s<=Y:=by have:=bc (2^s) hh;rw[Nat.succ_mul]at this;omega
 have huY:u<Y:=O;have hNv:u*18446744073709551616+v=(h*18446744073709551616+l)*2^s:=by
  have h1:l*2^s/18446744073709551616=l/2^(64-s):=by rw[<-e64,fp _ _ hp]
  have h2:=aU (l*2^s) 18446744073709551616;rw[h1,<-hv]at h2;rw[hu,aF,aF,fN];omega
 obtain⟨Q1,hQ1⟩:∃Q1,Q1=(u*4294967296+v1)/(a1*4294967296+a0):=⟨_,rfl⟩;obtain⟨R1,hR1⟩:∃R1,R1=(u*4294967296+v1)%(a1*4294967296+a0):=⟨_,rfl⟩;have hY0:0<a1*4294967296+a0:=O;have hR1l:R1<Y:=by rw[hR1,<-hYa];exact eH _ hY0
 have hD1:Q1*Y+R1=u*4294967296+v1:=by rw[hQ1,hR1,<-hYa,aC];exact aU _ _
 have hQ1l:Q1<4294967296:=by rw[hQ1,aX hY0,hYa];omega
 obtain⟨Q0,hQ0⟩:∃Q0,Q0=(R1*4294967296+v0)/(a1*4294967296+a0):=⟨_,rfl⟩;obtain⟨R0,hR0⟩:∃R0,R0=(R1*4294967296+v0)%(a1*4294967296+a0):=⟨_,rfl⟩;have hR0l:R0<Y:=by rw[hR0,<-hYa];exact eH _ hY0
 have hD0:Q0*Y+R0=R1*4294967296+v0:=by rw[hQ0,hR0,<-hYa,aC];exact aU _ _
 have hQ0l:Q0<4294967296:=by rw[hQ0,aX hY0,hYa];omega
 have hall:(Q1*4294967296+Q0)*Y+R0=(h*18446744073709551616+l)*2^s:=by
  rw[<-hNv,aF,fN];exact jD hD1 hD0 O
 have hq:(h*18446744073709551616+l)/y=Q1*4294967296+Q0:=by
  have:=fp (h*18446744073709551616+l) y hp;rw[<-this,<-hall,<-hYe,aC _ Y,Nat.mul_add_div O,Nat.div_eq_of_lt hR0l,fh]
 have hr:(h*18446744073709551616+l)%y=R0/2^s:=by
  have:=Nat.mul_mod_mul_right (2^s) (h*18446744073709551616+l) y;rw[<-hall,<-hYe,aC _ Y,Nat.mul_add_mod,bJ hR0l]at this;rw[this,Nat.mul_div_cancel _ hp]
 refine QT.intro (G:=λ_=>True) func337 rfl wy rfl rfl hF w8<|QKO<|QJE rfl<|wQ rfl<|QG<|wR rfl<|QA (QU rfl rfl rfl)<|QE<|QC ?_
 refine QO I (λhc=>?_) λhc=>?_
 ·exact absurd hc (by simp at hc;omega)
 refine QKr 10 I ?_;refine QO I (λhc=>?_) λhc=>?_
 ·exact absurd hc (by simp at hc;omega)
 refine QKr 9 I ?_;refine QO I (λhc=>?_) λhc=>?_
 ·refine QG<|JK QJZ mixed wm<|QK (QD I)<|QK (QD I)<|QK (L0 I I (l/y) (⟨O,O,rfl⟩))<|QK (QD I)<|QK (QD I)<|QK (QBX I I (l%y) (⟨O,rfl⟩))<|QK (QF I)<|QK (QF I)<|Q5<|QC<|QW ?_
  exact JY () I (wO I I) (by have h0:h=0:=(by simp at hc;omega);subst h0;simp) w8
 refine QKr 5 I<|QI I (λ_ _ f k=>QBx (s:=s) f O hs) λc35=>QA (CN I QEE QAW O)<|QKq 7 I<|QA (Lz I I (Y) (⟨O,by rw[<-hYe];omega⟩))<|QKq 6 I<|QA (UU (b:=32) rfl rfl (a1) (⟨wu,ha1.symm⟩))<|QKq 3 I ?_
 refine wR I<|QA (yG I I (a0) (⟨O,ha0.symm⟩))<|QKq 7 I<|QA (Lz I I (h*2^s) (⟨O,bJ O⟩))<|wB 2 I<|QA (Gt (a:=64) rfl rfl (64-s) (⟨O,O⟩))<|QA (UU I I (l/2^(64-s)) (⟨O,rfl⟩))<|QA (QEb I I (u) (⟨O,⟨h,s,rfl,hlow⟩,O,hu.symm⟩))<|QKq 7 I<|QA (Lz I I (v) (⟨O,hv.symm⟩)) ?_
 refine QKq 6 I<|QA (UU (b:=32) rfl rfl (v1) (⟨wu,hv1.symm⟩))<|QKq 6 I<|QA (yG I I (v0) (⟨O,hv0.symm⟩))<|QKq 7 I<|QA (L0 I I (u/a1) (⟨O,O,rfl⟩))<|QKq 3 I ?_
 refine wA 5 I<|QA (WW I I (u/a1*a1) (wk<|bO u a1))<|QA (Gt I I (u%a1) (by have:=aU u a1;rw[aC]at this;have:=bO u a1;omega))<|QKq 3 I ?_
 refine Bh (ι:=Unit) (λ_=>[(2,.int .u64 ((Y:Nat):Int)),(8,.int .u64 ((s:Nat):Int)),(9,.int .u64 ((a1:Nat):Int)),(10,.int .u64 ((a0:Nat):Int)),(11,.int .u64 ((u:Nat):Int)),(13,.int .u64 ((v1:Nat):Int)),(14,.int .u64 ((v0:Nat):Int)),(15,.int .u64 ((Q1:Nat):Int))]) (λ_=>[]) (λ_ _=>True) ?_ ?_
 ·refine QV<|YA (ι:=Ty a1 a0 u v1) (λi=>[(2,.int .u64 ((Y:Nat):Int)),(8,.int .u64 ((s:Nat):Int)),(9,.int .u64 ((a1:Nat):Int)),(10,.int .u64 ((a0:Nat):Int)),(11,.int .u64 ((u:Nat):Int)),(13,.int .u64 ((v1:Nat):Int)),(14,.int .u64 ((v0:Nat):Int)),(15,.int .u64 ((i.q:Nat):Int)),(16,.int .u64 ((i.r:Nat):Int))]) (λ_=>[]) (λ_ _=>True) (λi=>i.q) ⟨u/a1,u%a1,by rw[aC];exact aU u a1,Rh I hA1 hv1l,NH I hA1 ha0l O,by have:=eH u (show a1>0 by omega);omega⟩ we QJZ w8 λi=>wA 6 I ?_
  refine Qs (t:=69) rfl (λhb69=>?_) λhb69=>?_
  ·refine QKq 11 I ?_;refine QO I (λhc=>?_) λhc=>?_
   ·refine QKr 6 I<|QA (Gt (b:=1) rfl rfl (i.q-1) (⟨wu,by have:=i.up;have:=QKc hb69;omega⟩))<|QKq 7 I<|QA (Gu I I (i.r+a1) (wk i.lo))<|QKq 9 I ?_
    refine QO I (λhc=>?_) λhc=>?_
    ·refine Q2 ?_
     repeat first|refine QY ?_|refine QP wy ?_
     refine QZ ?_;simp only[decide_eq_true_eq]at *;have more:=KL (un:=v1) (D:=4294967296) rfl O O O i.h (.inl O);exact ZQ () ⟨rfl,rfl,rfl,rfl,rfl,rfl,rfl,congrArg (λn:Nat=>some (aL .u64 (n:Int))) ((Eg I O ha0l (KK i.h O) (by rw[<-hQ1];rw[<-hQ1]at more;omega) (wk i.up) O).trans hQ1.symm),trivial⟩ QJZ w8
    refine QN<|Qk ?_
    simp only[decide_eq_true_eq,decide_eq_false_iff_not]at *;have more:=KL (un:=v1) (D:=4294967296) rfl O O O i.h (.inl O);exact Ql (⟨i.q-1,i.r+a1,KK i.h O,O,wk i.up,O⟩:Ty a1 a0 u v1) (by show i.q-1<i.q;omega) we QJZ w8
   refine Q2 ?_
   repeat first|refine QY ?_|refine QP wy ?_
   refine QZ ?_;cases hc
  refine wB 5 I<|QA (WW I I (i.q*a0) (bJ (Cg (wk<|QKd hb69) ha0l)))<|wB 3 I<|QA (WW (a:=4294967296) rfl rfl (4294967296*i.r) (wk i.lo))<|wB 3 I<|QA (Gu I I (4294967296*i.r+v1) (wk i.lo))<|QKq 5 I ?_
  refine QO I (λhc=>?_) λhc=>?_
  ·refine QKr 6 I<|QA (Gt (b:=1) rfl rfl (i.q-1) (⟨wu,by have:=i.up;have:=ID (QKc hc);omega⟩))<|QKq 7 I<|QA (Gu I I (i.r+a1) (wk i.lo))<|QKq 9 I ?_
   refine QO I (λhc=>?_) λhc=>?_
   ·refine Q2 ?_
    repeat first|refine QY ?_|refine QP wy ?_
    refine QZ ?_;simp only[decide_eq_true_eq]at *;have more:=KL (un:=v1) (D:=4294967296) rfl O O O i.h (.inr O);exact ZQ () ⟨rfl,rfl,rfl,rfl,rfl,rfl,rfl,congrArg (λn:Nat=>some (aL .u64 (n:Int))) ((Eg I O ha0l (KK i.h O) (by rw[<-hQ1];rw[<-hQ1]at more;omega) (wk i.up) O).trans hQ1.symm),trivial⟩ QJZ w8
   refine QN<|Qk ?_
   simp only[decide_eq_true_eq,decide_eq_false_iff_not]at *;have more:=KL (un:=v1) (D:=4294967296) rfl O O O i.h (.inr O);exact Ql (⟨i.q-1,i.r+a1,KK i.h O,O,wk i.up,O⟩:Ty a1 a0 u v1) (by show i.q-1<i.q;omega) we QJZ w8
  refine Q2 ?_
  repeat first|refine QY ?_|refine QP wy ?_
  refine QZ ?_;simp only[decide_eq_false_iff_not]at *;exact ZQ () ⟨rfl,rfl,rfl,rfl,rfl,rfl,rfl,congrArg (λn:Nat=>some (aL .u64 (n:Int))) ((Mc I O i.h i.le O).trans hQ1.symm),trivial⟩ QJZ w8
 intro i;refine wR I<|QA (WW (b:=4294967296) rfl rfl (u*4294967296%18446744073709551616) (rfl))<|QJD I<|QA (Gu I I ((u*4294967296+v1)%18446744073709551616) O)<|wB 2 I<|QA (WW I I (Q1*Y%18446744073709551616) (rfl))<|QA (Gt I I (R1) (⟨O,by generalize Q1*Y=B at *;omega⟩))<|QKq 7 I<|QA (L0 I I (R1/a1) (⟨O,O,rfl⟩))<|QKq 7 I ?_
 refine QJD I<|QA (WW I I (R1/a1*a1) (wk<|bO R1 a1))<|QA (Gt I I (R1%a1) (by have:=aU R1 a1;rw[aC]at this;have:=bO R1 a1;omega))<|QKq 3 I ?_
 refine Bh (ι:=Unit) (λ_=>[(2,.int .u64 ((Y:Nat):Int)),(8,.int .u64 ((s:Nat):Int)),(14,.int .u64 ((v0:Nat):Int)),(15,.int .u64 ((Q1:Nat):Int)),(17,.int .u64 ((R1:Nat):Int)),(18,.int .u64 ((Q0:Nat):Int))]) (λ_=>[]) (λ_ _=>True) ?_ ?_
 ·refine QV<|YA (ι:=Ty a1 a0 R1 v0) (λi=>[(2,.int .u64 ((Y:Nat):Int)),(8,.int .u64 ((s:Nat):Int)),(9,.int .u64 ((a1:Nat):Int)),(10,.int .u64 ((a0:Nat):Int)),(14,.int .u64 ((v0:Nat):Int)),(15,.int .u64 ((Q1:Nat):Int)),(17,.int .u64 ((R1:Nat):Int)),(18,.int .u64 ((i.q:Nat):Int)),(16,.int .u64 ((i.r:Nat):Int))]) (λ_=>[]) (λ_ _=>True) (λi=>i.q) ⟨R1/a1,R1%a1,by rw[aC];exact aU R1 a1,Rh I hA1 hv0l,NH I hA1 ha0l O,by have:=eH R1 (show a1>0 by omega);omega⟩ we QJZ w8 λi=>wA 6 I ?_
  refine Qs (t:=104) rfl (λhb104=>?_) λhb104=>?_
  ·refine QKq 11 I ?_;refine QO I (λhc=>?_) λhc=>?_
   ·refine QKr 6 I<|QA (Gt (b:=1) rfl rfl (i.q-1) (⟨wu,by have:=i.up;have:=QKc hb104;omega⟩))<|QKq 7 I<|QA (Gu I I (i.r+a1) (wk i.lo))<|QKq 9 I ?_
    refine QO I (λhc=>?_) λhc=>?_
    ·refine Q2 ?_
     repeat first|refine QY ?_|refine QP wy ?_
     refine QZ ?_;simp only[decide_eq_true_eq]at *;have more:=KL (un:=v0) (D:=4294967296) rfl O O O i.h (.inl O);exact ZQ () ⟨rfl,rfl,rfl,rfl,rfl,congrArg (λn:Nat=>some (aL .u64 (n:Int))) ((Eg I O ha0l (KK i.h O) (by rw[<-hQ0];rw[<-hQ0]at more;omega) (wk i.up) O).trans hQ0.symm),trivial⟩ QJZ w8
    refine QN<|Qk ?_
    simp only[decide_eq_true_eq,decide_eq_false_iff_not]at *;have more:=KL (un:=v0) (D:=4294967296) rfl O O O i.h (.inl O);exact Ql (⟨i.q-1,i.r+a1,KK i.h O,O,wk i.up,O⟩:Ty a1 a0 R1 v0) (by show i.q-1<i.q;omega) we QJZ w8
   refine Q2 ?_
   repeat first|refine QY ?_|refine QP wy ?_
   refine QZ ?_;cases hc
  refine wB 5 I<|QA (WW I I (i.q*a0) (bJ (Cg (wk<|QKd hb104) ha0l)))<|wB 3 I<|QA (WW (a:=4294967296) rfl rfl (4294967296*i.r) (wk i.lo))<|wB 3 I<|QA (Gu I I (4294967296*i.r+v0) (wk i.lo))<|QKq 5 I ?_
  refine QO I (λhc=>?_) λhc=>?_
  ·refine QKr 6 I<|QA (Gt (b:=1) rfl rfl (i.q-1) (⟨wu,by have:=i.up;have:=ID (QKc hc);omega⟩))<|QKq 7 I<|QA (Gu I I (i.r+a1) (wk i.lo))<|QKq 9 I ?_
   refine QO I (λhc=>?_) λhc=>?_
   ·refine Q2 ?_
    repeat first|refine QY ?_|refine QP wy ?_
    refine QZ ?_;simp only[decide_eq_true_eq]at *;have more:=KL (un:=v0) (D:=4294967296) rfl O O O i.h (.inr O);exact ZQ () ⟨rfl,rfl,rfl,rfl,rfl,congrArg (λn:Nat=>some (aL .u64 (n:Int))) ((Eg I O ha0l (KK i.h O) (by rw[<-hQ0];rw[<-hQ0]at more;omega) (wk i.up) O).trans hQ0.symm),trivial⟩ QJZ w8
   refine QN<|Qk ?_
   simp only[decide_eq_true_eq,decide_eq_false_iff_not]at *;have more:=KL (un:=v0) (D:=4294967296) rfl O O O i.h (.inr O);exact Ql (⟨i.q-1,i.r+a1,KK i.h O,O,wk i.up,O⟩:Ty a1 a0 R1 v0) (by show i.q-1<i.q;omega) we QJZ w8
  refine Q2 ?_
  repeat first|refine QY ?_|refine QP wy ?_
  refine QZ ?_;simp only[decide_eq_false_iff_not]at *;exact ZQ () ⟨rfl,rfl,rfl,rfl,rfl,congrArg (λn:Nat=>some (aL .u64 (n:Int))) ((Mc I O i.h i.le O).trans hQ0.symm),trivial⟩ QJZ w8
 intro i;refine wR I<|QA (WW (b:=4294967296) rfl rfl (Q1*4294967296) (QCM hQ1l))<|QJD I<|QA (Gu I I (Q1*4294967296+Q0) (QCN hQ1l hQ0l))<|QJD I<|QA (WW (b:=4294967296) rfl rfl (R1*4294967296%18446744073709551616) (rfl))<|QJD I<|QA (Gu I I ((R1*4294967296+v0)%18446744073709551616) O)<|wB 2 I<|QA (WW I I (Q0*Y%18446744073709551616) (rfl))<|QA (Gt I I (R0) (⟨O,by generalize Q0*Y=B at *;omega⟩))<|QJD I<|QA (UU I I (R0/2^s) (⟨O,rfl⟩))<|QKq 5 I ?_
 exact JY () I (wO I I) (by rw[hq,hr]) w8
open Go.RowKit Ig
def X8(x y:Int):Int:=x*y/W
def XB(x y:Int):Int:=x*y%W
theorem KJ(x y:Int)(w:World)(hx:0<=x/\x<W)(hy:0<=y/\y<W):
  Calls prog 238 #[.int .u64 x,.int .u64 y] w λe w'=>e = .returned (.tuple #[.int .u64 (X8 x y),.int .u64 (XB x y)])/\w=w':=by
 obtain⟨a,rfl⟩:=ah hx.1;obtain⟨b,rfl⟩:=ah hy.1;have hW:W=18446744073709551616:=rfl;refine(bits_Mul64 a b O O w).mono ?_;rintro e w' ⟨rfl,rfl⟩;refine⟨?_,rfl⟩;unfold X8 XB;rw[hW];simp only[bZ,bY,aW];rfl
def OX(h l y:Int):Int:=(h*W+l)/y
def jN(h l y:Int):Int:=(h*W+l)%y
def Ls(w:World):Gs:=λb=>match w.heap[b]? with | some (.cells c T _)=>some (c,T) | _=>none
theorem FL(w:World):Fits (Ls w) w:=by
 refine⟨λb c T h=>?_,λb c fr h=>?_⟩
 ·unfold Ls at h;split at h
  ·rename_i c' T' fr e;cases h;exact⟨fr,e⟩
  cases h
 unfold Ls;rw[h]
theorem Tl(h l y:Int)(w:World)(hh:0<=h/\h<y)(hl:0<=l/\l<W)(hy:y<W):
  Calls prog 337 #[.int .u64 h,.int .u64 l,.int .u64 y] w λe w'=>e = .returned (.tuple #[.int .u64 (OX h l y),.int .u64 (jN h l y)])/\Ext w w':=by
 obtain⟨a,rfl⟩:=ah hh.1;obtain⟨b,rfl⟩:=ah hl.1;obtain⟨c,rfl⟩:=ah (show 0<=y by omega);have hW:W=18446744073709551616:=rfl;refine(ug (FL w) (h:=a) (l:=b) (y:=c) O O O).2.mono ?_;rintro e w' ⟨_,F',rfl,hx,_⟩;refine⟨?_,hx.toBelow⟩;unfold OX jN;rw[hW];simp only[bZ,bY,aW,Int.natCast_add];rfl
theorem y7(x:Int)(w:World)(hx:0<x/\x<W):
  Calls prog 338 #[.int .u64 x] w λe w'=>(∃s:Nat,e = .returned (.int .i64 s)/\s<64/\x*2^s<W/\9223372036854775808<=x*2^s)/\w=w':=by
 obtain⟨a,rfl⟩:=ah (show 0<=x by omega);have hW:W=18446744073709551616:=rfl;obtain⟨s,h1,h2,h3,h4⟩:=CZ (y:=a) O O;refine(bits_LeadingZeros64 (a:Int) w O O).mono ?_;rintro e w' ⟨rfl,rfl⟩;refine⟨⟨s,?_,h2,?_,?_⟩,rfl⟩
 ·rw[eM,h1]
 ·rw[hW];have:((a*2^s:Nat):Int)<18446744073709551616:=O;simpa[aW,aV]using this
 have:(9223372036854775808:Int)<=((a*2^s:Nat):Int):=O;simpa[aW,aV]using this
theorem PA{x y o c:Int}(hx:0<=x/\x<W)(hy:0<=y/\y<W)(ho:0<=o/\o<W)(hc:0<=c/\c<W):
  (0<=X8 x y/\X8 x y<W)/\(0<=XB x y/\XB x y<W) /\
  (0<=XR (XB x y) o 0/\XR (XB x y) o 0<W) /\
  (0<=X8 x y+Xy (XB x y) o 0/\X8 x y+Xy (XB x y) o 0<W) /\
  (0<=XR (XR (XB x y) o 0) c 0/\XR (XR (XB x y) o 0) c 0<W) /\
  (0<=X8 x y+Xy (XB x y) o 0+Xy (XR (XB x y) o 0) c 0/\X8 x y+Xy (XB x y) o 0+Xy (XR (XB x y) o 0) c 0<W) /\
  XR (XR (XB x y) o 0) c 0+W*(X8 x y+Xy (XB x y) o 0+Xy (XR (XB x y) o 0) c 0)=x*y+o+c:=by
 have hm0:0<=x*y:=aK hx.1 hy.1;have hm1:x*y<=(W-1)*(W-1):=iz O O hy.1 (by simp only[HH];omega);have e1:XB x y+W*X8 x y=x*y:=by unfold XB X8;rw[lf];exact fy _ _
 have l0:0<=XB x y:=eU _ wu;have l1:XB x y<W:=fR _ Ju;have h0:0<=X8 x y:=iw hm0 wu;generalize x*y=m at *
 generalize XB x y=lo at *
 generalize X8 x y=hi at *
 have a:=G9 (x:=lo) (y:=o) (c:=0) ⟨l0,l1⟩ ho wu;generalize XR lo o 0=lo1 at *
 generalize Xy lo o 0=c1 at *
 have a':=G9 (x:=lo1) (y:=c) (c:=0) a.2.1 hc wu;generalize XR lo1 c 0=lo2 at *
 generalize Xy lo1 c 0=c2 at *
 simp only[HH]at *
 omega
def Kq(la lb:List Int)(i j:Nat)(x:Int)(o:List Int)(c:Int):Prop :=
 o.length=la.length+lb.length/\DG W o/\(∀p,i+lb.length<=p->Qm o p=0)/\(0<=c/\c<W) /\
  dv W o+W^(i+j)*c=dv W (la.take i)*dv W lb+W^i*(x*dv W (lb.take j))
theorem Kq.step{la lb o:List Int}{j:Nat}{x c:Int}(h:Kq la lb i j x o c)(hx:0<=x/\x<W)(hb:DG W lb)(hj:j<lb.length)(hi:i<la.length):
  Kq la lb i (j+1) x (o.set (i+j) (XR (XR (XB x (Qm lb j)) (Qm o (i+j)) 0) c 0))
   (X8 x (Qm lb j)+Xy (XB x (Qm lb j)) (Qm o (i+j)) 0+Xy (XR (XB x (Qm lb j)) (Qm o (i+j)) 0) c 0):=by
 obtain⟨h1,h2,h3,h4,h5⟩:=h;obtain⟨_,_,_,_,m1,m2,m3⟩:=PA hx (Jf hb j) (Jf h2 (i+j)) h4;refine⟨by simpa using h1,h2.set _ m1.1 m1.2,?_,m2,?_⟩
 ·intro p hp;rw[Ep O,if_neg O];exact h3 p hp
 rw[Ry W O,XL,<-Nat.add_assoc,aD];generalize XR (XR (XB x (Qm lb j)) (Qm o (i+j)) 0) c 0=lo at *
 generalize X8 x (Qm lb j)+Xy (XB x (Qm lb j)) (Qm o (i+j)) 0+Xy (XR (XB x (Qm lb j)) (Qm o (i+j)) 0) c 0=hi at *
 have e:W^(i+j)*(lo+W*hi)=W^(i+j)*(x*Qm lb j+Qm o (i+j)+c):=by rw[m3]
 rw[fD]at *
 grind
theorem Kq.row{la lb o:List Int}{x c:Int}(h:Kq la lb i lb.length x o c)(hi:i<la.length)(hx:x=Qm la i):
  Kq la lb (i+1) 0 0 (o.set (i+lb.length) c) 0:=by
 obtain⟨h1,h2,h3,h4,h5⟩:=h;refine⟨by simpa using h1,h2.set _ h4.1 h4.2,?_,⟨bK _,Ju⟩,?_⟩
 ·intro p hp;rw[Ep O,if_neg O];exact h3 p O
 rw[Ry W O,h3 _ (av _),XL,<-hx];rw[bG]at h5;simp only[Int.mul_zero,Int.add_zero,Int.zero_mul,Int.sub_zero];rw[h5];grind
def Kq.start(la lb:List Int):Kq la lb 0 0 0 (ai (la.length+lb.length) 0) 0:=by
 refine⟨wz,DG.replicate Ju _,?_,⟨bK _,Ju⟩,by rw[Tk];simp⟩;intro p _;unfold Qm;split<;>simp
def Kq.next{la lb o:List Int}{c y:Int}(h:Kq la lb i 0 0 o c)(x:Int)(hc:c=0)(hy:y=0):Kq la lb i 0 x o y:=by
 obtain⟨h1,h2,h3,h4,h5⟩:=h;subst hc hy;exact⟨h1,h2,h3,h4,by simpa using h5⟩
theorem EW(v v':Value)(la lb:List Int)(w:World)(ha:DG W la)(hb:DG W lb)(hs:SL w v Jl la)(hs':SL w v' Jl lb)(h1:la.length<=100000000000)(h2:lb.length<=100000000000):
  Calls prog 240 #[v,v'] w λe w'=>Zm w (λv w'=>∃l,SL w' v Jl l/\DG W l/\NZ l/\dv W l=dv W la*dv W lb) e w':=by
 obtain⟨q,cap,rfl,hcap,hmax,hca⟩:=hs;obtain⟨q',cap',rfl,hcap',hmax',hcb⟩:=hs';have HA:=aa hca;clear hca;have HB:=aa hcb;clear hcb;have hmk:=λw=>Yd (la.length+lb.length) O w;have ec:((la.length+lb.length:Nat):Int)=(la.length:Int)+lb.length:=O;simp only[ec]at hmk;clear ec;go_enter func240,ntmps240
 go_wp2
 go_loopw [22] (λi wr=>∃(k:Nat) (o:List Int),k<=la.length/\i = .int .i64 k/\Kq la lb k 0 0 o 0/\Y5 wr w.heap.size 289 Jl o/\Ext w wr)
  (λi _=>la.length-(intOf i).toNat)
 case atStart=>exact⟨0,_,bT _,rfl,Kq.start la lb,Y5.made w _ Jl 0 _ _ rfl,(Ext.refl _).alloc _⟩
 case round =>
  obtain⟨k,o,hk,rfl,hI,hBl,hE⟩:=hrel;rename_i wr _;obtain⟨wo,rfl⟩:∃wo:World,wo=wr:=⟨_,rfl⟩;clear hmk;by_cases hlt:k<la.length
  ·obtain⟨b,off,rfl,hbl,hc⟩:=HA.out k hlt;rw[Z8 hlt]at hc;have hc:=hE.cell hc;simp only[Jl]at hc;have hx:=Jf ha k;have HI:=aa hI;clear hI;have HBl:=aa hBl;clear hBl;go_wp2
   go_loopw [29,8] (λj c wr=>∃(m:Nat) (o:List Int) (cc:Int),m<=lb.length/\j = .int .i64 m/\c = .int .u64 cc/\Kq la lb k m (Qm la k) o cc/\Y5 wr w.heap.size 289 Jl o/\Ext w wr)
    (λj _ _=>lb.length-(intOf j).toNat)
   case atStart=>exact⟨0,o,0,bT _,rfl,rfl,HI.out.next _ rfl rfl,HBl.out,hE⟩
   case round =>
    clear HI HBl hE hc;obtain⟨m,o,cc,hm,rfl,rfl,hI,hBl,hE⟩:=hrel;by_cases hlt2:m<lb.length
    ·obtain⟨b2,off2,rfl,hb2,hc2⟩:=HB.out m hlt2;rw[Z8 hlt2]at hc2;have hc2:=hE.cell hc2;simp only[Jl]at hc2;have hst:=hI.step hx hb hlt2 hlt;obtain⟨hd1,hd2,hd3,hd4,hd5⟩:=hI;clear hd3 hd5;have hd1':=aa hd1;have hol:k+m<o.length:=O;clear hd1;have hy:=Jf hb m;have ho:=Jf hd2 (k+m);have hcell:=hBl.cell (i:=k+m) hol;rw[Z8 hol]at hcell;simp only[Jl]at hcell;have hfr:=hBl.frozen (k+m);have HBs:=aa (hBl.set (k+m) (XR (XR (XB (Qm la k) (Qm lb m)) (Qm o (k+m)) 0) cc 0));have HS:=aa hst;clear hst hBl;obtain⟨g1,g2,g3,g4,g5,g6,_⟩:=PA hx hy ho hd4;generalize hmy:X8 (Qm la k) (Qm lb m)=mh at *
     generalize hml:XB (Qm la k) (Qm lb m)=ml at *
     have HMH:=aa hmy;have HML:=aa hml;clear hmy hml;have ha1:=λw=>KG ml (Qm o (k+m)) 0 g2.1 ho.1 wu wu w;have ha2:=λw=>KG (XR ml (Qm o (k+m)) 0) cc 0 g3.1 hd4.1 wu wu w;have b1:0<=mh+Xy ml (Qm o (k+m)) 0:=g4.1;have b2:mh+Xy ml (Qm o (k+m)) 0<=18446744073709551615:=by have:=g4.2;simp only[HH]at this;omega
     have b3:0<=mh+Xy ml (Qm o (k+m)) 0+Xy (XR ml (Qm o (k+m)) 0) cc 0:=g6.1;have b4:mh+Xy ml (Qm o (k+m)) 0+Xy (XR ml (Qm o (k+m)) 0) cc 0<=18446744073709551615:=by have:=g6.2;simp only[HH]at this;omega
     go_wp2_with (go_at_call 238;refine(KJ _ _ _ hx hy).mono ?_;rw[HMH.out,HML.out];rintro e w' ⟨rfl,rfl⟩)
     go_roundw
     case rel=>exact⟨m+1,_,_,O,by go_num,rfl,HS.out,HBs.out,aS hE wz _⟩
     case measure=>simp[intOf];omega
    have hk':m=lb.length:=O;subst hk';have hst:=hI.row hlt rfl;obtain⟨hd1,hd2,hd3,hd4,hd5⟩:=hI;clear hd3 hd5;have hol:k+lb.length<o.length:=O;clear hd1;have hcell:=hBl.cell (i:=k+lb.length) hol;rw[Z8 hol]at hcell;simp only[Jl]at hcell;have hfr:=hBl.frozen (k+lb.length);have HBs:=aa (hBl.set (k+lb.length) cc);have HS:=aa hst;clear hst hBl;go_wp2
    go_roundw
    case rel=>exact⟨k+1,_,O,by go_num,HS.out,HBs.out,aS hE wz _⟩
    case measure=>simp[intOf];omega
  have hk':k=la.length:=O;subst hk';obtain⟨hd1,hd2,hd3,hd4,hd5⟩:=hI;have hSL:=SL.BP hBl (la.length+lb.length) O O;rw[af O,hd1]at hSL;have HSL:=aa hSL;rw[bG]at hd5;have HF:=aa hd5;clear hd5 hSL hd1 hBl;go_wp2_with (go_at_call 307;refine(VO _ _ _ HSL.out).mono ?_;rintro e w' ⟨⟨v',rfl,hv⟩,rfl⟩)
  go_ret
  exact⟨_,rfl,⟨_,hv,hd2.Je,Zv _,by rw[ZH];have:=HF.out;simpa using this⟩,hE⟩
def p2(s:Nat):Int:=2^s
def YY(s:Nat):0<p2 s:=lD wu
def Gw{s:Nat}(h:s<64):p2 (64-s)*p2 s=W:=by
 unfold p2;rw[<-fD,show 64-s+s=64 from by omega];rfl
def UZ:p2 0=1:=rfl
def QAK{s:Nat}(h:s<64):2*p2 s<=W:=by
 have h1:=Gw h;have h2:2<=p2 (64-s):=by
  unfold p2;rw[show 64-s=(63-s)+1 from by omega,aD];have:=YY (63-s);unfold p2 at this;omega
 have h3:2*p2 s<=p2 (64-s)*p2 s:=ay h2 (bm (YY s));omega
def CB{x:Int}{s:Nat}(hs:s<64):x*p2 s%W=p2 s*(x%p2 (64-s)):=by
 rw[<-Gw hs,bR (p2 (64-s)) (p2 s),bR x (p2 s),Int.mul_emod_mul_of_pos _ _ (YY s)]
def zV{x:Int}{s:Nat}(hs:s<64):x*p2 s/W=x/p2 (64-s):=by
 rw[<-Gw hs];exact Int.mul_ediv_mul_of_pos_left x _ (YY s)
theorem Ua{x:Int}{s:Nat}(hs:s<64)(h0:0<=h)(h1:h<p2 s):bits .or .u64 h (x*p2 s%W)=h+x*p2 s%W/\h+x*p2 s%W<W:=by
 have e:=CB (x:=x) hs;have k0:=YY (64-s);have b0:0<=x%p2 (64-s):=eU _ O;have b1:x%p2 (64-s)<p2 (64-s):=fR _ k0;have hb:p2 s*(x%p2 (64-s))+h<W:=by
  have:p2 s*(x%p2 (64-s)+1)<=p2 s*p2 (64-s):=ag O (bm (YY s));rw[bR (p2 s) (p2 (64-s)),Gw hs,fF]at this;omega
 have hb0:0<=p2 s*(x%p2 (64-s)):=aK (bm (YY s)) b0;rw[e];refine⟨?_,O⟩;obtain⟨a,ha⟩:=ah b0;obtain⟨c,rfl⟩:=ah h0;rw[ha]at *
 have e2:p2 s*(a:Int)=((2^s*a:Nat):Int):=by simp[p2]
 have h1':c<2^s:=by
  have:(c:Int)<((2^s:Nat):Int):=(by simpa[p2]using h1);omega
 rw[e2]at hb ⊢;have hW:=HH;rw[u64_or_nat _ _ O O,Nat.or_comm,<-eW h1'];omega
def Mq(l:List Int)(s k:Nat)(ds:List Int)(h:Int):Prop :=
 ds.length=k/\DG W ds/\(0<=h/\h<p2 s)/\dv W ds+W^k*h=dv W (l.take k)*p2 s
theorem Mq.step{l:List Int}{s:Nat}(hi:Mq l s k ds h)(hs:s<64)(hl:DG W l):
  Mq l s (k+1) (ds++[h+Qm l k*p2 s%W]) (Qm l k/p2 (64-s)):=by
 obtain⟨h1,h2,h3,h4⟩:=hi;obtain⟨_,b⟩:=Ua (x:=Qm l k) hs h3.1 h3.2;have hd:=Jf hl k;have l0:0<=Qm l k*p2 s%W:=eU _ wu;have q:=fy (Qm l k*p2 s) W;have hk:0<=Qm l k/p2 (64-s)/\Qm l k/p2 (64-s)<p2 s:=by
  refine⟨iw hd.1 (bm (YY _)),?_⟩;refine Int.ediv_lt_of_lt_mul (YY _) ?_;rw[bR,Gw hs];exact hd.2
 refine⟨by simp[h1],h2.append (DG.cons O b (DG.nil _)),hk,?_⟩;rw[ZA,h1,XL,aD,<-zV hs];generalize Qm l k*p2 s/W=a at *
 generalize Qm l k*p2 s%W=c at *
 have e:W^k*(W*a+c)=W^k*(Qm l k*p2 s):=by rw[q]
 grind
def Mq.zero{l:List Int}(hi:Mq l 0 k ds h):h=0:=by
 have:=hi.2.2.1;rw[UZ]at this;omega
def Pr(x:Int)(s:Nat):IntKind.u64.wrap (x*2^s)=x*p2 s%W:=by
 simp[il,fS,bL,p2,HH]
def Gp(ds:List α)(x y:α)(r:List α)(k:Nat)(h:ds.length=k):(ds++x::r).set k y=ds++y::r:=by
 subst h;rw[fj _ _ (av _),ei,fJ]
def zf(ds:List α)(x y z:α)(r:List α)(k:Nat)(h:ds.length=k):(ds++z::x::r).set (k+1) y=(ds++[z])++y::r:=by
 have:=Gp (ds++[z]) x y r (k+1) (by simp[h]);rw[bB]at this;exact this
set_option maxRecDepth 100000 in
theorem UJ(s:Nat)(q:Option Addr)(cap:Nat)(l:List Int)(w:World)(hs:s<64)(hl:DG W l)(hc:Cells w q Jl l)(hlen:l.length<=100000000000):
  Calls prog 339 #[.slice q l.length cap,.int .i64 s] w λe w' =>
   Zm w (λv w'=>∃l':List Int,v = .slice (some ⟨w.heap.size,0,none⟩) (l.length+1) (l.length+1)/\Y5 w' w.heap.size 289 Jl l'/\l'.length=l.length+1/\DG W l'/\dv W l'=dv W l*p2 s) e w':=by
 have HC:=aa hc;clear hc;have hmk:=λw=>Yd (l.length+1) O w;have ec:((l.length+1:Nat):Int)=(l.length:Int)+1:=O;simp only[ec]at hmk;clear ec;go_enter func339,ntmps339
 go_wp2
 go_loopw [14] (λi wr=>∃(k:Nat) (ds:List Int) (h:Int),k<=l.length/\i = .int .i64 k/\Mq l s k ds h/\Y5 wr w.heap.size 289 Jl (ds++h::ai (l.length-k) 0)/\Ext w wr)
  (λi _=>l.length-(intOf i).toNat)
 case atStart=>exact⟨0,[],0,bT _,rfl,⟨rfl,DG.nil _,⟨bK _,YY _⟩,wz⟩,Y5.made w _ Jl 0 _ _ rfl,(Ext.refl _).alloc _⟩
 case round =>
  obtain⟨k,ds,h,hk,rfl,hI,hB,hE⟩:=hrel;clear hmk;by_cases hlt:k<l.length
  ·obtain⟨b,off,rfl,hb,hc⟩:=HC.out k hlt;rw[Z8 hlt]at hc;have hc:=hE.cell hc;simp only[Jl]at hc;have hst:=hI.step hs hl;obtain⟨hd1,hd2,hd3,hd4⟩:=hI;have hor:=(Ua (x:=Qm l k) hs hd3.1 hd3.2).1;have HO:=aa hor;clear hor hd4;have hlen1:k<(ds++h::ai (l.length-k) 0).length:=by simp[hd1]
   have hlen2:k+1<(ds++h::ai (l.length-k) 0).length:=by simp[hd1];omega
   have hcell:=hB.cell hlen1;have hcell2:=hB.cell hlen2;have hg:(ds++h::ai (l.length-k) 0).getD k default=h:=by subst hd1;simp[bH]
   rw[hg]at hcell;simp only[Jl]at hcell hcell2;have hfr:=hB.frozen k;have hfr2:=hB.frozen (k+1);have hx0:(0:Int)<=(k:Int):=O;have hx1:(k:Int)<(l.length:Int)+1:=O;generalize (ds++h::ai (l.length-k) 0).getD (k+1) default=z at hcell2;have HD1:=aa hd1;have HB:=aa hB;clear hg hd1 hB hlen1 hlen2;by_cases hs0:0<s
   ·go_wp2
    go_still_tail 9,wm
    go_wp2
    go_roundw
    case rel =>
     refine⟨k+1,ds++[h+Qm l k*p2 s%W],Qm l k/p2 (64-s),O,by go_num,hst,?_,((hE.X5 wz _).X5 wz _).drew⟩;rw[Pr,HO.out];have h1:=HB.out.set k (h+Qm l k*p2 s%W);rw[Gp _ _ _ _ _ HD1.out,show l.length-k=(l.length-(k+1))+1 from by omega,bw]at h1;have h2:=h1.set (k+1) (Qm l k/p2 (64-s));rw[zf _ _ _ _ _ _ HD1.out]at h2;exact h2.drew
    case measure=>simp[intOf];omega
   have hz:Hid (Qm l k/p2 (64-s)=0):=by
    have e:s=0:=O;subst e;exact hst.zero
   go_wp2
   go_still_tail 9,wm
   go_wp2
   go_roundw
   case rel =>
    refine⟨k+1,ds++[h+Qm l k*p2 s%W],Qm l k/p2 (64-s),O,by go_num,hst,?_,(hE.X5 wz _).drew⟩;rw[Pr,HO.out,hz.out];have h1:=HB.out.set k (h+Qm l k*p2 s%W);rw[Gp _ _ _ _ _ HD1.out,show l.length-k=(l.length-(k+1))+1 from by omega,bw]at h1;rw[bB];exact h1.drew
   case measure=>simp[intOf];omega
  have hk':k=l.length:=O;subst hk';obtain⟨hd1,hd2,hd3,hd4⟩:=hI;have HF:Hid (dv W ds+W^l.length*h=dv W l*p2 s):=by rw[bG]at hd4;exact hd4
  have HD1:=aa hd1;rw[ei,eB]at hB;have HB:=aa hB;have hh:h<W:=by have:=QAK hs;have:=YY s;omega
  clear hd1 hd4 hB;go_wp2
  go_ret
  exact⟨_,rfl,⟨_,rfl,HB.out,by simp[HD1.out],hd2.append (DG.cons hd3.1 hh (DG.nil _)),by rw[ZA,HD1.out,HF.out]⟩,hE⟩
theorem M7(s:Nat)(v:Value)(l:List Int)(w:World)(hs:s<64)(hl:DG W l)(hv:SL w v Jl l)(hlen:l.length<=100000000000):
  Calls prog 339 #[v,.int .i64 s] w λe w' =>
   Zm w (λv w'=>∃l':List Int,v = .slice (some ⟨w.heap.size,0,none⟩) (l.length+1) (l.length+1)/\Y5 w' w.heap.size 289 Jl l'/\l'.length=l.length+1/\DG W l'/\dv W l'=dv W l*p2 s) e w':=by
 obtain⟨q,cap,rfl,_,_,hc⟩:=hv;exact UJ s q cap l w hs hl hc hlen
end Go.Proofs.YtpmehagnedbkhaaGreatDoor
