/- Steps of the proof of the theorem in the last file. -/
import Derived.WalkKit
import Derived.WalkSpells
import Derived.WalkLawsBesides
import Derived.Lib.Hide
import Derived.Deep.RegionHeld3
import Derived.StillTail
import Derived.Deep.LoopGhost
import Derived.IntWalk
import Derived.Test.YtbpmnjieoncbcaaGreatDoorProg
import Derived.KernelRfl
import Derived.Deep.QuietTactic
import Derived.BigQuiet
import Derived.Laws.Externs
import Derived.Shelf.Strings.Builder1
import Derived.Shelf.Strings.Builder2
import Derived.Shelf.Small.Bits
import Derived.Shelf.Small.Wraps
import Derived.Shelf.Strconv.Atoi
import Derived.Shelf.Strconv.Itoa0
import Derived.Shelf.Strconv.Itoa1
import Derived.Shelf.LaysM
import Derived.Shelf.Strconv.Itoa2
import Derived.Shelf.Strconv.Itoa3
import Derived.Shelf.Strings.Search1
import Derived.Shelf.Strings.Search2
import Derived.Shelf.Strings.Cut
import Derived.Shelf.Strings.Prefix
import Derived.Shelf.Bits.Mul64
import Derived.Shelf.Strings.Repeat
import Derived.Ground.Names2Prog
import Derived.Shelf.Slices.Clone
import Derived.Shelf.Slices.SearchI
import Derived.Ground.SlgnProg
import Derived.Shelf.SlicesE.Clone
import Derived.Laws.BitsAllLaws
import Derived.StillTailTactics
set_option linter.all false
set_option maxHeartbeats 4000000
open Go.Proofs.Tryz
open Go.Lib renaming hid → aa,bitLen → ba,run_eql_slice_nil → er,trimPrefix → iB,hasPrefix → iT,pow10Tab → j7,cut → j8
open Array renaming getElem?_eq_none → ab,getElem?_setIfInBounds_ne → aM,getElem?_modify → bC,replicate → bK,ext' → bZ,foldl_toList → eC,ext_getElem? → eD,range → fj,ext → lB
open List renaming take_of_length_le → ae,replicate → ah,length_take → aq,length_append → aH,getElem?_eq_none → aI,length_cons → aO,replicate_succ → bj,map_append → bw,append_assoc → bz,take_length → bD,getD → bF,Sublist → bN,drop_eq_getElem_cons → bQ,map_cons → bS,nil_sublist → bU,nil_append → ef,getElem?_append → eu,replicate_zero → ew,getElem?_drop → eE,foldl_cons → eN,dropLast_concat_getLast → eO,range → eW,mapM_cons → eX,sublist_cons_self → fb,drop_eq_nil_of_le → fc,take_append_drop → fg,set_append_right → fh,erase_cons_head → fp,mem_map_of_mem → fA,set_cons_zero → fH,nodup_append → fO,zipIdx_cons → fU,getElem_mem → fV,cons_append → fW,append_nil → ic,take_zero → im,drop_zero → iq,range' → iX
open Int renaming mul_le_mul_of_nonneg_left → af,eq_ofNat_of_zero_le → ag,mul_le_mul_of_nonneg_right → ax,pow_succ → aC,mul_nonneg → aJ,natCast_pow → aU,natCast_mul → aV,le_of_lt → bh,le_refl → bI,mul_comm → bP,emod_eq_of_lt → bT,natCast_emod → bW,natCast_ediv → bX,toNat_natCast → eI,emod_nonneg → eR,add_mul_emod_self_left → e8,mul_ediv_add_emod → fq,pow_add → fB,mul_add → fC,emod_lt_of_pos → fP,lt_trichotomy → fX,ediv_nonneg → ir,mul_le_mul → ix,add_comm → iY,pow_pos → lk,one_mul → lz
open Option.some renaming injEq → ai,inj → ay
open Go.Sem renaming run_bind → aj,run_pure → aG
open Go.Result renaming andThen_ok → ak,ok → iZ
open Go.Region renaming wanted → ao,ready → aA,binds → aF,Mode → aY,waitsFor → bm,chainB → eY,sinkB → fa,waitsFor_spec → fe,seqB → iy
open Go.Shelf renaming Ren → ar
open Nat renaming le_refl → au,lt_or_ge → av,mul_comm → aB,add_mul → aE,min_eq_left → aS,div_add_mod → aT,div_lt_iff_lt_mul → aW,beq → aX,mul_le_mul_right → aZ,zero_add → bA,mod_eq_of_lt → bH,div_mul_le_self → bM,zero_le → bR,sub_self → ee,mod_lt → eF,add_right_comm → eG,le_trans → eH,pow_add → eM,two_pow_pos → eQ,two_pow_add_eq_or_of_lt → eU,mul_lt_mul_of_pos_right → eV,add_zero → ff,mul_div_mul_right → fl,le_of_ble_eq_true → fm,mul_le_mul_left → fG,mul_right_comm → fL,lt_of_lt_of_le → fM,eq_zero_or_pos → fN,lt_trichotomy → fT,strongRecOn → il,testBit_or → iu,mul_le_mul → iw,mul_assoc → iD,sub_zero → iV,ble → iW,one_mul → j9,mul_add → lf
open Go.Builtin renaming zeroCells → aD,append_ → bV,lenOf → eT,firstCells → fi,len_ → ij
open Go.Value renaming int → aK
open Go.Oper renaming upon → aL,wp → bO,apart_spec → eP
open Go.Instr renaming sureAddr → aN,loadAt → bL,fill → bY,buildSlice → fR,makeSlice → ia,slice → iU
open BitVec renaming ofInt → aP,toNat_ofInt → fz,toNat_and → fK
open Option renaming map_some → aQ
open Go.RowKit.Below renaming setCell → aR,heap_alloc → eK,heap_setCell → fD
open Go.Exit renaming inBlock → bc
open Go.Act renaming put_comm → bB,eval → fF,put → ib
open Bool renaming and_eq_true → bG,false_or → iC
open Go.IntKind renaming bits → bJ,signed → fQ,wrap → ig
open Go.IntWalk renaming i64_in → ei
open Go.Extern.MathBitsCarry renaming m64 → ek,three → fI,pair → fJ
open Go.World renaming cell? → ep,setCell → ey,frozen? → e9
open Go.Calls renaming mono → eB
open List.Sublist renaming refl → eZ
open Ne renaming symm → fk
open Go.Code renaming region → fu
open Go.Addr renaming add → fy
open Go.Ending renaming returned → fS
open Go.Rows renaming mono → fY
open Go.Proofs.Builder renaming Extra → fZ
open Go.Op renaming intBits → hJ,shift → iS
open Go.Proofs.LaysM renaming n284 → iz,n171 → iA
open Go.Proofs.Lays renaming n99 → iE,n285 → iF,n283 → iG,n264 → iH,n172 → iI,n169 → iJ,n145 → iK,n134 → iL,n129 → iM,n125 → iN,n122 → iO,n105 → iP,n103 → iQ,n101 → iR
open Go.Next renaming value → lA
def I{α:Sort _}{a:α}:a=a:=.refl a
def O{p:Prop}(h:p:=by omega):p:=h
def wm{p:Prop}(h:p:=by kernel_rfl):p:=h
def wk{p q:Prop}(h:p)(k:p→q:=by intro;omega):q:=k h
def wu{p:Prop}(h:p:=by decide):p:=h
def wv{p:Prop}(h:p:=by decide +kernel):p:=h
def wy{p:Prop}(h:p:=by rfl):p:=h
def wz{p:Prop}(h:p:=by simp):p:=h
def w6{p:Prop}(h:p:=by simp;omega):p:=h
def w8{α:Sort _}{G:α→Prop}(a:α)(_:G a):True:=trivial
def w9{α:Sort _}{G:α→Prop}(a:α)(h:G a):G a:=h
def tA{α:Sort _}{G H:α→Prop}(a:α)(h:G a∧H a):G a:=h.1
def tB{α:Sort _}{G H:α→Prop}(a:α)(h:G a∧H a):H a:=h.2
def tC{α:Type _}{l:List α}:bN l l:=.refl l
def tD{α:Type _}{l:List α}:bN [] l:=bU l
def tE{α:Type _}{a:α}{l:List α}:bN [a] (a::l):=.cons_cons _ (bU _)
def tF{α:Type _}{a b:α}{l:List α}:bN [a,b] (a::b::l):=.cons_cons _ (.cons_cons _ (bU _))
def tG{α:Type _}{a b c:α}{l:List α}:bN [a,b,c] (a::b::c::l):=.cons_cons _ (.cons_cons _ (.cons_cons _ (bU _)))
def tH{α:Type _}{a b:α}(h:a=b:=by kernel_rfl):some a=some b:=congrArg some h
namespace Go.Proofs.YtbpmnjieoncbcaaGreatDoor
variable{w w' w0:World}{E N b bytes i k n off:Nat}{a:Act}{c cs l l' news z:List Value}{o:Obj}{u v1 v3 v4 v5 x2 x3 x4 x5 x6 x7 x8:Value}{A0 A1 A2 A3 A4 A5 A6 A7 A8 A9 α γ ι:Type}{T T' yT:TypeId}{ops:Array Oper}{Q Q':Exit->Act->World->Prop}{tl:List Oper}{K:Act->World->Prop}{g:Bool}{x y:Operand}{bs bs' bs0 ob:List (Nat×Obj)}{fr:Nat×Nat}{P:Program}{f:Obj->List (Nat×Obj)}{fn:Func}{aft:Array Edge}{gd:Option (Nat×Bool)}{x1:Nat×Obj}{ps:List (Nat×Value)}{s:ByteArray}{pl:List (Nat×Nat)}{ds:List Int}{h:Int}
open Go.RowKit
structure E5(α:Type) where
 val:α->Value
 ty:TypeId
instance{α:Type}:CoeFun (E5 α) (λ_=>α->Value):=⟨E5.val⟩
def Jj:E5 Int:=⟨λx=>.int .u64 x,256⟩
def VR(w:World)(b:Nat)(E:TypeId):Prop:=∃c fr,w.heap[b]?=some (.cells c E fr)
theorem VR.lt(h:VR w b E):b<w.heap.size:=by
 obtain⟨c,fr,h⟩:=h;rcases av b w.heap.size with g | g
 ·exact g
 rw[ab g]at h;cases h
theorem VR.uniq{E':Nat}(h:VR w b E)(h':VR w b E'):E=E':=by
 obtain⟨c,fr,h⟩:=h;obtain⟨c',fr',h'⟩:=h';rw[h]at h';cases h';rfl
def Row{α:Type}[Inhabited α](w:World)(b off:Nat)(enc:E5 α)(l:List α):Prop:=∀i,i<l.length->w.cell? ⟨b,off+i,none⟩=some (enc (l.getD i default))
abbrev Ext(w w':World):Prop:=Below w.heap.size w w'
def Ext.refl(w:World):Ext w w:=Below.refl _ _
def Ext.trans{a b c:World}(h:Ext a b)(k:Ext b c):Ext a c:=Below.trans h (Below.mono k h.size)
def Ext.QAe{a:World}(h:Ext a w)(h1:w'.os=w.os)(h2:w'.tape=w.tape)(h3:w'.output=w.output)(h4:w.heap.size<=w'.heap.size)(h5:∀i,i<a.heap.size->w'.heap[i]?=w.heap[i]?):Ext a w' :=
 ⟨h1.trans h.os,h2.trans h.tape,h3.trans h.output,eH h.size h4,λi hi=>(h5 i hi).trans (h.block i hi)⟩
def Ext.alloc{a:World}(h:Ext a w)(o:Obj):Ext a (w.alloc o):=Below.alloc h h.size o
def Ext.drew{a:World}(h:Ext a w):Ext a w.drew:=Below.drew h
def Ext.drewN{a:World}(h:Ext a w)(n:Nat):Ext a (w.drewN n):=⟨h.os,h.tape,h.output,h.size,h.block⟩
def Ext.cell(h:Ext w w'){p:Addr}{v:Value}(hv:w.cell? p=some v):w'.cell? p=some v:=by
 rw[Below.cell h (World.block_lt_of_cell? w p hv)];exact hv
def Ext.X1{a:World}(h:Ext a w){p:Addr}(hp:a.heap.size<=p.block)(u:Value):Ext a (w.setCell p u):=aR h hp u
theorem VR.ext(h:VR w b E)(k:Below w.heap.size w w'):VR w' b E:=by
 obtain⟨c,fr,e⟩:=id h;exact⟨c,fr,by rw[k.block b h.lt];exact e⟩
def Cells{α:Type}[Inhabited α](w:World)(q:Option Addr)(enc:E5 α)(l:List α):Prop :=
 ∀i,i<l.length->∃b off,q=some ⟨b,off,none⟩/\VR w b enc.ty/\w.cell? ⟨b,off+i,none⟩=some (enc (l.getD i default))
def Xw{o b' o':Nat}{v:Value}(h:b≠b')(hc:w.cell? ⟨b,o,none⟩=some u):(w.setCell ⟨b',o',none⟩ v).cell? ⟨b,o,none⟩=some u:=by
 rw[World.cell?_setCell_other _ _ _ _ (λe=>h (congrArg Addr.block e).symm)];exact hc
def SL{α:Type}[Inhabited α](w:World)(v:Value)(enc:E5 α)(l:List α):Prop :=
 ∃q cap,v = .slice q l.length cap/\l.length<=cap/\(cap:Int)<=9223372036854775807/\Cells w q enc l
theorem Cells.ext[Inhabited α]{w w':World}(h:Ext w w'){q:Option Addr}{enc:E5 α}{l:List α}(hr:Cells w q enc l):Cells w' q enc l:=by
 intro i hi;obtain⟨b,off,h1,h2,h3⟩:=hr i hi;exact⟨b,off,h1,h2.ext h,h.cell h3⟩
def SL.ext[Inhabited α]{w w':World}(h:Ext w w'){v:Value}{enc:E5 α}{l:List α}(hs:SL w v enc l):SL w' v enc l:=by
 obtain⟨q,cap,h1,h2,h3,h4⟩:=hs;exact⟨q,cap,h1,h2,h3,h4.ext h⟩
def SL.nil[Inhabited α](w:World)(enc:E5 α):SL w (.slice none 0 0) enc ([]:List α) :=
 ⟨none,0,rfl,au _,wu,λi hi=>by cases hi⟩
theorem Cells.take[Inhabited α]{w:World}{q:Option Addr}{enc:E5 α}{l:List α}(hr:Cells w q enc l)(n:Nat):Cells w q enc (l.take n):=by
 intro i hi;have h1:i<l.length:=by rw[aq]at hi;omega
 have h2:i<n:=by rw[aq]at hi;omega
 have e:(l.take n).getD i default=l.getD i default:=by simp[bF,h2]
 rw[e];exact hr i h1
theorem Row.cells[Inhabited α]{w:World}{b off:Nat}{enc:E5 α}{l:List α}(hr:Row w b off enc l)(hb:VR w b enc.ty):Cells w (some ⟨b,off,none⟩) enc l :=
 λi hi=>⟨b,off,rfl,hb,hr i hi⟩
def Y5{α:Type}(w:World)(b:Nat)(E:TypeId)(enc:E5 α)(l:List α):Prop:=w.heap[b]?=some (.cells (l.map enc.val).toArray E (0,0))
def Y5.cell[Inhabited α]{w:World}{b E:Nat}{enc:E5 α}{l:List α}(h:Y5 w b E enc l){i:Nat}(hi:i<l.length):w.cell? ⟨b,i,none⟩=some (enc (l.getD i default)):=by
 have h':w.heap[b]?=some (.cells (l.map enc.val).toArray E (0,0)):=h;simp[ep,h',hi,bF]
def Y5.frozen{enc:E5 α}{l:List α}(h:Y5 w b E enc l)(i:Nat):w.frozen? ⟨b,i,none⟩=false:=by
 have h':w.heap[b]?=some (.cells (l.map enc.val).toArray E (0,0)):=h;simp[e9,h']
theorem Y5.lt{enc:E5 α}{l:List α}(h:Y5 w b E enc l):b<w.heap.size:=by
 have h':w.heap[b]?=some (.cells (l.map enc.val).toArray E (0,0)):=h;rcases av b w.heap.size with g | g
 ·exact g
 rw[ab g]at h';cases h'
def Y5.set{enc:E5 α}{l:List α}(h:Y5 w b E enc l)(i:Nat)(x:α):Y5 (w.setCell ⟨b,i,none⟩ (enc x)) b E enc (l.set i x):=by
 have h':w.heap[b]?=some (.cells (l.map enc.val).toArray E (0,0)):=h;have hs:(l.set i x).map enc.val=(l.map enc.val).set i (enc x):=List.map_set;unfold Y5 ey;simp[bC,h',hs]
def Y5.ext{enc:E5 α}{l:List α}(h:Y5 w b E enc l)(k:Ext w w'):Y5 w' b E enc l:=by
 have:=k.block b h.lt;unfold Y5;rw[this];exact h
theorem Y5.row[Inhabited α]{w:World}{b E:Nat}{enc:E5 α}{l:List α}(h:Y5 w b E enc l):Row w b 0 enc l:=by
 intro i hi;rw[bA];exact h.cell hi
def Y5.new(w:World)(E:Nat)(enc:E5 α)(l:List α)(c:Array Value)(hc:c=(l.map enc.val).toArray):Y5 (w.alloc (.cells c E)) w.heap.size E enc l:=by
 subst hc;show(w.heap.push _)[w.heap.size]?=_;simp
def Y5.QGn(w:World)(b E:Nat)(enc:E5 α)(l:List α)(c:Array Value)(hc:c=(l.map enc.val).toArray)(hb:b=w.heap.size):Y5 (w.alloc (.cells c E)) b E enc l:=by
 subst hb;exact Y5.new w E enc l c hc
def Y5.drew{enc:E5 α}{l:List α}(h:Y5 w b E enc l):Y5 w.drew b E enc l:=h
theorem Y5.made(w:World)(E:Nat)(enc:E5 α)(x:α)(n:Nat)(z:Value)(hz:z=enc x):Y5 (w.alloc (.cells (madeCells #[z] n) E)) w.heap.size E enc (ah n x):=by
 refine Y5.new w E enc _ _ ?_;subst hz;apply lB
 ·simp[madeCells]
 intro i h1 h2;simp[madeCells,Nat.mod_one]
def Y5.RY{enc:E5 α}{l:List α}(h:Y5 w b E enc l):VR w b E:=⟨_,_,h⟩
def SL.BG[Inhabited α]{w:World}{b:Nat}{enc:E5 α}{l:List α}(h:Y5 w b enc.ty enc l)(n:Nat)(hn:n<=l.length)(hm:(l.length:Int)<=9223372036854775807):
  SL w (.slice (some ⟨b,0,none⟩) n l.length) enc (l.take n) :=
 ⟨_,l.length,by rw[aq,aS hn],by rw[aq];omega,hm,(h.row.cells h.RY).take n⟩
def Bx(w:World)(b:Nat)(T:TypeId)(cs:List Value):Prop:=w.heap[b]?=some (.cells cs.toArray T (0,0))
def Bx.new(w:World)(T:TypeId)(c:Array Value):Bx (w.alloc (.cells c T)) w.heap.size T c.toList:=by
 show(w.heap.push _)[w.heap.size]?=_;simp
theorem Bx.lt{T:Nat}(h:Bx w b T cs):b<w.heap.size:=by
 have h':w.heap[b]?=some (.cells cs.toArray T (0,0)):=h;rcases av b w.heap.size with g | g
 ·exact g
 rw[ab g]at h';cases h'
def Bx.ext{T:Nat}(h:Bx w b T cs)(k:Ext w w'):Bx w' b T cs:=by
 unfold Bx;rw[k.block b h.lt];exact h
def Bx.alloc{T:Nat}(h:Bx w b T cs)(o:Obj):Bx (w.alloc o) b T cs:=h.ext ((Ext.refl w).alloc o)
def Bx.drew{T:Nat}(h:Bx w b T cs):Bx w.drew b T cs:=h
def Bx.at{T:Nat}(h:Bx w b T cs)(i:Nat)(c:Value)(hi:cs[i]?=some c):w.cell? ⟨b,i,none⟩=some c:=by
 have h':w.heap[b]?=some (.cells cs.toArray T (0,0)):=h;simp[ep,h',hi]
def Bx.free{T:Nat}(h:Bx w b T cs)(i:Nat):w.frozen? ⟨b,i,none⟩=false:=by
 have h':w.heap[b]?=some (.cells cs.toArray T (0,0)):=h;simp[e9,h']
def Bx.two{T:Nat}{c0 c1:Value}(h:Bx w b T [c0,c1]):w.cell? ⟨b,0,none⟩=some c0/\w.cell? ⟨b,1,none⟩=some c1/\w.frozen? ⟨b,0,none⟩=false/\w.frozen? ⟨b,1,none⟩=false :=
 ⟨h.at 0 c0 rfl,h.at 1 c1 rfl,h.free 0,h.free 1⟩
def Bx.RY{T:Nat}(h:Bx w b T cs):VR w b T:=⟨_,_,h⟩
def DT(E:TypeId):Prop:=E=256\/E=3
instance(E:TypeId):Decidable (DT E):=by unfold DT;infer_instance
structure Kp(w w':World):Prop where
 size:w.heap.size<=w'.heap.size
 block:∀b E,VR w b E->DT E->w'.heap[b]?=w.heap[b]?
def Kp.refl(w:World):Kp w w:=⟨au _,λ_ _ _ _=>rfl⟩
theorem Kp.trans{a b c:World}(h:Kp a b)(k:Kp b c):Kp a c :=
 ⟨eH h.size k.size,λi E hi hE=>by
  have e:=h.block i E hi hE;have hi':VR b i E:=by obtain⟨x,fr,hx⟩:=hi;exact⟨x,fr,by rw[e];exact hx⟩
  exact(k.block i E hi' hE).trans e⟩
theorem Kp.set{a:World}(h:Kp a w){R T:Nat}(hT:VR w R T)(hD:¬DT T)(i:Nat)(v:Value):Kp a (w.setCell ⟨R,i,none⟩ v) :=
 h.trans ⟨by simp[ey],λb E hb hE=>fD _ _ _ _ (by rintro rfl;exact hD ((hb.uniq hT) ▸ hE))⟩
theorem VR.set{T:Nat}(h:VR w b T)(R i:Nat)(v:Value):VR (w.setCell ⟨R,i,none⟩ v) b T:=by
 obtain⟨c,fr,h⟩:=h;by_cases e:b=R
 ·subst e;exact⟨_,_,by unfold ey;simp[bC,h];exact⟨rfl,rfl⟩⟩
 exact⟨c,fr,by rw[fD _ _ _ _ e];exact h⟩
theorem VR.kp(h:VR w b E)(k:Kp w w')(hE:DT E):VR w' b E:=by
 obtain⟨c,fr,e⟩:=id h;exact⟨c,fr,by rw[k.block b E h hE];exact e⟩
theorem Cells.kp[Inhabited α]{w w':World}(k:Kp w w'){q:Option Addr}{enc:E5 α}(hE:DT enc.ty){l:List α}(hr:Cells w q enc l):Cells w' q enc l:=by
 intro i hi;obtain⟨b,off,h1,h2,h3⟩:=hr i hi;exact⟨b,off,h1,h2.kp k hE,by rw[World.cell?_of_block (w:=w) (k.block b _ h2 hE)];exact h3⟩
open Go
section
variable{P:Program}{md:aY}
def WK(md:aY)(ops:Array Oper)(n:Nat):Bool :=
 (eW n).all λi=>match ops[i]? with
  |some o=>o.after.all λe=>!Region.binds md e||decide (e.on<i)
  |none=>false
def ZA(h:WK md ops n=true){i:Nat}(hi:i<n):∃o,ops[i]?=some o/\∀e∈o.after,aF md e=true->e.on<i:=by
 have h1:=List.all_eq_true.1 h i (List.mem_range.2 hi);cases ho:ops[i]? with
 |none=>rw[ho]at h1;cases h1
 |some o =>
  rw[ho]at h1;refine⟨o,rfl,λe he hb=>?_⟩;have h2:=Array.all_eq_true_iff_forall_mem.1 h1 e he;simpa[hb]using h2
def VJ(n m:Nat):Array Bool:=(fj m).map λi=>decide (i<n)
theorem Ff{m:Nat}{listed:Array Bool}(hs:listed.size=m)(h1:∀i,i<n->i<m->listed.getD i false=true)(h2:∀i,n<=i->i<m->listed.getD i false=false):listed=VJ n m:=by
 apply lB
 ·simp[VJ,hs]
 intro i hi hj;have him:i<m:=O;by_cases h:i<n
 ·have:=h1 i h him;simp[hi]at this;simp[VJ,h,this]
 have:=h2 i O him;simp[hi]at this;simp[VJ,h,this]
def AR(P:Program)(ops:Array Oper)(Q:Exit->Act->World->Prop)(tl:List Oper):Exit->Act->World->Prop
 |.normal,a,w=>wpList P ops Q tl a w
 |e,a,w=>Q e a w
theorem AA{o:Oper}{K':Act->World->Prop}(h:∀a w,K a w->K' a w)
  (hh:o.wp P a w K (AR P ops Q tl)):o.wp P a w K' Q:=by
 unfold bO at *
 generalize (execOp a.eval o).run P w=r at *
 cases r with
 |ok n w' =>
  cases n<;>simp only[aL]at hh ⊢ <;>
   first
    |exact h _ _ hh
    |exact eB hh λe w'' he=>by cases e<;>first | exact h _ _ he | exact he
    |exact fY hh λ_ _ he=>h _ _ he
 |halt x w'=>cases x<;>simp only[aL]at hh ⊢<;>exact hh
def ER{l:List Oper}(hi:i<n):(l.take n).toArray[i]?=l.toArray[i]?:=by
 simp[hi]
theorem P9{l:List Oper}{lh la:Array Bool}(hn:n<l.length)(hs:fa md l.toArray n=true)(hc:eY md l.toArray n=true)(ho:WK md l.toArray n=true)
  (inv:HeadInv md l.toArray n la) (hsz:lh.size=n) (hrel:∀i,i<n->la.getD i true=lh.getD i true) {k:Nat} (hk:k<n) (hun:lh.getD k true=false) :
  (∀i,i∈aA md l.toArray la↔i∈aA md (l.take n).toArray lh)/\aA md (l.take n).toArray lh≠[]:=by
 have hrel2:∀i,i<n->la.getD i false=lh.getD i false:=by
  intro i hi;have h:=hrel i hi;have h1:i<la.size:=by rw[inv.size];simp;omega
  have h2:i<lh.size:=O;simp[h1,h2]at h ⊢;exact h
 have hhead:∀i,i<n->(i∈aA md l.toArray la↔i∈aA md (l.take n).toArray lh):=by
  intro i hi;rw[mem_ready,mem_ready,hrel i hi,ER hi];refine and_congr_right λ_=>exists_congr λo=>and_congr_right λhoi=>?_;obtain⟨o',ho',hed⟩:=ZA ho hi;have:o'=o:=ay (ho'.symm.trans hoi);subst this;refine forall_congr' λe=>forall_congr' λhe=>forall_congr' λhb=>?_;rw[hrel2 e.on (wk<|hed e he hb)]
 have hex:∃i,i<n/\lh.getD i true=false/\∀j,j<i->lh.getD j true=true:=by
  clear hhead hrel hrel2
  induction k using il with
  |_ k ih =>
   by_cases h:∃j,j<k/\lh.getD j true=false
   ·obtain⟨j,hj,hj2⟩:=h;exact ih j hj O hj2
   exact⟨k,hk,hun,λj hj=>by
    cases hv:lh.getD j true with
    |true=>rfl
    |false=>exact absurd ⟨j,hj,hv⟩ h⟩
 refine⟨λi=>?_,?_⟩
 ·by_cases hi:i<n
  ·exact hhead i hi
  constructor
  ·intro h;exact absurd h (tail_waits hs hc (by simpa using hn) inv _ k rfl hk (by rw[hrel k hk];exact hun) i O)
  intro h;obtain⟨_,o,ho',_⟩:=mem_ready.1 h;have:=(Array.getElem?_eq_some_iff.1 ho').1;simp at this;omega
 obtain⟨i,hi,h1,h2⟩:=hex;intro hnil;have:i∈aA md (l.take n).toArray lh:=by
  rw[mem_ready];obtain⟨o',ho',hed⟩:=ZA ho hi;refine⟨h1,o',by rw[ER hi];exact ho',λe he hb=>?_⟩;have h3:=h2 e.on (hed e he hb);have h4:e.on<lh.size:=wk<|hed e he hb
  simp[h4]at h3 ⊢;exact h3
 rw[hnil]at this;cases this
theorem Pm:∀(f:Nat) (listed:Array Bool) (a:Act) (w:World),wpAny P md ops Q f listed a w->wpAny P md ops Q (f+1) listed a w
 |0,listed,a,w,h=>⟨λ_=>h.2,λi hi=>(by rw[h.1]at hi;cases hi)⟩
 |f+1,listed,a,w,h=>⟨h.1,λi hi=>wpOp_mono (λa' w' h'=>Pm f _ a' w' h') (h.2 i hi)⟩
def AF(f:Nat)(listed:Array Bool)(a:Act)(w:World)(g:Nat)(h:wpAny P md ops Q g listed a w):wpAny P md ops Q (f+g) listed a w:=by
 induction f with
 |zero=>rw[bA];exact h
 |succ f ih=>rw[show f+1+g=(f+g)+1 by omega];exact Pm _ _ _ _ ih
theorem SZ(h:LetsOut (AR P ops Q tl)):LetsOut Q:=by
 obtain⟨a,w,h⟩:=h;exact⟨a,w,h⟩
def UX(ops:Array Oper)(n:Nat):Bool :=
 (eW n).all λi=>match ops[i]? with
  |some o=>(match o.guard with | none=>true | some (g,_)=>decide (g<n))
  |none=>false
def Tk{l:List Oper}{g:Nat}(hg:g<n)(t:Array Value):yielded (l.take n).toArray t g=yielded l.toArray t g:=by
 unfold yielded;rw[ER hg]
theorem Cp{l:List Oper}(hi:i<n)(hgd:UX l.toArray n=true)
  (h:wpOp P (l.take n).toArray (AR P l.toArray Q tl) i K a w):wpOp P l.toArray Q i K a w:=by
 unfold wpOp at *
 rw[ER hi]at h;cases ho:l.toArray[i]? with
 |none=>simp only[ho]at h ⊢;exact h
 |some o =>
  simp only[ho]at h ⊢;have hw:ao o (yielded (l.take n).toArray a.tmps)=ao o (yielded l.toArray a.tmps):=by
   have h1:=List.all_eq_true.1 hgd i (List.mem_range.2 hi);rw[ho]at h1;unfold ao;cases hg:o.guard with
   |none=>rfl
   |some gw =>
    obtain⟨g,want⟩:=gw;simp only[hg]at h1;simp only[Tk (l:=l) (by simpa using h1)]
  rw[hw]at h;split
  ·rename_i hw2;rw[if_pos hw2]at h;rcases h with h | ⟨h1,h2⟩
   ·exact .inl (AA (λ_ _ h=>h) h)
   exact .inr ⟨h1,SZ h2⟩
  rename_i hw2;rw[if_neg hw2]at h;exact h
theorem AE{l:List Oper}(hn:n<l.length)(hs:fa md l.toArray n=true)(hc:eY md l.toArray n=true)(ho:WK md l.toArray n=true)
  (hgd:UX l.toArray n=true) (hseq:iy md l.toArray (l.length-n) n (VJ n l.length)=true) :
  ∀(f:Nat) (lh la:Array Bool) (a:Act) (w:World),HeadInv md l.toArray n la->lh.size=n->(∀i,i<n->la.getD i true=lh.getD i true) ->
   wpAny P md (l.take n).toArray (AR P l.toArray Q (l.drop n)) f lh a w->wpAny P md l.toArray Q (f+(l.length-n)) la a w:=by
 have fin:∀(f:Nat) (lh la:Array Bool) (a:Act) (w:World),HeadInv md l.toArray n la->lh.size=n->(∀i,i<n->la.getD i true=lh.getD i true) ->
   aA md (l.take n).toArray lh=[]->wpList P l.toArray Q (l.drop n) a w->wpAny P md l.toArray Q (f+(l.length-n)) la a w:=by
  intro f lh la a w inv hsz hrel hr h;have hall:∀i,i<n->lh.getD i true=true:=by
   intro i hi;cases hv:lh.getD i true with
   |true=>rfl
   |false=>exact absurd hr (P9 hn hs hc ho inv hsz hrel hi hv).2
  have hla:la=VJ n l.length:=by
   refine Ff (by simpa using inv.size) (λi hi hi2=>?_) λi hi hi2=>?_
   ·have h1:=(hrel i hi).trans (hall i hi);have h2:i<la.size:=by rw[inv.size];simpa using hi2
    simp[h2]at h1 ⊢;exact h1
   exact getD_both (inv.tail i hi (by simpa using hi2))
  subst hla;refine AF f _ _ _ _ ?_;have:=wpAny_of_seq (P:=P) (Q':=Q) (l.drop n) n (VJ n l.length) a w (λj=>by simp[eE]) (by simpa using hseq) h;simpa using this
 intro f
 induction f with
 |zero=>intro lh la a w inv hsz hrel h;exact fin 0 lh la a w inv hsz hrel h.1 h.2
 |succ f ih =>
  intro lh la a w inv hsz hrel h;by_cases hr:aA md (l.take n).toArray lh=[]
  ·exact fin (f+1) lh la a w inv hsz hrel hr (h.1 hr)
  obtain⟨k,hk⟩:=List.exists_mem_of_ne_nil _ hr;have hk2:=(mem_ready.1 hk);have hkn:k<n:=by
   obtain⟨_,o,ho',_⟩:=hk2;have:=(Array.getElem?_eq_some_iff.1 ho').1;simp at this;omega
  have hiff:=(P9 hn hs hc ho inv hsz hrel hkn hk2.1).1;rw[show f+1+(l.length-n)=(f+(l.length-n))+1 by omega];refine⟨λh0=>absurd ((hiff k).2 hk) (by rw[h0];simp),λi hi=>?_⟩;have hi':=(hiff i).1 hi;have hin:i<n:=by
   obtain⟨_,o,ho',_⟩:=mem_ready.1 hi';have:=(Array.getElem?_eq_some_iff.1 ho').1;simp at this;omega
  have h2:=Cp hin hgd (h.2 i hi');refine wpOp_mono (λa' w' h3=>ih _ _ a' w' (inv.set hi hin) (by simpa using hsz) (λj hj=>?_) h3) h2;by_cases hij:i=j
  ·subst hij;have h1:i<la.size:=by rw[inv.size];simp;omega
   have h2:i<lh.size:=O;simp[h1,h2]
  rw[getD_set_ne true hij,getD_set_ne true hij];exact hrel j hj
def P2(l:List Oper)(n:Nat):Bool :=
 decide (n<l.length)&&fa .any l.toArray n&&eY .any l.toArray n&&WK .any l.toArray n&&UX l.toArray n&&iy .any l.toArray (l.length-n) n (VJ n l.length)
theorem NT{id:Nat}{l:List Oper}(n:Nat)(hm:P.follows .mixedOrders=true)(hB:P2 l n=true)
  (h:wpAny P .any (l.take n).toArray (AR P l.toArray Q (l.drop n)) n (bK n false) a { w with drawn:=w.drawn+1 }):(fu id l.toArray true).wp P Q a w:=by
 simp only[P2,bG,decide_eq_true_eq]at hB;obtain⟨⟨⟨⟨⟨hn,hs⟩,hc⟩,ho⟩,hg⟩,hseq⟩:=hB;refine wp_region_any hm ?_;have QBj:HeadInv .any l.toArray n (bK l.toArray.size false) :=
  ⟨wz,λj oj _ hl=>(by rw[getD_replicate_false]at hl;cases hl),λt _ ht=>getD_in (by simpa using ht) (getD_replicate_false _ _)⟩
 have:=AE (P:=P) (md:=.any) (Q:=Q) hn hs hc ho hg hseq n (bK n false) (bK l.toArray.size false) a { w with drawn:=w.drawn+1 } QBj wz
  (λi hi=>by
   have h1:i<l.length:=O;simp[hi,h1]) h
 rw[show n+(l.length-n)=l.toArray.size by simp;omega]at this;exact this
def J2:Op->Bool
 |.move _ | .assign _ | .pick .. | .nilCheck _ | .binOp .. | .unOp .. | .convert .. | .fieldAddr .. | .field .. | .indexAddr .. | .index .. | .extract .. | .slice .. | .build .. | .load .. | .makeFunc .. | .lookup ..=>true
 |.call { callee:=.builtin b,.. }=>match b with | .len | .cap | .min | .max=>true | _=>false
 |_=>false
section
variable{ops:Array Oper}{Q:Exit->Act->World->Prop}{S:World->Prop}
def SY(P:Program)(ops:Array Oper)(Q:Exit->Act->World->Prop)(S:World->Prop):List Nat->Act->World->Prop
  | [],a,w=>Q .normal a w
  | i::r,a,w=>∃o,ops[i]?=some o /\
      ((J2 o.op=true/\∃v,YieldsIf P ops S o v a/\SY P ops Q S r (a.put o.dst v) w) \/
       (J2 o.op=false/\wpOp P ops (λ_ _ _=>False) i (λa' w'=>S w'/\SY P ops Q S r a' w') a w))
theorem gM{o:Oper}(hi:ops[i]?=some o)(h:wpOp P ops (λ_ _ _=>False) i K a w):
  ∃u w' d,K ({ a with defers:=d }.put o.dst u) w':=by
 unfold wpOp at h;simp only[hi]at h;split at h
 ·rcases h with h | ⟨_,_,_,h⟩
  ·unfold bO at h;generalize (execOp a.eval o).run P w=r at *
   cases r with
   |ok n w' =>
    cases n<;>simp only[aL]at h
    case value u=>exact⟨u,w',a.defers,h⟩
    case skip=>exact⟨undef,w',a.defers,h⟩
    case defer d=>exact⟨undef,w',d::a.defers,h⟩
    case enter f args =>
     obtain⟨e,w'',fr,hR,_⟩:=h [];cases e with
     |returned u=>exact⟨u,w'',a.defers,hR⟩
     |panicked c=>exact hR.elim
     |outgrown=>obtain⟨_,_,h⟩:=hR;exact h.elim
    case row row args =>
     obtain⟨u,w'',hR,_⟩:=h default [];exact⟨u,w'',a.defers,hR⟩
    all_goals exact h.elim
   |halt x w'=>cases x<;>simp only[aL]at h<;>exact h.elim
  exact h.elim
 exact⟨undef,w,a.defers,h⟩
theorem AB{j:Nat}{oi oj:Oper}{v:Value}(hj:ops[j]?=some oj)(hap:oi.apart ops oj=true)(hsj:∀cs b,oj.op≠.select cs b)
  {K:Act->World->Prop} {a:Act} {w:World} (h:wpOp P ops (λ_ _ _=>False) j (λa' w'=>K (a'.put oi.dst v) w') a w) :
  wpOp P ops (λ_ _ _=>False) j K (a.put oi.dst v) w:=by
 obtain⟨h1,h2,h3⟩:=eP hap;unfold wpOp at *
 simp only[hj]at *
 rw[wanted_put oj a oi.dst v h1];split
 ·rename_i hw;simp only[hw,if_true]at h;rcases h with h | ⟨hasks,hlets⟩
  case inr=>exact .inr ⟨by unfold Oper.asks at *;rw[execOp_put oj hsj a oi.dst v h1];exact hasks,hlets⟩
  refine .inl ?_;unfold bO at *
  rw[execOp_put oj hsj a oi.dst v h1];generalize (execOp a.eval oj).run P w=r at *
  cases r with
  |ok n w' =>
   cases n<;>simp only[aL]at h ⊢
   case value u=>rw[bB a v u h2];exact h
   case skip=>rw[bB a v undef h2];exact h
   case defer d=>rw[Act.put_defers,bB _ v undef h2];exact h
   case enter f args =>
    refine eB h λe w'' he=>?_;cases e with
    |returned u=>show K _ _;rw[bB a v u h2];exact he
    |panicked c=>exact he
    |outgrown=>exact he
   case row row args=>exact fY h λu w'' he=>(by rw[bB a v u h2];exact he)
  |halt x w'=>cases x<;>simp only[aL]at h ⊢
 rename_i hw;simp only[hw]at h;rw[bB a v undef h2];exact h
def YieldsIf.uniq{o:Oper}{v v':Value}(hS:S w)(h:YieldsIf P ops S o v a)(h':YieldsIf P ops S o v' a):v=v':=by
 rcases h with ⟨h1,h2⟩ | ⟨h1,h2⟩<;>rcases h' with ⟨g1,g2⟩ | ⟨g1,g2⟩
 ·have:=(h2 w hS).symm.trans (g2 w hS);simpa using this
 ·rw[h1]at g1;cases g1
 ·rw[h1]at g1;cases g1
 rw[h2,g2]
def R3{x y:Oper}(h:x.apart ops y=true):y.apart ops x=true:=by
 obtain⟨h1,h2,h3⟩:=eP h;unfold Oper.apart;cases hx:x.dst with
 |none=>cases hy:y.dst with
  |none=>rfl
  |some e=>simpa using h3 e hy
 |some d =>
  have g1:=h1 d hx;have g2:=h2 d hx;cases hy:y.dst with
  |none=>simpa using g1
  |some e =>
   have g3:=h3 e hy;rw[hy]at g2;simp only[ne_eq,ai]at g2;simp[g3,g1];exact λh=>g2 h.symm
theorem DZ{j:Nat}{oj:Oper}{post:List Nat}(hoj:ops[j]?=some oj)(hq:J2 oj.op=true)(hsel:∀(j:Nat) (o:Oper) cs b,ops[j]?=some o->o.op≠.select cs b):
  ∀(pre:List Nat) (a:Act) (w:World),(∀k∈pre,∀ok,ops[k]?=some ok->oj.apart ops ok=true)->SY P ops Q S (pre++j::post) a w ->
   ∃v,YieldsIf P ops S oj v a/\SY P ops Q S (pre++post) (a.put oj.dst v) w
 |[],a,w,_,h=>by
  obtain⟨o,ho,h⟩:=h;have:o=oj:=ay (ho.symm.trans hoj);subst this;rcases h with ⟨_,v,h1,h2⟩ | ⟨h1,_⟩
  ·exact⟨v,h1,h2⟩
  rw[hq]at h1;cases h1
 |k::pre,a,w,hap,h=>by
  obtain⟨ok,hok,h⟩:=h;have hk:=hap k wz ok hok;obtain⟨p1,p2,p3⟩:=eP hk;rcases h with ⟨hqk,vk,hyk,h⟩ | ⟨hqk,h⟩
  ·obtain⟨v,hy,h⟩:=DZ hoj hq hsel pre _ w (λi hi=>hap i (by simp[hi])) h;have hy':YieldsIf P ops S oj v a:=by
    refine hy.of_same ?_ ?_
    ·exact(execOp_put oj (λcs b=>hsel j oj cs b hoj) a ok.dst vk p3).symm
    exact(wanted_put oj a ok.dst vk p3).symm
   refine⟨v,hy',ok,hok,.inl ⟨hqk,vk,?_,?_⟩⟩
   ·refine hyk.of_same ?_ ?_
    ·exact execOp_put ok (λcs b=>hsel k ok cs b hok) a oj.dst v p1
    exact wanted_put ok a oj.dst v p1
   rw[bB a v vk p2];exact h
  have h2:=wpOp_mono (λa' w' (h:S w'/\SY P ops Q S (pre++j::post) a' w')=>(⟨h.1,DZ hoj hq hsel pre a' w' (λi hi=>hap i (by simp[hi])) h.2⟩ :
   S w'/\∃v,YieldsIf P ops S oj v a'/\SY P ops Q S (pre++post) (a'.put oj.dst v) w')) h
  obtain⟨u,w1,d,hS1,v0,hy0,_⟩:=gM hok h2;have back:∀(d:List Deferred) (u v:Value),YieldsIf P ops S oj v ({ a with defers:=d }.put ok.dst u)->YieldsIf P ops S oj v a:=λd u v hy=>by
   refine hy.of_same ?_ ?_
   ·rw[execOp_put oj (λcs b=>hsel j oj cs b hoj) _ ok.dst u p3];rfl
   rw[wanted_put oj _ ok.dst u p3]
  have hya:=back d u v0 hy0;refine⟨v0,hya,ok,hok,.inr ⟨hqk,?_⟩⟩;refine AB hok hk (λcs b=>hsel k ok cs b hok) ?_;have h3:wpOp P ops (λ_ _ _=>False) k (λa' w'=>(YieldsIf P ops S oj v0 a')/\(S w'/\∃v,YieldsIf P ops S oj v a'/\SY P ops Q S (pre++post) (a'.put oj.dst v) w')) a w:=by
   have keep:∀(u:Value),YieldsIf P ops S oj v0 (a.put ok.dst u):=λu=>by
    refine hya.of_same ?_ ?_
    ·exact execOp_put oj (λcs b=>hsel j oj cs b hoj) a ok.dst u p3
    exact wanted_put oj a ok.dst u p3
   have keepd:∀(d:Deferred) (u:Value),YieldsIf P ops S oj v0 ({ a with defers:=d::a.defers }.put ok.dst u):=λd u=>by
    refine hya.of_same ?_ ?_
    ·rw[execOp_put oj (λcs b=>hsel j oj cs b hoj) _ ok.dst u p3];rfl
    rw[wanted_put oj _ ok.dst u p3]
   clear h;unfold wpOp at h2 ⊢;simp only[hok]at h2 ⊢;split
   ·rename_i hw;simp only[hw,if_true]at h2;rcases h2 with h2 | h2
    case inr=>exact .inr h2
    refine .inl ?_;unfold bO at *
    generalize (execOp a.eval ok).run P w=r at *
    cases r with
    |ok n w' =>
     cases n<;>simp only[aL]at h2 ⊢
     case value u=>exact⟨keep u,h2⟩
     case skip=>exact⟨keep _,h2⟩
     case defer d=>exact⟨keepd d _,h2⟩
     case enter f args =>
      refine eB h2 λe w'' he=>?_;cases e with
      |returned u=>exact⟨keep u,he⟩
      |panicked c=>exact he
      |outgrown=>exact he
     case row row args=>exact fY h2 λu w'' he=>⟨keep u,he⟩
    |halt x w'=>cases x<;>simp only[aL]at h2 ⊢
   rename_i hw;simp only[hw]at h2;exact⟨keep _,h2⟩
  refine wpOp_mono (λa' w' h=>?_) h3;obtain⟨hy,hS,v,hy2,hl⟩:=h;have:v=v0:=YieldsIf.uniq hS hy2 hy;subst this;exact⟨hS,hl⟩
end
section
variable{ops:Array Oper}{Q:Exit->Act->World->Prop}{S:World->Prop}
theorem AD(h:wpOp P ops (λ_ _ _=>False) i K a w):wpOp P ops Q i K a w:=by
 unfold wpOp at *
 cases ho:ops[i]? with
 |none=>simp only[ho]at h ⊢;exact h
 |some o =>
  simp only[ho]at h ⊢;split
  ·rename_i hw;rw[if_pos hw]at h;rcases h with h | ⟨_,_,_,h⟩
   ·refine .inl ?_;unfold bO at *
    generalize (execOp a.eval o).run P w=r at *
    cases r with
    |ok n w' =>
     cases n<;>simp only[aL]at h ⊢
     all_goals first
      |exact h
      |exact eB h λe w'' he=>by
        cases e with
        |returned u=>exact he
        |panicked c=>exact he.elim
        |outgrown=>obtain⟨_,_,h⟩:=he;exact h.elim
    |halt x w'=>cases x<;>simp only[aL]at h ⊢
   exact h.elim
  rename_i hw;rw[if_neg hw]at h;exact h
def DX(md:aY)(acc:List Nat)(o:Oper):Nat:=o.after.foldl (λs e=>if aF md e then s ||| 2^e.on ||| acc.getD e.on 0 else s) 0
def RT(md:aY)(ops:List Oper):List Nat:=ops.foldl (λacc o=>acc++[DX md acc o]) []
theorem Rc{md:aY}{acc:List Nat}:∀(l:List Edge) (s:Nat),(l.foldl (λs e=>if aF md e then s ||| 2^e.on ||| acc.getD e.on 0 else s) s).testBit i=true ->
  s.testBit i=true\/∃e∈l,aF md e=true/\(i=e.on\/(acc.getD e.on 0).testBit i=true)
 |[],s,h=>.inl h
 |e::l,s,h=>by
  rw[eN]at h;rcases Rc l _ h with h | ⟨e',he',h⟩
  ·split at h
   ·rename_i hb;rw[iu,iu,Nat.testBit_two_pow]at h;simp only[Bool.or_eq_true,decide_eq_true_eq]at h;rcases h with (h | h) | h
    ·exact .inl h
    ·exact .inr ⟨e,wz,hb,.inl h.symm⟩
    exact .inr ⟨e,wz,hb,.inr h⟩
   exact .inl h
  exact .inr ⟨e',by simp[he'],h⟩
def FG{md:aY}{acc:List Nat}{o:Oper}(h:(DX md acc o).testBit i=true):∃e∈o.after,aF md e=true/\(i=e.on\/(acc.getD e.on 0).testBit i=true):=by
 unfold DX at h;rw[<-eC]at h;rcases Rc _ _ h with h | ⟨e,he,h⟩
 ·simp at h
 exact⟨e,by simpa using he,h⟩
theorem TH(md:aY):∀(l:List Oper) (acc:List Nat),∃r,l.foldl (λacc o=>acc++[DX md acc o]) acc=acc++r/\r.length=l.length /\
  ∀k o,l[k]?=some o->r[k]?=some (DX md (acc++r.take k) o)
 |[],acc=>⟨[],wz,rfl,λk o h=>by simp at h⟩
 |o::l,acc=>by
  obtain⟨r,h1,h2,h3⟩:=TH md l (acc++[DX md acc o]);refine⟨DX md acc o::r,by simp[h1],by simp[h2],λk o' h=>?_⟩;cases k with
  |zero=>simp at h;subst h;simp
  |succ k =>
   simp at h;have:=h3 k o' h;simpa using this
theorem Lt{md:aY}{l:List Oper}{o:Oper}(ho:l[k]?=some o)(hord:∀e∈o.after,aF md e=true->e.on<k)(h:((RT md l).getD k 0).testBit i=true):
  ∃e∈o.after,aF md e=true/\(i=e.on\/((RT md l).getD e.on 0).testBit i=true):=by
 obtain⟨r,h1,h2,h3⟩:=TH md l [];have e1:RT md l=r:=by unfold RT;rw[h1];simp
 rw[e1]at h ⊢;have h4:=h3 k o ho;rw[bF,h4]at h;obtain⟨e,he,hb,hi⟩:=FG h;refine⟨e,he,hb,hi.imp id λhi=>?_⟩;have hlt:=hord e he hb;have hk:k<r.length:=by rcases av k r.length with g | g;exact g;rw[aI g]at h4;cases h4
 have e2:([]++r.take k).getD e.on 0=r.getD e.on 0:=by simp[bF,hlt]
 rw[e2]at hi;exact hi
def lexB(md:aY)(l:List Oper):Bool :=
 let ms:=RT md l
 Region.noSelect l.toArray&&WK md l.toArray l.length&&(eW l.length).all λj=>match l[j]? with
  |none=>false
  |some oj=>(eW j).all λi=>match l[i]? with
   |none=>false
   |some oi=>if J2 oi.op||J2 oj.op then(bm md l.toArray j i||oi.apart l.toArray oj)else(ms.getD j 0).testBit i
theorem MQ{l:List Oper}(h:lexB md l=true){i j:Nat}(hij:i<j){oi oj:Oper}(hi:l[i]?=some oi)(hj:l[j]?=some oj):
  if J2 oi.op||J2 oj.op then(bm md l.toArray j i||oi.apart l.toArray oj)=true else((RT md l).getD j 0).testBit i=true:=by
 simp only[lexB,bG]at h;have hjl:j<l.length:=by rcases av j l.length with g | g;exact g;rw[aI g]at hj;cases hj
 have h1:=List.all_eq_true.1 h.2 j (List.mem_range.2 hjl);rw[hj]at h1;have h2:=List.all_eq_true.1 h1 i (List.mem_range.2 hij);rw[hi]at h2;simp only at h2;split
 ·rename_i g;rw[if_pos g]at h2;exact h2
 rename_i g;rw[if_neg g]at h2;exact h2
theorem FF{l:List Oper}{listed:Array Bool}(hord:WK md l.toArray l.length=true)(hcl:∀j oj,l.toArray[j]?=some oj->listed.getD j false=true->∀e∈oj.after,aF md e=true->listed.getD e.on false=true):
  ∀(k:Nat) (o:Oper),l[k]?=some o->(∀e∈o.after,aF md e=true->listed.getD e.on false=true)->∀i,((RT md l).getD k 0).testBit i=true->listed.getD i false=true:=by
 intro k
 induction k using il with
 |_ k ih =>
  intro o ho hd i hi;have hk:k<l.length:=by rcases av k l.length with g | g;exact g;rw[aI g]at ho;cases ho
  obtain⟨o',ho',hed⟩:=ZA hord hk;have:o'=o:=ay (ho'.symm.trans (by simpa using ho));subst this;obtain⟨e,he,hb,h⟩:=Lt ho hed hi;have h1:=hd e he hb;rcases h with rfl | h
  ·exact h1
  have hlt:=hed e he hb;obtain⟨oe,hoe,_⟩:=ZA hord (Nat.lt_trans hlt hk);exact ih e.on hlt oe (by simpa using hoe) (hcl e.on oe hoe h1) i h
theorem dj{l:List Oper}(hB:lexB md l=true)(hQ:∀c a d v w,Q (.panic c) (ib a d v) w->Q (.panic c) a w):
  ∀(m:Nat) (r:List Nat) (listed:Array Bool) (a:Act) (w:World),r.length=m->r.Pairwise (·<·)->(∀i,i∈r↔i<l.length/\listed.getD i true=false)->listed.size=l.length ->
   (∀j oj,l.toArray[j]?=some oj->listed.getD j false=true->∀e∈oj.after,aF md e=true->listed.getD e.on false=true)->S w->SY P l.toArray Q S r a w->wpAnyH P md l.toArray Q S m listed a w:=by
 have hB':=hB;simp only[lexB,bG]at hB';obtain⟨⟨hns,hord⟩,_⟩:=hB';have hsel:=Region.noSelect_spec hns;intro m
 induction m with
 |zero =>
  intro r listed a w hm hs hr hsz hcl hS h;have:r=[]:=List.length_eq_zero_iff.1 hm;subst this;refine⟨?_,h⟩;rw[List.eq_nil_iff_forall_not_mem];intro i hi;obtain⟨h1,o,ho,_⟩:=mem_ready.1 hi;have hlt:i<l.length:=by have:=(Array.getElem?_eq_some_iff.1 ho).1;simpa using this
  have:=(hr i).2 ⟨hlt,h1⟩;cases this
 |succ m ih =>
  intro r listed a w hm hs hr hsz hcl hS h
  match r,hm,hs,hr,h with
  |i::r,hm,hs,hr,h =>
  have hil:=(hr i).1 wz;have hmin:∀j,j<i->listed.getD j false=true:=by
   intro j hj;cases hv:listed.getD j false with
   |true=>rfl
   |false =>
    have hjl:j<l.length:=O;have:=(hr j).2 ⟨hjl,getD_in O hv⟩;rcases List.mem_cons.1 this with e | e
    ·omega
    have:=(List.pairwise_cons.1 hs).1 j e;omega
  obtain⟨oi,hoi,hed⟩:=ZA hord hil.1;have hri:i∈aA md l.toArray listed:=mem_ready.2 ⟨hil.2,oi,hoi,λe he hb=>hmin _ (hed e he hb)⟩;have next:∀j,j∈aA md l.toArray listed->j∈(i::r)->∀a' w',S w'->SY P l.toArray Q S ((i::r).erase j) a' w'->wpAnyH P md l.toArray Q S m (listed.setIfInBounds j true) a' w':=by
   intro j hj hjr a' w' hS' h';have hjsz:j<listed.size:=by rw[hsz];exact((hr j).1 hjr).1
   refine ih ((i::r).erase j) _ a' w' (by rw[List.length_erase_of_mem hjr];simp at hm ⊢;omega) (hs.sublist List.erase_sublist) (λk=>?_) (by simpa using hsz) (λk ok hk hl e he hb=>?_) hS' h'
   ·rw[List.Nodup.mem_erase_iff (hs.imp λh=>Nat.ne_of_lt h),hr k];by_cases hjk:j=k
    ·subst hjk;simp[hjsz]
    rw[getD_set_ne true hjk];simp[fk hjk]
   by_cases hjk:j=k
   ·subst hjk;obtain⟨_,oj,hoj,hall⟩:=mem_ready.1 hj;have:ok=oj:=ay (hk.symm.trans hoj);subst this;exact getD_set_true (hall e he hb)
   rw[getD_set_ne false hjk]at hl;exact getD_set_true (hcl k ok hk hl e he hb)
  have take:∀j oj,j∈aA md l.toArray listed->l.toArray[j]?=some oj->J2 oj.op=true->j∈(i::r)->wpAnyH P md l.toArray Q S (m+1) listed a w:=by
   intro j oj hj hoj hq hjr;obtain⟨pre,post,hpp⟩:=List.append_of_mem hjr;have hjs:=mem_ready.1 hj;have happ:∀k ok,l.toArray[k]?=some ok->k≠j->listed.getD k true=false->(∀e∈ok.after,aF md e=true->e.on≠j)->oj.apart l.toArray ok=true:=by
    intro k ok hok hkj hun hno;have hnw:bm md l.toArray k j=false:=by
     cases hv:bm md l.toArray k j with
     |false=>rfl
     |true =>
      obtain⟨o',ho',e,he,hb,hon⟩:=fe hv;have:o'=ok:=ay (ho'.symm.trans hok);subst this;exact absurd hon (hno e he hb)
    have hnw2:bm md l.toArray j k=false:=by
     cases hv:bm md l.toArray j k with
     |false=>rfl
     |true =>
      obtain⟨o',ho',e,he,hb,hon⟩:=fe hv;obtain⟨_,o2,ho2,hall⟩:=hjs;have:o'=o2:=ay (ho'.symm.trans ho2);subst this;have:=hall e he hb;rw[hon,getD_both hun]at this;cases this
    rcases Nat.lt_or_gt_of_ne hkj with hlt | hgt
    ·have:=MQ hB hlt (by simpa using hok) (by simpa using hoj);rw[if_pos (by simp[hq]),hnw2]at this;exact R3 (by simpa using this)
    have:=MQ hB hgt (by simpa using hoj) (by simpa using hok);rw[if_pos (by simp[hq]),hnw]at this;simpa using this
   have hfront:=DZ (P:=P) (Q:=Q) (S:=S) hoj hq hsel pre a w (post:=post) (λk hk ok hok=>by
    have hkr:k∈(i::r):=by rw[hpp];simp[hk]
    have hkj:k<j:=by
     rw[hpp]at hs;exact(List.pairwise_append.1 hs).2.2 k hk j wz
    refine happ k ok hok O ((hr k).1 hkr).2 (λe he hb heq=>?_);obtain⟨o',ho',hed'⟩:=ZA hord ((hr k).1 hkr).1;have:o'=ok:=ay (ho'.symm.trans hok);subst this;have:=hed' e he hb;omega) (by rw[<-hpp];exact h)
   obtain⟨v,hy,h'⟩:=hfront;have herase:(i::r).erase j=pre++post:=by
    rw[hpp,List.erase_append_right,fp];intro hmem;rw[hpp]at hs;have:=(List.pairwise_append.1 hs).2.2 j hmem j wz;omega
   exact wpAnyH_first hoj hsel (λc a w h=>hQ c a _ v w h) m listed a w happ hj hy hS (next j hj hjr _ w hS (by rw[herase];exact h'))
  by_cases hex:∃j oj,j∈aA md l.toArray listed/\l.toArray[j]?=some oj/\J2 oj.op=true
  ·obtain⟨j,oj,hj,hoj,hq⟩:=hex;have hjl:j<l.length:=by have:=(Array.getElem?_eq_some_iff.1 hoj).1;simpa using this
   exact take j oj hj hoj hq ((hr j).2 ⟨hjl,(mem_ready.1 hj).1⟩)
  have hone:∀j∈aA md l.toArray listed,j=i:=by
   intro j hj;obtain⟨hjun,oj,hoj,hall⟩:=mem_ready.1 hj;have hjl:j<l.length:=by have:=(Array.getElem?_eq_some_iff.1 hoj).1;simpa using this
   have hjr:=(hr j).2 ⟨hjl,hjun⟩;rcases List.mem_cons.1 hjr with e | e
   ·exact e
   have hlt:=(List.pairwise_cons.1 hs).1 j e;have hqj:J2 oj.op=false:=by
    cases hv:J2 oj.op with
    |false=>rfl
    |true=>exact absurd ⟨j,oj,hj,hoj,hv⟩ hex
   have hqi:J2 oi.op=false:=by
    cases hv:J2 oi.op with
    |false=>rfl
    |true=>exact absurd ⟨i,oi,hri,hoi,hv⟩ hex
   have:=MQ hB hlt (by simpa using hoi) (by simpa using hoj);rw[if_neg (by simp[hqi,hqj])]at this;have:=FF hord hcl j oj (by simpa using hoj) hall i this;rw[getD_both hil.2]at this;cases this
  refine⟨λh0=>(by rw[h0]at hri;cases hri),λj hj=>?_⟩;have:=hone j hj;subst this;obtain⟨o,ho,h⟩:=h;have:o=oi:=ay (ho.symm.trans hoi);subst this;rcases h with ⟨hq,_⟩ | ⟨_,h⟩
  ·exact absurd ⟨j,o,hri,ho,hq⟩ hex
  refine AD (wpOp_mono (λa' w' h=>⟨h.1,?_⟩) h);exact next j hri wz a' w' h.1 (by rw[fp];exact h.2)
end
section
variable{Q:Exit->Act->World->Prop}{S:World->Prop}
def FK(P:Program)(ops:Array Oper)(Q:Exit->Act->World->Prop)(S:World->Prop):List Oper->Act->World->Prop
  | [],a,w=>Q .normal a w
  | o::r,a,w =>
      (J2 o.op=true/\∃v,YieldsIf P ops S o v a/\FK P ops Q S r (a.put o.dst v) w) \/
       (J2 o.op=false/\if ao o (yielded ops a.tmps)then o.wp P a w (λa' w'=>S w'/\FK P ops Q S r a' w') (λ_ _ _=>False)else S w/\FK P ops Q S r (a.put o.dst undef) w)
theorem Vn:∀(l:List Oper) (k:Nat) (a:Act) (w:World),(∀j,j<l.length->l[j]?=ops[k+j]?)->FK P ops Q S l a w->SY P ops Q S (iX k l.length) a w
 |[],k,a,w,_,h=>h
 |o::l,k,a,w,hl,h=>by
  have h0:ops[k]?=some o:=by simpa using(hl 0 wz).symm
  have hl':∀j,j<l.length->l[j]?=ops[k+1+j]?:=λj hj=>by
   have:=hl (j+1) w6;rw[show k+1+j=k+(j+1) by omega,<-this];simp
  rw[aO,List.range'_succ];refine⟨o,h0,?_⟩;rcases h with ⟨h1,v,h2,h3⟩ | ⟨h1,h2⟩
  ·exact .inl ⟨h1,v,h2,Vn l (k+1) _ w hl' h3⟩
  refine .inr ⟨h1,?_⟩;unfold wpOp;simp only[h0];split
  ·rename_i hw;rw[if_pos hw]at h2;exact .inl (Oper.wp_mono (λa' w' h=>⟨h.1,Vn l (k+1) a' w' hl' h.2⟩) h2)
  rename_i hw;rw[if_neg hw]at h2;exact⟨h2.1,Vn l (k+1) _ w hl' h2.2⟩
theorem B8{l:List Oper}(hB:lexB .any l=true)(hQ:∀c a w,¬Q' (.panic c) a w){a:Act}{w:World}(hS:S w)(h:FK P l.toArray Q' S l a w):
  wpAny P .any l.toArray Q' l.length (bK l.length false) a w:=by
 refine wpAny_of_held _ _ _ _ (dj hB (λc a d v w h=>absurd h (hQ c _ w)) l.length (iX 0 l.length) _ a w wz List.pairwise_lt_range' (λi=>?_) wz (λj oj _ hl=>(by rw[getD_replicate_false]at hl;cases hl)) hS (Vn l 0 a w (λj _=>wz) h));rw[List.mem_range'_1];constructor
 ·intro h;have:i<l.length:=O;simp[this]
 intro h;omega
def ZT(K:Act->World->Prop):Exit->Act->World->Prop
 |.normal,a,w=>K a w
 |_,_,_=>False
theorem Oper.xE{o:Oper}{Q:Exit->Act->World->Prop}(hq:∀e a w,Q e a w->Q' e a w)(h:o.wp P a w K Q):o.wp P a w K Q':=by
 unfold bO at *
 generalize (execOp a.eval o).run P w=r at *
 cases r with
 |ok n w' =>
  cases n<;>simp only[aL]at h ⊢
  all_goals first
   |exact h
   |exact eB h λe w'' he=>by
     cases e with
     |returned u=>exact he
     |panicked c=>exact hq _ _ _ he
     |outgrown=>obtain⟨a,w,h⟩:=he;exact⟨a,w,hq _ _ _ h⟩
 |halt x w'=>cases x<;>simp only[aL]at h ⊢;exact hq _ _ _ h
theorem LC{Q:Exit->Act->World->Prop}(hq:∀e a w,Q e a w->Q' e a w)(h:wpOp P ops Q i K a w):wpOp P ops Q' i K a w:=by
 unfold wpOp at *
 cases ho:ops[i]? with
 |none=>simp only[ho]at h ⊢;exact h
 |some o =>
  simp only[ho]at h ⊢;split
  ·rename_i hw;rw[if_pos hw]at h;exact h.imp (Oper.xE hq) λ⟨h1,a,w,h2⟩=>⟨h1,a,w,hq _ _ _ h2⟩
  rename_i hw;rw[if_neg hw]at h;exact h
theorem Wg{Q:Exit->Act->World->Prop}(hq:∀e a w,Q e a w->Q' e a w):∀(f:Nat) (listed:Array Bool) (a:Act) (w:World),wpAny P md ops Q f listed a w->wpAny P md ops Q' f listed a w
 |0,_,_,_,h=>⟨h.1,hq _ _ _ h.2⟩
 |f+1,_,_,_,h=>⟨λh0=>hq _ _ _ (h.1 h0),λi hi=>LC hq (wpOp_mono (λa' w' h'=>Wg hq f _ a' w' h') (h.2 i hi))⟩
theorem SR{id:Nat}{l:List Oper}(hm:P.follows .mixedOrders=true)(hB:lexB .any l=true)(hS:S { w with drawn:=w.drawn+1 })
  (h:FK P l.toArray (ZT (Q .normal)) S l a { w with drawn:=w.drawn+1 }):(fu id l.toArray true).wp P Q a w:=by
 refine wp_region_any hm ?_;have:=B8 (P:=P) (Q':=ZT (Q .normal)) hB (λc a w h=>h) hS h;simpa using Wg (Q':=Q) (λe a w h=>by cases e<;>first | exact h | exact h.elim) _ _ _ _ this
def Bv{id:Nat}{l:List Oper}(n:Nat)(hm:P.follows .mixedOrders=true)(hB:P2 l n=true)(hB2:lexB .any (l.take n)=true)(hS:S { w with drawn:=w.drawn+1 })
  (h:FK P (l.take n).toArray (ZT λa w=>wpList P l.toArray Q (l.drop n) a w) S (l.take n) a { w with drawn:=w.drawn+1 }):(fu id l.toArray true).wp P Q a w:=by
 refine NT n hm hB ?_;have hn:n<l.length:=by simp only[P2,bG,decide_eq_true_eq]at hB;exact hB.1.1.1.1.1
 have:=B8 (P:=P) hB2 (λc a w h=>h) hS h;have e:(l.take n).length=n:=w6;rw[e]at this;exact Wg (λe a w h=>by cases e<;>first | exact h | exact h.elim) _ _ _ _ this
end
end
abbrev Gs:=Nat->Option (Array Value×TypeId)
variable{F F0:Gs}{G:Gs->Prop}
def Gs.le(F F':Gs):Prop:=∀b x,F b=some x->F' b=some x
theorem Gs.le_refl(F:Gs):Gs.le F F:=λ_ _ h=>h
theorem Gs.le_trans{F' F'':Gs}(h:Gs.le F F')(k:Gs.le F' F''):Gs.le F F'':=λb x hx=>k b x (h b x hx)
class Dr where
 on:Prop
instance(priority:=10) QIf:Dr:=⟨False⟩
class Df where
 ds:List Deferred
instance(priority:=10) DI:Df:=⟨[]⟩
structure Se[Dr](w w':World):Prop extends Below w.heap.size w w' where
 dr:Dr.on->w.drawn<=w'.drawn
section
variable[Dr]
theorem Se.refl(w:World):Se w w:=⟨Ext.refl w,λ_=>au _⟩
theorem Se.trans{a b c:World}(h:Se a b)(k:Se b c):Se a c:=⟨Ext.trans h.toBelow k.toBelow,λd=>eH (h.dr d) (k.dr d)⟩
theorem Se.alloc{a:World}(h:Se a w)(o:Obj):Se a (w.alloc o):=⟨Ext.alloc h.toBelow o,h.dr⟩
theorem Se.drew{a:World}(h:Se a w):Se a w.drew:=⟨Ext.drew h.toBelow,λd=>Nat.le_succ_of_le (h.dr d)⟩
end
def Se.of(h:Ext w w'):Se w w':=⟨h,λd=>d.elim⟩
section
variable[Dr][df:Df]
structure Fits(F:Gs)(w:World):Prop where
 row:∀b c T,F b=some (c,T)->∃fr,w.heap[b]?=some (.cells c T fr)
 all:∀b c fr,w.heap[b]?=some (.cells c 256 fr)->F b=some (c,256)
theorem Fits.drew(h:Fits F w):Fits F w.drew:=⟨h.row,h.all⟩
theorem Fits.lt(h:Fits F w){b:Nat}{x:Array Value×TypeId}(hb:F b=some x):b<w.heap.size:=by
 obtain⟨fr,h⟩:=h.row b x.1 x.2 hb;rcases av b w.heap.size with g | g
 ·exact g
 rw[ab g]at h;cases h
theorem Fits.none(h:Fits F w){b:Nat}(hb:w.heap.size<=b):F b=none:=by
 cases hv:F b with
 |none=>rfl
 |some x=>have:=h.lt hv;omega
abbrev Sl:=List (Nat×Value)
def look:Sl->Nat->Option Value
 |[],_=>none
 |(k,v)::r,t=>bif aX k t then some v else look r t
def upd(m:Sl):Option Tmp->Value->Sl
 |some d,v=>(d,v)::m
 |none,_=>m
def ev(m:Sl):Operand->Option Value
 |.tmp t=>look m t
 |.const v=>some v
 |.global g=>some (.pointer (some ⟨g,0,none⟩))
 |.func f=>some (.func (.func f) #[] #[])
def E3(m:Sl):List Operand->Option (List Value)
 |[]=>some []
 |x::r=>match ev m x,E3 m r with
  |some v,some l=>some (v::l)
  |_,_=>none
def J5(N:Nat)(d:Option Tmp):Bool:=match d with | some d=>Nat.blt d N | none=>true
structure Ja(N:Nat)(m:Sl)(a:Act):Prop where
 size:a.tmps.size=N
 df:a.defers=Df.ds
 get:∀t v,look m t=some v->a.tmps[t]?=some v
theorem Ja.ev{m:Sl}(h:Ja N m a){x:Operand}{v:Value}(hx:ev m x=some v):a.eval x=v:=by
 cases x with
 |tmp t=>have:=h.get t v hx;simp[fF,this]
 |const v'=>simpa[YtbpmnjieoncbcaaGreatDoor.ev,fF]using hx
 |global g=>simpa[YtbpmnjieoncbcaaGreatDoor.ev,fF]using hx
 |func f=>simpa[YtbpmnjieoncbcaaGreatDoor.ev,fF]using hx
theorem Ja.E3{m:Sl}(h:Ja N m a):∀ {l:List Operand} {vs:List Value},E3 m l=some vs->l.map a.eval=vs
 |[],vs,e=>by simpa[YtbpmnjieoncbcaaGreatDoor.E3]using e
 |x::l,vs,e=>by
  unfold YtbpmnjieoncbcaaGreatDoor.E3 at e;cases hx:YtbpmnjieoncbcaaGreatDoor.ev m x with
  |none=>rw[hx]at e;simp at e
  |some v =>
   cases hl:YtbpmnjieoncbcaaGreatDoor.E3 m l with
   |none=>rw[hx,hl]at e;simp at e
   |some r =>
    rw[hx,hl]at e;simp only[ai]at e;subst e;rw[bS,h.ev hx,h.E3 hl]
theorem Ja.put{m:Sl}(h:Ja N m a){d:Option Tmp}(hd:J5 N d=true)(v:Value):Ja N (upd m d v) (a.put d v):=by
 cases d with
 |none=>exact h
 |some d =>
  have hd':d<N:=by simpa[J5]using hd
  refine⟨by simp[ib,h.size],h.df,λt u ht=>?_⟩;simp only[upd,look]at ht;cases hb:aX d t with
  |true =>
   rw[hb]at ht;have:d=t:=by simpa using hb
   subst this;have:v=u:=by simpa using ht
   subst this;simp[ib,h.size,hd']
  |false =>
   rw[hb]at ht;have hne:d≠t:=by intro e;subst e;simp at hb
   have:=h.get t u (by simpa using ht);simp[ib,aM hne,this]
def KL(m:Sl):Sl->Prop
 |[]=>True
 |(t,v)::r=>look m t=some v/\KL m r
theorem Ja.sub{m:Sl}(h:Ja N m a):∀ {m':Sl},KL m m'->Ja N m' a
 |[],_=>⟨h.size,h.df,λt v e=>by simp[look]at e⟩
 |(k,u)::r,⟨h1,h2⟩=>by
  refine⟨h.size,h.df,λt v e=>?_⟩;simp only[look]at e;cases hb:aX k t with
  |true =>
   rw[hb]at e;have:k=t:=by simpa using hb
   subst this;have:u=v:=by simpa using e
   subst this;exact h.get _ _ h1
  |false=>rw[hb]at e;exact(h.sub h2).get t v (by simpa using e)
structure Env where
 w0:World
 F0:Gs
 bs:List (Nat×Obj)
 G:Gs->Prop
structure jt(E:Env)(w:World)(F:Gs):Prop where
 le:Gs.le E.F0 F
 old:∀b,b<E.w0.heap.size->F b=E.F0 b
 fits:Fits F w
 ext:Se E.w0 w
 bx:∀k∈E.bs,w.heap[k.1]?=some k.2/\E.w0.heap.size<=k.1/\F k.1=none
 nd:(E.bs.map (·.1)).Nodup
 g:∀F',Gs.le F F'->E.G F'
def St(E:Env)(w:World):Prop:=∃F,jt E w F
theorem jt.drew{E:Env}(h:jt E w F):jt E w.drew F:=⟨h.le,h.old,h.fits.drew,h.ext.drew,h.bx,h.nd,h.g⟩
theorem St.drew{E:Env}(h:St E w):St E w.drew:=h.imp λ_ h=>h.drew
theorem jt.hG{E:Env}(h:jt E w F):E.G F:=h.g F (Gs.le_refl F)
theorem St.start(hf:Fits F w){G:Gs->Prop}(hg:∀F',Gs.le F F'->G F'):St ⟨w,F,[],G⟩ w :=
 ⟨F,Gs.le_refl F,λ_ _=>rfl,hf,Se.refl w,λ_ h=>(by cases h),List.nodup_nil,hg⟩
theorem St.imp{G':Gs->Prop}(h:St ⟨w0,F0,bs,G⟩ w)(hb:bs'.Sublist bs)(hg:∀F,G F->G' F):St ⟨w0,F0,bs',G'⟩ w:=by
 obtain⟨F,h⟩:=h;exact⟨F,h.le,h.old,h.fits,h.ext,λk hk=>h.bx k (hb.subset hk),(hb.map _).nodup h.nd,λF' hF'=>hg F' (h.g F' hF')⟩
theorem St.B3{G':Gs->Prop}(h:St ⟨w0,F0,bs,G⟩ w)(hg:∀F,G F->G' F):St ⟨w0,F0,bs,G'⟩ w:=h.imp (eZ _) hg
theorem TC{x:α}{l r:List α}(h:(l++x::r).Nodup):x∉l++r/\(l++r).Nodup:=by
 have h1:=h;rw[fO]at h1;obtain⟨a,b,c⟩:=h1;obtain⟨d,e⟩:=List.nodup_cons.1 b;refine⟨λhx=>?_,?_⟩
 ·rcases List.mem_append.1 hx with hx | hx
  ·exact c x hx x wz rfl
  exact d hx
 rw[fO];exact⟨a,e,λy hy z hz=>c y hy z (by simp[hz])⟩
theorem St.alloc(h:St ⟨w0,F0,bs,G⟩ w)(o:Obj)(ho:∀c fr,o≠.cells c 256 fr):St ⟨w0,F0,(w.heap.size,o)::bs,G⟩ (w.alloc o):=by
 obtain⟨F,h⟩:=h;have hne:∀k∈bs,k.1≠w.heap.size:=λk hk e=>by
  have:=(h.bx k hk).1;rw[e,ab (au _)]at this;cases this
 refine⟨F,⟨h.le,h.old,⟨λb c T hb=>?_,λb c fr hb=>?_⟩,h.ext.alloc o,λk hk=>?_,?_,h.g⟩⟩
 ·obtain⟨fr,e⟩:=h.fits.row b c T hb;exact⟨fr,by rw[eK _ _ _ (h.fits.lt hb)];exact e⟩
 ·rcases av b w.heap.size with g | g
  ·rw[eK _ _ _ g]at hb;exact h.fits.all b c fr hb
  have hb':(w.heap.push o)[b]?=some (.cells c 256 fr):=hb;rw[Array.getElem?_push]at hb';split at hb'
  ·exact absurd (ay hb') (ho c fr)
  rw[ab g]at hb';cases hb'
 ·rcases List.mem_cons.1 hk with rfl | hk
  ·exact⟨by show(w.heap.push o)[w.heap.size]?=_;simp,h.ext.size,h.fits.none (au _)⟩
  obtain⟨h1,h2,h3⟩:=h.bx k hk;have hlt:k.1<w.heap.size:=by
   rcases av k.1 w.heap.size with g | g
   ·exact g
   rw[ab g]at h1;cases h1
  exact⟨by rw[eK _ _ _ hlt];exact h1,h2,h3⟩
 show(w.heap.size::bs.map (·.1)).Nodup;refine List.nodup_cons.2 ⟨λhm=>?_,h.nd⟩;obtain⟨k,hk,e⟩:=List.mem_map.1 hm;exact hne k hk e
theorem jt.freeze{pre post:List (Nat×Obj)}{c:Array Value}(h:jt ⟨w0,F0,pre++(b,.cells c T fr)::post,G⟩ w F):
  jt ⟨w0,F0,pre++post,G⟩ w (λi=>if i=b then some (c,T)else F i)/\Gs.le F (λi=>if i=b then some (c,T)else F i):=by
 obtain⟨h1,h2,h3⟩:=h.bx (b,.cells c T fr) wz;have hle:Gs.le F (λi=>if i=b then some (c,T)else F i):=λi x hx=>by
  by_cases e:i=b
  ·subst e;rw[h3]at hx;cases hx
  show(if i=b then _ else _)=_;rw[if_neg e];exact hx
 have hnd:=h.nd;simp only[bw,bS]at hnd;have hnd2:=(TC hnd);refine⟨⟨Gs.le_trans h.le hle,λi hi=>?_,⟨λi c' T' hi=>?_,λi c' fr' hi=>?_⟩,h.ext,λk hk=>?_,?_,λF' hF'=>h.g F' (Gs.le_trans hle hF')⟩,hle⟩
 ·have:i≠b:=by rintro rfl;exact absurd hi (Nat.not_lt.2 h2)
  rw[if_neg this];exact h.old i hi
 ·by_cases e:i=b
  ·subst e;rw[if_pos rfl]at hi;cases hi;exact⟨fr,h1⟩
  rw[if_neg e]at hi;exact h.fits.row i c' T' hi
 ·by_cases e:i=b
  ·subst e;have:=h1.symm.trans hi;cases this;rw[if_pos rfl]
  rw[if_neg e];exact h.fits.all i c' fr' hi
 ·obtain⟨g1,g2,g3⟩:=h.bx k (by
   rcases List.mem_append.1 hk with h | h
   ·simp[h]
   simp[h])
  refine⟨g1,g2,?_⟩;have hkb:k.1≠b:=by
   rintro rfl;refine hnd2.1 ?_;rw[<-bw];exact fA hk
  rw[if_neg hkb];exact g3
 show((pre++post).map (·.1)).Nodup;rw[bw];exact hnd2.2
theorem St.freeze(pre:List (Nat×Obj)){post:List (Nat×Obj)}{b:Nat}{c:Array Value}{T:TypeId}{fr:Nat×Nat}{G:Gs->Prop}{w:World}(h:St ⟨w0,F0,pre++(b,.cells c T fr)::post,G⟩ w):
  St ⟨w0,F0,pre++post,λF=>G F/\F b=some (c,T)⟩ w:=by
 obtain⟨F,h⟩:=h;obtain⟨h1,hle⟩:=h.freeze;exact⟨_,h1.le,h1.old,h1.fits,h1.ext,h1.bx,h1.nd,λF' hF'=>⟨h1.g F' hF',hF' b _ (by show(if b=b then _ else _)=_;rw[if_pos rfl])⟩⟩
theorem St.write(pre:List (Nat×Obj)){post:List (Nat×Obj)}{b:Nat}{o o':Obj}{G:Gs->Prop}{w w':World}(h:St ⟨w0,F0,pre++(b,o)::post,G⟩ w)
  (hw:w'.heap=w.heap.setIfInBounds b o'/\w'.os=w.os/\w'.tape=w.tape/\w'.output=w.output/\w'.drawn=w.drawn) (ho:∀c fr,o'≠.cells c 256 fr):St ⟨w0,F0,pre++(b,o')::post,G⟩ w':=by
 obtain⟨F,h⟩:=h;obtain⟨h1,h2,h3⟩:=h.bx (b,o) wz;have hlt:b<w.heap.size:=by
  rcases av b w.heap.size with g | g
  ·exact g
  rw[ab g]at h1;cases h1
 have hne:∀i,i≠b->w'.heap[i]?=w.heap[i]?:=λi hi=>by rw[hw.1,aM (fk hi)]
 have heq:w'.heap[b]?=some o':=by rw[hw.1];simp[hlt]
 have hsz:w'.heap.size=w.heap.size:=by rw[hw.1];simp
 have hnd:=h.nd;simp only[bw,bS]at hnd;have hnd2:=(TC hnd);refine⟨F,⟨h.le,h.old,⟨λi c T hi=>?_,λi c fr hi=>?_⟩,⟨Ext.QAe h.ext.toBelow ?_ ?_ ?_ ?_ ?_,λd=>by rw[hw.2.2.2.2];exact h.ext.dr d⟩,λk hk=>?_,?_,h.g⟩⟩
 ·have:i≠b:=by rintro rfl;rw[h3]at hi;cases hi
  rw[hne i this];exact h.fits.row i c T hi
 ·by_cases e:i=b
  ·subst e;rw[heq]at hi;exact absurd (ay hi) (ho c fr)
  rw[hne i e]at hi;exact h.fits.all i c fr hi
 ·exact hw.2.1
 ·exact hw.2.2.1
 ·exact hw.2.2.2.1
 ·omega
 ·intro i hi;exact hne i (by rintro rfl;exact absurd hi (Nat.not_lt.2 h2))
 ·have key:k=(b,o')\/k∈pre++post:=by
   rcases List.mem_append.1 hk with h | h
   ·exact .inr (by simp[h])
   rcases List.mem_cons.1 h with h | h
   ·exact .inl h
   exact .inr (by simp[h])
  rcases key with rfl | hk'
  ·exact⟨heq,h2,h3⟩
  obtain⟨g1,g2,g3⟩:=h.bx k (by
   rcases List.mem_append.1 hk' with h | h
   ·simp[h]
   simp[h])
  have hkb:k.1≠b:=by
   rintro rfl;refine hnd2.1 ?_;rw[<-bw];exact fA hk'
  exact⟨by rw[hne _ hkb];exact g1,g2,g3⟩
 show((pre++(b,o')::post).map (·.1)).Nodup;simp only[bw,bS];exact hnd
end
variable{m:Sl}
section
variable[Dr][df:Df]
section
variable{P:Program}{Q:Exit->Act->World->Prop}{N:Nat}{m:Sl}{E:Env}
def Fin(Q:Exit->Act->World->Prop)(e:Exit)(N:Nat)(m:Sl)(E:Env):Prop:=∀a w,Ja N m a->St E w->Q e a w
def J(P:Program)(c:Code)(Q:Exit->Act->World->Prop)(N:Nat)(m:Sl)(E:Env):Prop:=∀a w,Ja N m a->St E w->c.wp P Q a w
def JS(P:Program)(ops:Array Oper)(Q:Exit->Act->World->Prop)(l:List Oper)(N:Nat)(m:Sl)(E:Env):Prop:=∀a w,Ja N m a->St E w->wpList P ops Q l a w
def JD(P:Program)(ops:Array Oper)(Q:Exit->Act->World->Prop)(E0:Env)(l:List Oper)(N:Nat)(m:Sl)(E:Env):Prop:=(∀w,St E w->St E0 w)->∀a w,Ja N m a->St E w->FK P ops Q (St E0) l a w
theorem QG{x y:Code}(h:J P x (Exit.then (y.wp P Q) Q) N m E):J P (.seq x y) Q N m E:=λa w ha hw=>wp_seq (h a w ha hw)
theorem QW{id:Nat}{c:Code}(h:J P c (bc id Q) N m E):J P (.block id c) Q N m E:=λa w ha hw=>wp_block (h a w ha hw)
theorem QO(h:Fin Q .normal N m E):J P .skip Q N m E:=λa w ha hw=>wp_skip (h a w ha hw)
theorem Qz{id:Nat}(h:Fin Q (.exit id) N m E):J P (.exit id) Q N m E:=λa w ha hw=>wp_exit (h a w ha hw)
theorem QY(h:Fin Q .ret N m E):J P .ret Q N m E:=λa w ha hw=>wp_ret (h a w ha hw)
theorem QR{c:Operand}{x y:Code}{t:Bool}(hc:ev m c=some (.bool t))(ht:t=true->J P x Q N m E)(hf:t=false->J P y Q N m E):J P (.cond c x y) Q N m E :=
 λa w ha hw=>wp_cond_split (ha.ev hc) (λh=>ht h a w ha hw) λh=>hf h a w ha hw
theorem Yv{c:Operand}{x y:Code}(hc:ev m c=some (.bool false))(h:J P y Q N m E):J P (.cond c x y) Q N m E:=QR hc (λh=>by cases h) λ_=>h
theorem QC{y:Code}(h:J P y Q N m E):Fin (Exit.then (y.wp P Q) Q) .normal N m E:=h
theorem QZ{id:Nat}(h:Fin Q (.exit id) N m E):Fin (Exit.then K Q) (.exit id) N m E:=h
theorem Q6(h:Fin Q .ret N m E):Fin (Exit.then K Q) .ret N m E:=h
theorem Qk{id:Nat}(h:Fin Q .normal N m E):Fin (bc id Q) .normal N m E:=h
theorem Qy{id:Nat}(h:Fin Q .ret N m E):Fin (bc id Q) .ret N m E:=h
theorem Qa{id:Nat}(h:Fin Q .normal N m E):Fin (bc id Q) (.exit id) N m E:=λa w ha hw=>by simp only[bc,if_true];exact h a w ha hw
theorem QQ{id id':Nat}(hid:aX id' id=false)(h:Fin Q (.exit id') N m E):Fin (bc id Q) (.exit id') N m E:=λa w ha hw=>by
 have:id'≠id:=by rintro rfl;simp at hid
 simp only[bc,if_neg this];exact h a w ha hw
def Cm{ι:Type}(N:Nat)(w0:World)(F0:Gs)(M:ι->Sl)(B:ι->List (Nat×Obj))(H:ι->Gs->Prop)(μ:ι->Nat)(i:ι)(a:Act)(w:World):Prop :=
 ∃j,μ j<μ i/\Ja N (M j) a/\St ⟨w0,F0,B j,H j⟩ w
theorem YA{c:Code}(M:ι->Sl)(B:ι->List (Nat×Obj))(H:ι->Gs->Prop)(μ:ι->Nat)(i0:ι)
  (hm:KL m (M i0)) (hb:(B i0).Sublist bs) (hg:∀F,G F->H i0 F)
  (round:∀i,J P c (Exit.then (Cm N w0 F0 M B H μ i) Q) N (M i) ⟨w0,F0,B i,H i⟩):J P (.loop c) Q N m ⟨w0,F0,bs,G⟩:=by
 intro a w ha hw;refine wp_loop_ghost (λn a w=>∃i,μ i=n/\Ja N (M i) a/\St ⟨w0,F0,B i,H i⟩ w) (μ i0) ⟨i0,rfl,ha.sub hm,hw.imp hb hg⟩ ?_;rintro n a w ⟨i,rfl,ha,hw⟩;refine wp_mono (round i a w ha hw) ?_;intro e a' w' h;cases e with
 |normal=>obtain⟨j,h1,h2,h3⟩:=h;exact⟨μ j,h1,j,rfl,h2,h3⟩
 |_=>exact h
theorem Qm{M:ι->Sl}{B:ι->List (Nat×Obj)}{H:ι->Gs->Prop}{μ:ι->Nat}{i:ι}(j:ι)(hμ:μ j<μ i)
  (hm:KL m (M j)) (hb:(B j).Sublist bs) (hg:∀F,G F->H j F):Fin (Exit.then (Cm N w0 F0 M B H μ i) Q) .normal N m ⟨w0,F0,bs,G⟩ :=
 λa w ha hw=>⟨j,hμ,ha.sub hm,hw.imp hb hg⟩
theorem QB{id:Nat}{l:List Oper}(h:JS P l.toArray Q l N m E):J P (.region id l.toArray false) Q N m E:=λa w ha hw=>wp_region_lit (h a w ha hw)
variable{ops:Array Oper}{l:List Oper}{E0:Env}
theorem QE(h:Fin Q .normal N m E):JS P ops Q [] N m E:=h
theorem OU(h:∀a w,Ja N m a->St E w->K a w):JD P ops (ZT K) E0 [] N m E:=λ_=>h
def Qt(P:Program)(N:Nat)(m:Sl)(S:World->Prop)(o:Op)(ty:TypeId)(v:Value):Prop:=∀a w d pos aft g,Ja N m a->S w->(execOp a.eval ⟨d,o,ty,pos,aft,g⟩).run P w = .ok (.value v) w
variable{d:Nat}{o:Op}{ty:TypeId}{pos:String}{aft:Array Edge}{v:Value}
theorem QA(h:Qt P N m (St E) o ty v)(k:JS P ops Q l N ((d,v)::m) E)(hd:J5 N (some d)=true:=by rfl):JS P ops Q (⟨some d,o,ty,pos,aft,none⟩::l) N m E:=by
 intro a w ha hw;refine wpList_plain rfl λK hK=>?_;unfold bO;rw[h a w _ _ _ _ ha hw];exact hK _ _ (k _ w (ha.put hd v) hw)
theorem QK(h:Qt P N m (St E0) o ty v)(k:JD P ops Q E0 l N ((d,v)::m) E)(hq:J2 o=true:=by rfl)(hd:J5 N (some d)=true:=by rfl):JD P ops Q E0 (⟨some d,o,ty,pos,aft,none⟩::l) N m E:=by
 intro hE a w ha hw;exact .inl ⟨hq,v,.inl ⟨rfl,λw' hw'=>h a w' _ _ _ _ ha hw'⟩,k hE _ w (ha.put hd v) hw⟩
theorem Dw(ha:Ja N m a){g t:Nat}{b:Bool}(hg:(ops[g]?).bind (·.dst)=some t)(hb:look m t=some (.bool b)):yielded ops a.tmps g=some b:=by
 unfold yielded;rw[hg];have:=ha.get t _ hb;simp[this]
theorem QCE{d:Option Tmp}{g t:Nat}{b want:Bool}(hg:(ops[g]?).bind (·.dst)=some t)(hb:look m t=some (.bool b))(ht:b=want->JS P ops Q (⟨d,o,ty,pos,aft,none⟩::l) N m E)(hf:b=!want->JS P ops Q l N (upd m d undef) E)
  (hd:J5 N d=true:=by rfl):JS P ops Q (⟨d,o,ty,pos,aft,some (g,want)⟩::l) N m E:=by
 intro a w ha hw;unfold wpList;have hy:=Dw ha hg hb;by_cases e:b=want
 ·have:=ht e a w ha hw;unfold wpList at this;rw[if_pos (by simp[ao])]at this;rw[if_pos (by simp[ao,hy,e])];exact this
 rw[if_neg (by simp[ao,hy,e])];exact hf (by cases b<;>cases want<;>simp_all) _ w (ha.put hd undef) hw
theorem QE7{d:Option Tmp}{g t:Nat}{b want:Bool}(hg:(ops[g]?).bind (·.dst)=some t)(hb:look m t=some (.bool b))(ht:b=want->JD P ops Q E0 (⟨d,o,ty,pos,aft,none⟩::l) N m E)(hf:b=!want->JD P ops Q E0 l N (upd m d undef) E)
  (hd:J5 N d=true:=by rfl):JD P ops Q E0 (⟨d,o,ty,pos,aft,some (g,want)⟩::l) N m E:=by
 intro hE a w ha hw;have hy:=Dw ha hg hb;by_cases e:b=want
 ·rcases ht e hE a w ha hw with ⟨h1,v,h2,h3⟩ | ⟨h1,h2⟩
  ·refine .inl ⟨h1,v,?_,h3⟩;rcases h2 with ⟨_,h2⟩ | ⟨h2,_⟩
   ·exact .inl ⟨by simp[ao,hy,e],h2⟩
   simp[ao]at h2
  refine .inr ⟨h1,?_⟩;rw[if_pos (by simp[ao])]at h2;rw[if_pos (by simp[ao,hy,e])];exact h2
 have hr:=hf (by cases b<;>cases want<;>simp_all) hE _ w (ha.put hd undef) hw;cases hq:J2 o with
 |true=>exact .inl ⟨hq,undef,.inr ⟨by simp[ao,hy,e],rfl⟩,hr⟩
 |false =>
  refine .inr ⟨hq,?_⟩;rw[if_neg (by simp[ao,hy,e])];exact⟨hE w hw,hr⟩
end
end
section
variable[Dr][df:Df]
def QG9(d:TypeDesc):Bool:=match d with | .struct _ | .array _ _=>true | _=>false
def Z5(P:Program)(T:TypeId):Option (Bool×Nat):=match P.underlying T,P.info? T with
 |some d,some i=>some (QG9 d,i.size)
 |_,_=>none
theorem Tn(h:Z5 P T=some (g,n))(w:World):(isAgg T).run P w = .ok g w:=by
 unfold Z5 at h;split at h
 ·rename_i d i hd hi;cases h;unfold isAgg;rw[aj,run_underlying hd w];cases d<;>rfl
 cases h
theorem Ky(h:Z5 P T=some (g,n))(w:World):(sizeOf T).run P w = .ok n w:=by
 unfold Z5 at h;split at h
 ·rename_i d i hd hi;cases h;simp[sizeOf,typeInfo,hi]
 cases h
def YZ(P:Program)(T:TypeId)(f:Nat):Option (Nat×TypeId):=match P.underlying T with
 |some (.struct fs)=>match fs[f]? with
  |some x=>some (x.offset,x.type)
  |none=>none
 |_=>none
inductive SC:List Value->Nat->List Value->Prop
 |nil {l:List Value}:SC l 0 []
 |here {x:Value} {l vs:List Value}:SC l 0 vs->SC (x::l) 0 (x::vs)
 |skip {x:Value} {l vs:List Value} {n:Nat}:SC l n vs->SC (x::l) (n+1) vs
theorem SC.at{vs:List Value}(h:SC l n vs):∀(j:Nat) (v:Value),vs[j]?=some v->l[n+j]?=some v:=by
 induction h with
 |nil=>intro j v hv;simp at hv
 |here h ih =>
  intro j v hv;cases j with
  |zero=>simpa using hv
  |succ j =>
   have:=ih j v (by simpa using hv);rw[show 0+(j+1)=(0+j)+1 by omega];simpa using this
 |skip h ih =>
  intro j v hv;have:=ih j v hv;rw[eG];simpa using this
inductive K8:List Value->Nat->List Value->List Value->Prop
 |nil {l:List Value}:K8 l 0 [] l
 |here {x v:Value} {l vs l':List Value}:K8 l 0 vs l'->K8 (x::l) 0 (v::vs) (v::l')
 |skip {x:Value} {l vs l':List Value} {n:Nat}:K8 l n vs l'->K8 (x::l) (n+1) vs (x::l')
theorem K8.le{vs:List Value}(h:K8 l n vs l'):n+vs.length<=l.length:=by
 induction h<;>simp_all<;>omega
theorem K8.eq{vs:List Value}(h:K8 l n vs l'):l'=l.take n++vs++l.drop (n+vs.length):=by
 induction h with
 |nil=>simp
 |here h ih=>simp at ih ⊢;exact ih
 |skip h ih =>
  rw[eG];simpa using ih
inductive Own:List (Nat×Obj)->Nat->Obj->(Obj->List (Nat×Obj))->Prop
 |here {b:Nat} {o:Obj} {r:List (Nat×Obj)}:Own ((b,o)::r) b o λo'=>(b,o')::r
 |there {x:Nat×Obj} {l:List (Nat×Obj)} {b:Nat} {o:Obj} {f:Obj->List (Nat×Obj)}:Own l b o f->Own (x::l) b o λo'=>x::f o'
theorem Own.split{l:List (Nat×Obj)}(h:Own l b o f):∃pre post,l=pre++(b,o)::post/\∀o',f o'=pre++(b,o')::post:=by
 induction h with
 |here=>exact⟨[],_,rfl,λ_=>rfl⟩
 |there h ih =>
  obtain⟨pre,post,h1,h2⟩:=ih;exact⟨_::pre,post,by rw[h1];rfl,λo'=>by show _::_=_;rw[h2];rfl⟩
theorem Own.mem{l:List (Nat×Obj)}(h:Own l b o f):(b,o)∈l:=by
 obtain⟨pre,post,h1,_⟩:=h.split;rw[h1];simp
inductive jM:List (Nat×Obj)->Nat->Obj->List (Nat×Obj)->Prop
 |here {b:Nat} {o:Obj} {r:List (Nat×Obj)}:jM ((b,o)::r) b o r
 |there {x:Nat×Obj} {l l':List (Nat×Obj)} {b:Nat} {o:Obj}:jM l b o l'->jM (x::l) b o (x::l')
theorem jM.split{l l':List (Nat×Obj)}(h:jM l b o l'):∃pre post,l=pre++(b,o)::post/\l'=pre++post:=by
 induction h with
 |here=>exact⟨[],_,rfl,rfl⟩
 |there h ih =>
  obtain⟨pre,post,h1,h2⟩:=ih;exact⟨_::pre,post,by rw[h1];rfl,by rw[h2];rfl⟩
section
variable{P:Program}{Q:Exit->Act->World->Prop}{N:Nat}{m:Sl}{E E0:Env}{ops:Array Oper}{l:List Oper}{w0:World}{F0:Gs}{bs:List (Nat×Obj)}{G:Gs->Prop}
theorem St.own(h:St ⟨w0,F0,bs,G⟩ w){b:Nat}{o:Obj}{f:Obj->List (Nat×Obj)}(ho:Own bs b o f):w.heap[b]?=some o:=by
 obtain⟨F,h⟩:=h;exact(h.bx (b,o) ho.mem).1
section
variable{ty:TypeId}{v:Value}{S:World->Prop}
theorem QD(h:ev m x=some v):Qt P N m S (.move x) ty v:=λa w _ _ _ _ ha _=>by
 show(iZ (lA (a.eval x)) w)=_;rw[ha.ev h]
theorem QF(h:ev m x=some v):Qt P N m S (.assign x) ty v:=λa w _ _ _ _ ha _=>by
 show(iZ (lA (a.eval x)) w)=_;rw[ha.ev h]
theorem zK{c:Operand}{b:Bool}(hc:ev m c=some (.bool b))(hx:ev m x=some v)(hy:ev m y=some u):Qt P N m S (.pick c x y) ty (if b then v else u):=λa w _ _ _ _ ha _=>by
 simp only[execOp,ha.ev hc,ha.ev hx,ha.ev hy,asBool,pure_bind,aG]
theorem QX{vs:Array Value}(h:ev m x=some (.tuple vs))(hi:vs[i]?=some v):Qt P N m S (.extract x i) ty v:=λa w _ _ _ _ ha _=>by
 simp[execOp,ha.ev h,Instr.extract,hi]
theorem ZY{p:Addr}(h:ev m x=some (.pointer (some p))):Qt P N m S (.nilCheck x) ty (.pointer (some p)):=λa w _ _ _ _ ha _=>by
 simp[execOp,ha.ev h]
theorem QH{f:Nat}{fo:Nat}{ft:TypeId}(h:ev m x=some (.pointer (some ⟨b,off,none⟩)))(hf:YZ P T f=some (fo,ft))(hs:Z5 P ft=some (g,n+1)):
  Qt P N m S (.fieldAddr T x f) ty (.pointer (some ⟨b,off+fo,none⟩)):=λa w _ _ _ _ ha _=>by
 unfold YZ at hf;split at hf
 ·rename_i fs hu;split at hf
  ·rename_i fx hx;simp only[ai,Prod.mk.injEq]at hf;obtain⟨rfl,rfl⟩:=hf;have hadd:(⟨b,off,none⟩:Addr).add fx.offset=⟨b,off+fx.offset,none⟩:=by unfold fy;split<;>simp_all
   simp[execOp,ha.ev h,Instr.fieldAt,run_underlying hu,hx,aN,fieldPlace,Ky hs,hadd]
  cases hf
 cases hf
theorem Z1(ht:Z5 P T=some (false,n)){w:World}{a:Addr}{v:Value}(h:w.cell? a=some v):(loadVar T a).run P w = .ok v w:=by
 simp[loadVar,Tn ht,h]
theorem Ka{vs:List Value}(ht:Z5 P T=some (true,n))(hn:vs.length=n){w:World}{b off:Nat}(h:∀j v,vs[j]?=some v->w.cell? ⟨b,off+j,none⟩=some v):(loadVar T ⟨b,off,none⟩).run P w = .ok (.agg vs.toArray) w:=by
 have hl:=run_loadCells_list (P:=P) w ⟨b,off,none⟩ vs (λj v hv=>by
  have hadd:(⟨b,off,none⟩:Addr).add j=⟨b,off+j,none⟩:=by unfold fy;split<;>simp_all
  rw[hadd];exact h j v hv)
 subst hn;simp[loadVar,Tn ht,Ky ht,hl]
theorem ZF{o:Nat}(h:w.heap[b]?=some (.cells c.toArray T fr)):w.cell? ⟨b,o,none⟩=c[o]?:=by
 simp[ep,h]
theorem Qf(h:ev m x=some (.pointer (some ⟨b,off,none⟩)))(ht:Z5 P T=some (false,n))(ho:Own bs b (.cells c.toArray T' fr) f)(hg:SC c off [v]):
  Qt P N m (St ⟨w0,F0,bs,G⟩) (.load T x) ty v:=λa w _ _ _ _ ha hw=>by
 have hc:w.cell? ⟨b,off,none⟩=some v:=by rw[ZF (hw.own ho)];exact hg.at 0 v I
 simp[execOp,ha.ev h,bL,aN,Z1 ht hc]
theorem QJ{vs:List Value}(h:ev m x=some (.pointer (some ⟨b,off,none⟩)))(ht:Z5 P T=some (true,n))(ho:Own bs b (.cells c.toArray T' fr) f)(hg:SC c off vs)(hn:vs.length=n):
  Qt P N m (St ⟨w0,F0,bs,G⟩) (.load T x) ty (.agg vs.toArray):=λa w _ _ _ _ ha hw=>by
 have:=Ka ht hn (w:=w) (b:=b) (off:=off) (λj v hv=>by rw[ZF (hw.own ho)];exact hg.at j v hv);simp[execOp,ha.ev h,bL,aN,this]
theorem cell_of_row(h:St ⟨w0,F0,bs,G⟩ w){b o:Nat}{c:Array Value}{T:TypeId}{v:Value}(hr:∀F,G F->F b=some (c,T))(hv:c[o]?=some v):w.cell? ⟨b,o,none⟩=some v:=by
 obtain⟨F,h⟩:=h;obtain⟨fr,e⟩:=h.fits.row b c T (hr F h.hG);simp[ep,e,hv]
theorem Zr{c:Array Value}(h:ev m x=some (.pointer (some ⟨b,off,none⟩)))(ht:Z5 P T=some (false,n))(hr:∀F,G F->F b=some (c,T'))(hv:c[off]?=some v):
  Qt P N m (St ⟨w0,F0,bs,G⟩) (.load T x) ty v:=λa w _ _ _ _ ha hw=>by
 simp[execOp,ha.ev h,bL,aN,Z1 ht (cell_of_row hw hr hv)]
theorem Al{c:Array Value}{vs:List Value}(h:ev m x=some (.pointer (some ⟨b,off,none⟩)))(ht:Z5 P T=some (true,n))(hr:∀F,G F->F b=some (c,T'))(hn:vs.length=n)(hv:∀j v,vs[j]?=some v->c[off+j]?=some v):
  Qt P N m (St ⟨w0,F0,bs,G⟩) (.load T x) ty (.agg vs.toArray):=λa w _ _ _ _ ha hw=>by
 have:=Ka ht hn (w:=w) (b:=b) (off:=off) (λj v h=>cell_of_row hw hr (hv j v h));simp[execOp,ha.ev h,bL,aN,this]
end
def Enters(P:Program)(f:FuncId):Prop:=∀(args:Array Value) (w:World),(callFunc f args).run P w = .ok (.enter f args) w
theorem enters_of{f:FuncId}(h:P.funcs[f]?=some fn)(hn:(fn.name == "runtime.NumGoroutine")=false)(hb:fn.body.isNone=false):Enters P f:=λargs w=>by
 have hb':fn.body≠none:=by intro e;rw[e]at hb;cases hb
 simp[callFunc,h,hb',beq_eq_false_iff_ne.1 hn]
def SO(w:World)(F:Gs){γ:Type}(val:γ->Value)(fact:γ->Gs->Prop)(e:Ending)(w':World):Prop :=
 ∃c F',e = .returned (val c)/\Se w w'/\Gs.le F F'/\(∀b,b<w.heap.size->F' b=F b)/\Fits F' w'/\∀F'',Gs.le F' F''->fact c F''
def QV(P:Program)(f:FuncId)(args:List Value)(w:World)(F:Gs){γ:Type}(val:γ->Value)(fact:γ->Gs->Prop):Prop :=
 Enters P f/\Calls P f args.toArray w (SO w F val fact)
theorem QV.imp{f:FuncId}{args:List Value}{γ':Type}{val:γ->Value}{fact:γ->Gs->Prop}{val':γ'->Value}{fact':γ'->Gs->Prop}(h:QV P f args w F val fact)
  (k:∀c F',fact c F'->∃c',val c=val' c'/\∀F'',Gs.le F' F''->fact' c' F''):QV P f args w F val' fact':=by
 refine⟨h.1,h.2.mono ?_⟩;rintro e w' ⟨c,F',rfl,h1,h2,h3,h4,h5⟩;obtain⟨c',e,k'⟩:=k c F' (h5 F' (Gs.le_refl _));exact⟨c',F',by rw[e],h1,h2,h3,h4,k'⟩
theorem jt.call{F':Gs}(h:jt ⟨w0,F0,bs,G⟩ w F){f:Gs->Prop}(h1:Se w w')(h2:Gs.le F F')(h3:∀b,b<w.heap.size->F' b=F b)(h4:Fits F' w')(h5:∀F'',Gs.le F' F''->f F''):jt ⟨w0,F0,bs,λF=>G F/\f F⟩ w' F':=by
 refine⟨Gs.le_trans h.le h2,λb hb=>?_,h4,h.ext.trans h1,λk hk=>?_,h.nd,λF'' hF=>⟨h.g F'' (Gs.le_trans h2 hF),h5 F'' hF⟩⟩
 ·rw[h3 b (fM hb h.ext.size)];exact h.old b hb
 obtain⟨g1,g2,g3⟩:=h.bx k hk;have hlt:k.1<w.heap.size:=by
  rcases av k.1 w.heap.size with g | g
  ·exact g
  rw[ab g]at g1;cases g1
 exact⟨by rw[h1.block _ hlt];exact g1,g2,by rw[h3 _ hlt];exact g3⟩
theorem Gl{d:Option Tmp}{args:Array Operand}{tys:Array TypeId}{ty:TypeId}{pos:String}{f:FuncId}{c1 c2:Array Value}(he:Enters P f)(hx:a.eval x = .func (.func f) c1 c2):
  (execOp a.eval ⟨d,.call ⟨.value x,args,tys⟩,ty,pos,aft,gd⟩).run P w = .ok (.enter f (c1++args.map a.eval++c2)) w:=by
 simp only[execOp,resolve,hx,Deferred.ofValue,aj,aG,ak,invoke];exact he _ w
section
variable{d:Nat}{ty:TypeId}{pos:String}{aft:Array Edge}{f:FuncId}{args:Array Operand}{tys:Array TypeId}{vs:List Value}{γ:Type}{val:γ->Value}{fact:γ->Gs->Prop}
theorem GY{c1 c2:List Value}(hx:ev m x=some (.func (.func f) c1.toArray c2.toArray))(hv:E3 m args.toList=some vs)(hc:∀w F,Fits F w->G F->QV P f (c1++vs++c2) w F val fact)
  (k:∀c,JS P ops Q l N ((d,val c)::m) ⟨w0,F0,bs,λF=>G F/\fact c F⟩) (hd:J5 N (some d)=true:=by rfl):JS P ops Q (⟨some d,.call ⟨.value x,args,tys⟩,ty,pos,aft,none⟩::l) N m ⟨w0,F0,bs,G⟩:=by
 intro a w ha hw;obtain⟨F,hF⟩:=hw;have hcg:=hc w F hF.fits hF.hG;refine wpList_plain rfl λK hK=>?_;unfold bO;rw[Gl hcg.1 (ha.ev hx)];have e:c1.toArray++args.map a.eval++c2.toArray=(c1++vs++c2).toArray:=by
  have:=ha.E3 hv;have e2:args.map a.eval=vs.toArray:=by rw[<-this];apply bZ ;simp
  rw[e2];apply bZ;simp
 simp only[aL];rw[e];refine hcg.2.mono ?_;rintro e w' ⟨c,F',rfl,h1,h2,h3,h4,h5⟩;exact hK _ _ (k c _ w' (ha.put hd (val c)) ⟨F',hF.call h1 h2 h3 h4 h5⟩)
theorem QI(hv:E3 m args.toList=some vs)(hc:∀w F,Fits F w->G F->QV P f vs w F val fact)
  (k:∀c,JS P ops Q l N ((d,val c)::m) ⟨w0,F0,bs,λF=>G F/\fact c F⟩) (hd:J5 N (some d)=true:=by rfl):JS P ops Q (⟨some d,.call ⟨.value (.func f),args,tys⟩,ty,pos,aft,none⟩::l) N m ⟨w0,F0,bs,G⟩ :=
 GY (x:=.func f) (c1:=[]) (c2:=[]) I hv (by simpa using hc) k hd
theorem Ib{c1 c2:List Value}(hx:ev m x=some (.func (.func f) c1.toArray c2.toArray))(hv:E3 m args.toList=some vs)(hc:∀w F,Fits F w->G F->QV P f (c1++vs++c2) w F val fact)
  (k:∀c,JD P ops Q E0 l N ((d,val c)::m) ⟨w0,F0,bs,λF=>G F/\fact c F⟩) (hd:J5 N (some d)=true:=by rfl):JD P ops Q E0 (⟨some d,.call ⟨.value x,args,tys⟩,ty,pos,aft,none⟩::l) N m ⟨w0,F0,bs,G⟩:=by
 intro hE a w ha hw;obtain⟨F,hF⟩:=hw;have hcg:=hc w F hF.fits hF.hG;refine .inr ⟨rfl,?_⟩;rw[if_pos (by simp[ao])];unfold bO;rw[Gl hcg.1 (ha.ev hx)];have e:c1.toArray++args.map a.eval++c2.toArray=(c1++vs++c2).toArray:=by
  have:=ha.E3 hv;have e2:args.map a.eval=vs.toArray:=by rw[<-this];apply bZ ;simp
  rw[e2];apply bZ;simp
 simp only[aL];rw[e];refine hcg.2.mono ?_;rintro e w' ⟨c,F',rfl,h1,h2,h3,h4,h5⟩;have hS:St ⟨w0,F0,bs,λF=>G F/\fact c F⟩ w':=⟨F',hF.call h1 h2 h3 h4 h5⟩;exact⟨hE w' (hS.B3 λ_ h=>h.1),k c (λw h=>hE w (h.B3 λ_ h=>h.1)) _ w' (ha.put hd (val c)) hS⟩
theorem QP(hv:E3 m args.toList=some vs)(hc:∀w F,Fits F w->G F->QV P f vs w F val fact)
  (k:∀c,JD P ops Q E0 l N ((d,val c)::m) ⟨w0,F0,bs,λF=>G F/\fact c F⟩) (hd:J5 N (some d)=true:=by rfl):JD P ops Q E0 (⟨some d,.call ⟨.value (.func f),args,tys⟩,ty,pos,aft,none⟩::l) N m ⟨w0,F0,bs,G⟩ :=
 Ib (x:=.func f) (c1:=[]) (c2:=[]) I hv (by simpa using hc) k hd
end
end
end
section
variable[Dr][df:Df]{P:Program}{Q:Exit->Act->World->Prop}{ops:Array Oper}{l:List Oper}{N:Nat}{m:Sl}{E:Env}{d:Nat}{v:Value}{ty:TypeId}{pos:String}{aft:Array Edge}
theorem QH0(h:ev m x=some v)(k:JS P ops Q l N ((d,v)::m) E)(hd:J5 N (some d)=true:=by rfl):JS P ops Q (⟨some d,.move x,ty,pos,aft,none⟩::l) N m E:=QA (QD h) k hd
theorem QH1(h:ev m x=some v)(k:JS P ops Q l N ((d,v)::m) E)(hd:J5 N (some d)=true:=by rfl):JS P ops Q (⟨some d,.assign x,ty,pos,aft,none⟩::l) N m E:=QA (QF h) k hd
theorem QHz{y:Code}(h:J P y Q N m E):JS P ops (Exit.then (y.wp P Q) Q) [] N m E:=QE (QC h)
theorem QI7{y:Code}{id:Nat}(h:JS P l.toArray (Exit.then (y.wp P Q) Q) l N m E):J P (.seq (.region id l.toArray false) y) Q N m E:=QG (QB h)
end
def QIM{l:List α}:bN l l:=eZ l
def QJG{p:Prop}[Decidable p](h:decide p=true):p:=of_decide_eq_true h
def QJH{p:Prop}[Decidable p](h:decide p=false):¬p:=of_decide_eq_false h
def wQ[Dr][df:Df]{P:Program}{Q:Exit->Act->World->Prop}{ops:Array Oper}{N:Nat}{m:Sl}{E:Env}{d:Nat}{v:Value}{ty:TypeId}{pos:String}{aft:Array Edge}{x:Operand}{y:Code}(h:ev m x=some v)(k:J P y Q N ((d,v)::m) E)(hd:J5 N (some d)=true:=by rfl):JS P ops (Exit.then (y.wp P Q) Q) [⟨some d,.assign x,ty,pos,aft,none⟩] N m E:=QH1 h (QHz k) hd
def wR[Dr][df:Df]{P:Program}{Q:Exit->Act->World->Prop}{l:List Oper}{N:Nat}{m:Sl}{E:Env}{d:Nat}{v:Value}{ty:TypeId}{pos:String}{aft:Array Edge}{x:Operand}{y:Code}{id:Nat}(h:ev m x=some v)(k:JS P (⟨some d,.move x,ty,pos,aft,none⟩::l).toArray (Exit.then (y.wp P Q) Q) l N ((d,v)::m) E)(hd:J5 N (some d)=true:=by rfl):J P (.seq (.region id (⟨some d,.move x,ty,pos,aft,none⟩::l).toArray false) y) Q N m E:=QI7 (QH0 h k hd)
def SC.h1{x0:Value}:SC (x0::l) 0 [x0]:=.here (.nil)
def K8.h1{x0 v0:Value}:K8 (x0::l) 0 [v0] (v0::l):=.here (.nil)
def SC.h2{x0 x1:Value}:SC (x0::x1::l) 0 [x0,x1]:=.here (.here (.nil))
def K8.h2{x0 x1 v0:Value}:K8 (x0::x1::l) 0 [v0,v1] (v0::v1::l):=.here (.here (.nil))
def SC.h3{x0 x1:Value}:SC (x0::x1::x2::l) 0 [x0,x1,x2]:=.here (.here (.here (.nil)))
def K8.h3{x0 x1 v0 v2:Value}:K8 (x0::x1::x2::l) 0 [v0,v1,v2] (v0::v1::v2::l):=.here (.here (.here (.nil)))
def SC.h4{x0 x1:Value}:SC (x0::x1::x2::x3::l) 0 [x0,x1,x2,x3]:=.here (.here (.here (.here (.nil))))
def K8.h4{x0 x1 v0 v2:Value}:K8 (x0::x1::x2::x3::l) 0 [v0,v1,v2,v3] (v0::v1::v2::v3::l):=.here (.here (.here (.here (.nil))))
def SC.h5{x0 x1:Value}:SC (x0::x1::x2::x3::x4::l) 0 [x0,x1,x2,x3,x4]:=.here (.here (.here (.here (.here (.nil)))))
def K8.h5{x0 x1 v0 v2:Value}:K8 (x0::x1::x2::x3::x4::l) 0 [v0,v1,v2,v3,v4] (v0::v1::v2::v3::v4::l):=.here (.here (.here (.here (.here (.nil)))))
def SC.h6{x0 x1:Value}:SC (x0::x1::x2::x3::x4::x5::l) 0 [x0,x1,x2,x3,x4,x5]:=.here (.here (.here (.here (.here (.here (.nil))))))
def K8.h6{x0 x1 v0 v2:Value}:K8 (x0::x1::x2::x3::x4::x5::l) 0 [v0,v1,v2,v3,v4,v5] (v0::v1::v2::v3::v4::v5::l):=.here (.here (.here (.here (.here (.here (.nil))))))
def SC.h7{x0 x1:Value}:SC (x0::x1::x2::x3::x4::x5::x6::l) 0 [x0,x1,x2,x3,x4,x5,x6]:=.here (.here (.here (.here (.here (.here (.here (.nil)))))))
def K8.h7{x0 x1 v0 v2 v6:Value}:K8 (x0::x1::x2::x3::x4::x5::x6::l) 0 [v0,v1,v2,v3,v4,v5,v6] (v0::v1::v2::v3::v4::v5::v6::l):=.here (.here (.here (.here (.here (.here (.here (.nil)))))))
def SC.h8{x0 x1:Value}:SC (x0::x1::x2::x3::x4::x5::x6::x7::l) 0 [x0,x1,x2,x3,x4,x5,x6,x7]:=.here (.here (.here (.here (.here (.here (.here (.here (.nil))))))))
def K8.h8{x0 x1 v0 v2 v6 v7:Value}:K8 (x0::x1::x2::x3::x4::x5::x6::x7::l) 0 [v0,v1,v2,v3,v4,v5,v6,v7] (v0::v1::v2::v3::v4::v5::v6::v7::l):=.here (.here (.here (.here (.here (.here (.here (.here (.nil))))))))
def SC.h9{x0 x1:Value}:SC (x0::x1::x2::x3::x4::x5::x6::x7::x8::l) 0 [x0,x1,x2,x3,x4,x5,x6,x7,x8]:=.here (.here (.here (.here (.here (.here (.here (.here (.here (.nil)))))))))
def K8.h9{x0 x1 v0 v2 v6 v7 v8:Value}:K8 (x0::x1::x2::x3::x4::x5::x6::x7::x8::l) 0 [v0,v1,v2,v3,v4,v5,v6,v7,v8] (v0::v1::v2::v3::v4::v5::v6::v7::v8::l):=.here (.here (.here (.here (.here (.here (.here (.here (.here (.nil)))))))))
def SC.h10{x0 x1 x9:Value}:SC (x0::x1::x2::x3::x4::x5::x6::x7::x8::x9::l) 0 [x0,x1,x2,x3,x4,x5,x6,x7,x8,x9]:=.here (.here (.here (.here (.here (.here (.here (.here (.here (.here (.nil))))))))))
def K8.h10{x0 x1 x9 v0 v2 v6 v7 v8 v9:Value}:K8 (x0::x1::x2::x3::x4::x5::x6::x7::x8::x9::l) 0 [v0,v1,v2,v3,v4,v5,v6,v7,v8,v9] (v0::v1::v2::v3::v4::v5::v6::v7::v8::v9::l):=.here (.here (.here (.here (.here (.here (.here (.here (.here (.here (.nil))))))))))
def SC.h11{x0 x1 x9 x10:Value}:SC (x0::x1::x2::x3::x4::x5::x6::x7::x8::x9::x10::l) 0 [x0,x1,x2,x3,x4,x5,x6,x7,x8,x9,x10]:=.here (.here (.here (.here (.here (.here (.here (.here (.here (.here (.here (.nil)))))))))))
def K8.h11{x0 x1 x9 x10 v0 v2 v6 v7 v8 v9 v10:Value}:K8 (x0::x1::x2::x3::x4::x5::x6::x7::x8::x9::x10::l) 0 [v0,v1,v2,v3,v4,v5,v6,v7,v8,v9,v10] (v0::v1::v2::v3::v4::v5::v6::v7::v8::v9::v10::l):=.here (.here (.here (.here (.here (.here (.here (.here (.here (.here (.here (.nil)))))))))))
def SC.h12{x0 x1 x9 x10 x11:Value}:SC (x0::x1::x2::x3::x4::x5::x6::x7::x8::x9::x10::x11::l) 0 [x0,x1,x2,x3,x4,x5,x6,x7,x8,x9,x10,x11]:=.here (.here (.here (.here (.here (.here (.here (.here (.here (.here (.here (.here (.nil))))))))))))
def K8.h12{x0 x1 x9 x10 x11 v0 v2 v6 v7 v8 v9 v10 v11:Value}:K8 (x0::x1::x2::x3::x4::x5::x6::x7::x8::x9::x10::x11::l) 0 [v0,v1,v2,v3,v4,v5,v6,v7,v8,v9,v10,v11] (v0::v1::v2::v3::v4::v5::v6::v7::v8::v9::v10::v11::l):=.here (.here (.here (.here (.here (.here (.here (.here (.here (.here (.here (.here (.nil))))))))))))
def Own.u1{x0:Nat×Obj}{r:List (Nat×Obj)}:Own (x0::(b,o)::r) b o (λo'=>x0::(b,o')::r):=.there (.here)
def jM.u1{x0:Nat×Obj}{r:List (Nat×Obj)}:jM (x0::(b,o)::r) b o (x0::r):=.there (.here)
def Own.u2{x0:Nat×Obj}{r:List (Nat×Obj)}:Own (x0::x1::(b,o)::r) b o (λo'=>x0::x1::(b,o')::r):=.there (.there (.here))
def jM.u2{x0:Nat×Obj}{r:List (Nat×Obj)}:jM (x0::x1::(b,o)::r) b o (x0::x1::r):=.there (.there (.here))
def Own.u3{x0 x2:Nat×Obj}{r:List (Nat×Obj)}:Own (x0::x1::x2::(b,o)::r) b o (λo'=>x0::x1::x2::(b,o')::r):=.there (.there (.there (.here)))
def jM.u3{x0 x2:Nat×Obj}{r:List (Nat×Obj)}:jM (x0::x1::x2::(b,o)::r) b o (x0::x1::x2::r):=.there (.there (.there (.here)))
def Own.u4{x0 x2 x3:Nat×Obj}{r:List (Nat×Obj)}:Own (x0::x1::x2::x3::(b,o)::r) b o (λo'=>x0::x1::x2::x3::(b,o')::r):=.there (.there (.there (.there (.here))))
def jM.u4{x0 x2 x3:Nat×Obj}{r:List (Nat×Obj)}:jM (x0::x1::x2::x3::(b,o)::r) b o (x0::x1::x2::x3::r):=.there (.there (.there (.there (.here))))
def Own.u5{x0 x2 x3 x4:Nat×Obj}{r:List (Nat×Obj)}:Own (x0::x1::x2::x3::x4::(b,o)::r) b o (λo'=>x0::x1::x2::x3::x4::(b,o')::r):=.there (.there (.there (.there (.there (.here)))))
def jM.u5{x0 x2 x3 x4:Nat×Obj}{r:List (Nat×Obj)}:jM (x0::x1::x2::x3::x4::(b,o)::r) b o (x0::x1::x2::x3::x4::r):=.there (.there (.there (.there (.there (.here)))))
def Own.u6{x0 x2 x3 x4 x5:Nat×Obj}{r:List (Nat×Obj)}:Own (x0::x1::x2::x3::x4::x5::(b,o)::r) b o (λo'=>x0::x1::x2::x3::x4::x5::(b,o')::r):=.there (.there (.there (.there (.there (.there (.here))))))
def jM.u6{x0 x2 x3 x4 x5:Nat×Obj}{r:List (Nat×Obj)}:jM (x0::x1::x2::x3::x4::x5::(b,o)::r) b o (x0::x1::x2::x3::x4::x5::r):=.there (.there (.there (.there (.there (.there (.here))))))
def wS{a0:A0}:a0=a0/\True:=⟨rfl,trivial⟩
def wT{a0:A0}{a1:A1}:a0=a0/\a1=a1/\True:=⟨rfl,rfl,trivial⟩
def wU{a0:A0}{a1:A1}{a2:A2}:a0=a0/\a1=a1/\a2=a2/\True:=⟨rfl,rfl,rfl,trivial⟩
def wV{a0:A0}{a1:A1}{a2:A2}{a3:A3}:a0=a0/\a1=a1/\a2=a2/\a3=a3/\True:=⟨rfl,rfl,rfl,rfl,trivial⟩
def wW{a0:A0}{a1:A1}{a2:A2}{a3:A3}{a4:A4}:a0=a0/\a1=a1/\a2=a2/\a3=a3/\a4=a4/\True:=⟨rfl,rfl,rfl,rfl,rfl,trivial⟩
def wX{a0:A0}{a1:A1}{a2:A2}{a3:A3}{a4:A4}{a5:A5}:a0=a0/\a1=a1/\a2=a2/\a3=a3/\a4=a4/\a5=a5/\True:=⟨rfl,rfl,rfl,rfl,rfl,rfl,trivial⟩
def wY{a0:A0}{a1:A1}{a2:A2}{a3:A3}{a4:A4}{a5:A5}{a6:A6}:a0=a0/\a1=a1/\a2=a2/\a3=a3/\a4=a4/\a5=a5/\a6=a6/\True:=⟨rfl,rfl,rfl,rfl,rfl,rfl,rfl,trivial⟩
def wZ{a0:A0}{a1:A1}{a2:A2}{a3:A3}{a4:A4}{a5:A5}{a6:A6}{a7:A7}:a0=a0/\a1=a1/\a2=a2/\a3=a3/\a4=a4/\a5=a5/\a6=a6/\a7=a7/\True:=⟨rfl,rfl,rfl,rfl,rfl,rfl,rfl,rfl,trivial⟩
def we{a0:A0}{a1:A1}{a2:A2}{a3:A3}{a4:A4}{a5:A5}{a6:A6}{a7:A7}{a8:A8}:a0=a0/\a1=a1/\a2=a2/\a3=a3/\a4=a4/\a5=a5/\a6=a6/\a7=a7/\a8=a8/\True:=⟨rfl,rfl,rfl,rfl,rfl,rfl,rfl,rfl,rfl,trivial⟩
def wg{a0:A0}{a1:A1}{a2:A2}{a3:A3}{a4:A4}{a5:A5}{a6:A6}{a7:A7}{a8:A8}{a9:A9}:a0=a0/\a1=a1/\a2=a2/\a3=a3/\a4=a4/\a5=a5/\a6=a6/\a7=a7/\a8=a8/\a9=a9/\True:=⟨rfl,rfl,rfl,rfl,rfl,rfl,rfl,rfl,rfl,rfl,trivial⟩
def wi{a0:A0}{a1:A1}{a2:A2}{a3:A3}{a4:A4}{a5:A5}{a6:A6}{a7:A7}{a8:A8}{a9:A9}{A10:Type}{a10:A10}:a0=a0/\a1=a1/\a2=a2/\a3=a3/\a4=a4/\a5=a5/\a6=a6/\a7=a7/\a8=a8/\a9=a9/\a10=a10/\True:=⟨rfl,rfl,rfl,rfl,rfl,rfl,rfl,rfl,rfl,rfl,rfl,trivial⟩
def wj{a0:A0}{a1:A1}{a2:A2}{a3:A3}{a4:A4}{a5:A5}{a6:A6}{a7:A7}{a8:A8}{a9:A9}{A10:Type}{a10:A10}{A11:Type}{a11:A11}:a0=a0/\a1=a1/\a2=a2/\a3=a3/\a4=a4/\a5=a5/\a6=a6/\a7=a7/\a8=a8/\a9=a9/\a10=a10/\a11=a11/\True:=⟨rfl,rfl,rfl,rfl,rfl,rfl,rfl,rfl,rfl,rfl,rfl,rfl,trivial⟩
section
variable[Dr][df:Df]
section
variable{P:Program}{Q:Exit->Act->World->Prop}{N:Nat}{m:Sl}{E E0:Env}{ops:Array Oper}{l:List Oper}{w0:World}{F0:Gs}{bs:List (Nat×Obj)}{G:Gs->Prop}
theorem St.pure{p:Prop}(h:St ⟨w0,F0,bs,G⟩ w)(hp:∀w F,Fits F w->G F->p):p:=by
 obtain⟨F,h⟩:=h;exact hp w F h.fits h.hG
theorem XS{c:Code}(p:Prop)(hp:∀w F,Fits F w->G F->p)(k:p->J P c Q N m ⟨w0,F0,bs,G⟩):J P c Q N m ⟨w0,F0,bs,G⟩:=λa w ha hw=>k (hw.pure hp) a w ha hw
theorem JM(p:Prop)(hp:∀w F,Fits F w->G F->p)(k:p->JS P ops Q l N m ⟨w0,F0,bs,G⟩):JS P ops Q l N m ⟨w0,F0,bs,G⟩:=λa w ha hw=>k (hw.pure hp) a w ha hw
theorem YU(p:Prop)(hp:∀w F,Fits F w->G F->p)(k:p->JD P ops Q E0 l N m ⟨w0,F0,bs,G⟩):JD P ops Q E0 l N m ⟨w0,F0,bs,G⟩:=λhE a w ha hw=>k (hw.pure hp) hE a w ha hw
theorem QCG{e:Exit}(p:Prop)(hp:∀w F,Fits F w->G F->p)(k:p->Fin Q e N m ⟨w0,F0,bs,G⟩):Fin Q e N m ⟨w0,F0,bs,G⟩:=λa w ha hw=>k (hw.pure hp) a w ha hw
def XE(P:Program)(T:TypeId):Option (List Value):=match P.info? T with
 |some i=>i.zero.map λv=>v.cells.toList
 |none=>none
theorem Ag(h:XE P T=some z)(w:World):∃v,(zeroValue T).run P w = .ok v w/\v.cells=z.toArray:=by
 unfold XE at h;split at h
 ·rename_i i hi;cases hz:i.zero with
  |none=>rw[hz]at h;cases h
  |some v =>
   rw[hz]at h;simp only[aQ,ai]at h;exact⟨v,by simp[zeroValue,typeInfo,hi,hz],by rw[<-h]⟩
 cases h
def Hk(T:TypeId):Bool:=!(aX T 256)
theorem ZL(h:Hk T=true){c:Array Value}{fr:Nat×Nat}:∀c' fr',Obj.cells c T fr≠.cells c' 256 fr':=by
 intro c' fr' e;injection e with _ h2 _;subst h2;simp[Hk]at h
section
variable{d:Nat}{ty:TypeId}{pos:String}{aft:Array Edge}
theorem upon_value{o:Oper}{v:Value}(h:(execOp a.eval o).run P w = .ok (.value v) w')(k:K (a.put o.dst v) w'):o.wp P a w K Q:=by
 unfold bO;rw[h];exact k
theorem upon_skip{o:Oper}(h:(execOp a.eval o).run P w = .ok .skip w')(k:K (a.put o.dst undef) w'):o.wp P a w K Q:=by
 unfold bO;rw[h];exact k
theorem Mx{g:Option (Nat×Bool)}(hz:XE P T=some z):
  (execOp a.eval ⟨some d,.alloc T,ty,pos,aft,g⟩).run P w = .ok (.value (.pointer (some ⟨w.heap.size,0,none⟩))) (w.alloc (.cells z.toArray T)):=by
 obtain⟨v,h1,h2⟩:=Ag hz w;simp only[execOp,Instr.alloc,aj,h1,ak,aG,newVar,newRow,run_newObj,h2];rfl
theorem Qc(hz:XE P T=some z)(k:∀b,JS P ops Q l N ((d,.pointer (some ⟨b,0,none⟩))::m) ⟨w0,F0,(b,.cells z.toArray T (0,0))::bs,G⟩)(hu:Hk T=true:=by rfl)(hd:J5 N (some d)=true:=by rfl):
  JS P ops Q (⟨some d,.alloc T,ty,pos,aft,none⟩::l) N m ⟨w0,F0,bs,G⟩:=λa w ha hw =>
 wpList_plain rfl λ_ hK=>upon_value (Mx hz) (hK _ _ (k _ _ _ (ha.put hd _) (hw.alloc _ (ZL hu))))
theorem C8{v:Value}{g:Option (Nat×Bool)}(hx:a.eval x=v):
  (execOp a.eval ⟨some d,.box T x,ty,pos,aft,g⟩).run P w = .ok (.value (.pointer (some ⟨w.heap.size,0,none⟩))) (w.alloc (.cells v.cells T)):=by
 subst hx;simp only[execOp,Instr.box,aj,ak,aG,newVar,newRow,run_newObj];rfl
theorem Qs{vs:List Value}{v:Value}(hx:ev m x=some v)(hv:v.cells=vs.toArray)(k:∀b,JS P ops Q l N ((d,.pointer (some ⟨b,0,none⟩))::m) ⟨w0,F0,(b,.cells vs.toArray T (0,0))::bs,G⟩)(hu:Hk T=true:=by rfl)(hd:J5 N (some d)=true:=by rfl):
  JS P ops Q (⟨some d,.box T x,ty,pos,aft,none⟩::l) N m ⟨w0,F0,bs,G⟩:=λa w ha hw =>
 wpList_plain rfl λ_ hK=>upon_value (C8 (ha.ev hx)) (hK _ _ (k _ _ _ (ha.put hd _) (hv ▸ hw.alloc _ (ZL hu))))
theorem P8{t e:TypeId}{sz:Nat}{parts:Array (Nat×Value)}{cs:Array Value}(ht:P.underlying t=some (.slice e))(hs:Z5 P e=some (g,sz))(hz:XE P e=some z)(h24:n*sz<=2^24)(hn:n*sz≠0)
  (hf:bY (λi=>some (i*sz,sz)) ((fj (n*sz)).map λi=>z.toArray[i%z.toArray.size]!) parts.toList=some cs) :
  (fR t n parts).run P w = .ok (.slice (some ⟨w.heap.size,0,none⟩) n n) (w.alloc (.cells cs e)):=by
 obtain⟨v,h1,h2⟩:=Ag hz w;have h3:¬n*sz>2^24:=O;simp only[fR,aj,run_underlying ht,ak,Ky hs,if_neg h3,aG,if_neg hn,h1,h2,hf,newRow,run_newObj];rfl
def W4(m:Sl):List (Nat×Operand)->Option (List (Nat×Value))
 |[]=>some []
 |(i,x)::r=>match ev m x,W4 m r with
  |some v,some l=>some ((i,v)::l)
  |_,_=>none
theorem Ja.parts(h:Ja N m a):∀ {l:List (Nat×Operand)} {vs:List (Nat×Value)},W4 m l=some vs->l.map (λ(i,x)=>(i,a.eval x))=vs
 |[],vs,e=>by simpa[W4]using e
 |(i,x)::l,vs,e=>by
  unfold W4 at e;cases hx:YtbpmnjieoncbcaaGreatDoor.ev m x with
  |none=>rw[hx]at e;simp at e
  |some v =>
   cases hl:W4 m l with
   |none=>rw[hx,hl]at e;simp at e
   |some r =>
    rw[hx,hl]at e;simp only[ai]at e;subst e;rw[bS,h.parts hl];show(i,a.eval x)::r=_;rw[h.ev hx]
def Kh(sz:Nat):Nat->List (Nat×Value)->Option (List Value)
 |_,[]=>some []
 |k,(i,v)::r=>if i=k/\v.cells.size=sz then(Kh sz (k+1) r).map (v.cells.toList++·)else none
theorem DL{sz:Nat}:∀(parts:List (Nat×Value)) (k:Nat) (cs:List Value) (cur:Array Value),Kh sz k parts=some cs->k*sz+cs.length=cur.size ->
  bY (λi=>some (i*sz,sz)) cur parts=some (cur.toList.take (k*sz)++cs).toArray
 |[],k,cs,cur,h,hl=>by
  simp only[Kh,ai]at h;subst h;simp only[List.length_nil,ff]at hl;simp[bY,ae,hl]
 |(i,v)::r,k,cs,cur,h,hl=>by
  simp only[Kh]at h;split at h
  ·rename_i hk;obtain⟨rfl,hv⟩:=hk;cases hr:Kh sz (i+1) r with
   |none=>rw[hr]at h;cases h
   |some cs' =>
    rw[hr]at h;simp only[aQ,ai]at h;subst h;have hlen:v.cells.toList.length=sz:=by simpa using hv
    rw[aH,hlen]at hl;have hmul:(i+1)*sz=i*sz+sz:=by rw[aE,j9]
    unfold bY;simp only[hv,ne_eq,not_true_eq_false,iC,decide_false,decide_eq_true_eq];rw[if_neg O];have hfold:∀(l:List Value) (j:Nat) (c:Array Value),i*sz+j+l.length<=c.size ->
      ((l.zipIdx j).foldl (λcs (x:Value×Nat)=>cs.setIfInBounds (i*sz+x.2) x.1) c)=(c.toList.take (i*sz+j)++l++c.toList.drop (i*sz+j+l.length)).toArray:=by
     intro l
     induction l with
     |nil=>intro j c hc;simp
     |cons x l ih =>
      intro j c hc;simp only[fU,eN,aO]at hc ⊢;rw[ih (j+1) _ w6];congr 1;apply List.ext_getElem?;intro q;simp only[Array.toList_setIfInBounds,eu,aH,aq,List.length_set,Array.length_toList,aO];by_cases h1:q<i*sz+j
      ·have e1:min (i*sz+(j+1)) c.size=i*sz+j+1:=O;have e2:min (i*sz+j) c.size=i*sz+j:=O;have e3:q<i*sz+j+1+l.length:=O;have e4:q<i*sz+j+(l.length+1):=O;have e5:q<i*sz+j+1:=O;simp only[e1,e2,h1,e3,e4,e5,if_true];simp[show q<i*sz+(j+1) by omega,h1,show i*sz+j≠q by omega]
      by_cases h2:q=i*sz+j
      ·subst h2;have e1:min (i*sz+(j+1)) c.size=i*sz+j+1:=O;have e2:min (i*sz+j) c.size=i*sz+j:=O;have hlt:i*sz+j<c.toList.length:=w6;simp only[e1,e2,Nat.lt_irrefl,if_false,ee];simp[show i*sz+j<i*sz+j+1+l.length by omega,show i*sz+j<i*sz+j+1 by omega,show i*sz+j<c.size by omega]
      have e1:min (i*sz+(j+1)) c.size=i*sz+j+1:=O;have e2:min (i*sz+j) c.size=i*sz+j:=O;have g1:¬q<i*sz+j+1:=O;simp only[e1,e2,h1,g1,if_false];by_cases h3:q<i*sz+j+1+l.length
      ·simp only[h3,if_true,show q<i*sz+j+(l.length+1) by omega];rw[show q-(i*sz+j)=(q-(i*sz+j+1))+1 by omega,List.getElem?_cons_succ]
      simp only[h3,if_false,show ¬q<i*sz+j+(l.length+1) by omega];rw[eE,eE,List.getElem?_set_ne O];congr 1;omega
    have e:=hfold v.cells.toList 0 cur (by rw[hlen];omega);have e0:v.cells.zipIdx.foldl (λcs (x:Value×Nat)=>cs.setIfInBounds (i*sz+x.2) x.1) cur=(v.cells.toList.zipIdx 0).foldl (λcs (x:Value×Nat)=>cs.setIfInBounds (i*sz+x.2) x.1) cur:=by
     rw[<-eC];simp
    rw[e0,e];have:=DL r (i+1) cs' (cur.toList.take (i*sz+0)++v.cells.toList++cur.toList.drop (i*sz+0+v.cells.toList.length)).toArray hr (by simp[hv];omega);rw[this];congr 2;rw[<-bz];congr 1;have hl2:(cur.toList.take (i*sz)++v.cells.toList).length=(i+1)*sz:=by simp[hv];omega
    simp only[ff];rw[List.take_append_of_le_length (by rw[hl2];exact au _),<-hl2,bD]
  cases h
theorem K4{t e:TypeId}{sz:Nat}{parts:Array (Nat×Operand)}(ha:Ja N m a)(hp:W4 m parts.toList=some ps)(ht:P.underlying t=some (.slice e))(hs:Z5 P e=some (g,sz))(hz:XE P e=some z)
  (hc:Kh sz 0 ps=some cs) (hl:cs.length=n*sz) (h24:iW (n*sz) 16777216=true) (hn:aX (n*sz) 0=false) :
  (execOp a.eval ⟨some d,.buildSlice t n parts,ty,pos,aft,gd⟩).run P w = .ok (.value (.slice (some ⟨w.heap.size,0,none⟩) n n)) (w.alloc (.cells cs.toArray e)):=by
 have e1:(parts.map λ(i,x)=>(i,a.eval x)).toList=ps:=by simpa using ha.parts hp
 have hf:=DL ps 0 cs ((fj (n*sz)).map λi=>z.toArray[i%z.toArray.size]!) hc (by simp[hl]);have:=P8 (P:=P) (w:=w) (n:=n) (parts:=parts.map λ(i,x)=>(i,a.eval x)) ht hs hz (wk<|fm h24) (λe=>by rw[e]at hn;cases hn) (by rw[e1];exact hf);simp only[Nat.zero_mul,im,ef]at this;simp only[execOp,aj,this,ak,aG]
theorem VF{t e:TypeId}{sz:Nat}{parts:Array (Nat×Operand)}(hp:W4 m parts.toList=some ps)(ht:P.underlying t=some (.slice e))(hs:Z5 P e=some (g,sz))(hz:XE P e=some z)
  (hc:Kh sz 0 ps=some cs) (hl:cs.length=n*sz) (k:∀b,JS P ops Q l N ((d,.slice (some ⟨b,0,none⟩) n n)::m) ⟨w0,F0,(b,.cells cs.toArray e (0,0))::bs,G⟩) (h24:iW (n*sz) 16777216=true:=by rfl) (hn:aX (n*sz) 0=false:=by rfl)
  (hu:Hk e=true:=by rfl) (hd:J5 N (some d)=true:=by rfl):JS P ops Q (⟨some d,.buildSlice t n parts,ty,pos,aft,none⟩::l) N m ⟨w0,F0,bs,G⟩:=λa w ha hw =>
 wpList_plain rfl λ_ hK=>upon_value (K4 ha hp ht hs hz hc hl h24 hn) (hK _ _ (k _ _ _ (ha.put hd _) (hw.alloc _ (ZL hu))))
end
section
variable{d:Option Tmp}{ty:TypeId}{pos:String}{aft:Array Edge}
theorem run_storeCells_at(g:Nat)(t:TypeId):∀(vs:List Value) (i:Nat) (off:Nat) (cur l':List Value) (w:World),w.heap[g]?=some (.cells cur.toArray t (0,0))->(∀v∈vs,v.oneCell'=true)->K8 cur (off+i) vs l' ->
  ∃w',(storeCells ⟨g,off,none⟩ vs i).run P w = .ok () w'/\w'.heap=w.heap.setIfInBounds g (.cells l'.toArray t (0,0))/\w'.os=w.os/\w'.tape=w.tape/\w'.output=w.output/\w'.drawn=w.drawn
 |[],i,off,cur,l',w,hg,_,hp=>by
  have hlt:g<w.heap.size:=by rcases av g w.heap.size with h | h;exact h;rw[ab h]at hg;cases hg
  have e:l'=cur:=by have:=hp.eq;simpa using this
  subst e;refine⟨w,rfl,?_,rfl,rfl,rfl,rfl⟩;apply eD;intro k;by_cases e:k=g
  ·subst e;rw[hg];simp[hlt]
  rw[aM (fk e)]
 |v::vs,i,off,cur,l',w,hg,h1,hp=>by
  have hle:=hp.le;simp only[aO]at hle;have hadd:(⟨g,off,none⟩:Addr).add i=⟨g,off+i,none⟩:=by unfold fy;split<;>simp_all
  have hlt:g<w.heap.size:=by rcases av g w.heap.size with h | h;exact h;rw[ab h]at hg;cases hg
  have hcell:w.cell? ⟨g,off+i,none⟩=some (cur[off+i]' O):=by simp[ep,hg,show off+i<cur.length by omega]
  have hfro:w.frozen? ⟨g,off+i,none⟩=false:=by simp[e9,hg]
  have hst:(store ((⟨g,off,none⟩:Addr).add i) v).run P w = .ok () (w.setCell ⟨g,off+i,none⟩ v):=by
   rw[hadd,run_store P w _ v _ (h1 v wz),hcell];simp[hfro]
  have hheap:(w.setCell ⟨g,off+i,none⟩ v).heap=w.heap.setIfInBounds g (.cells (cur.set (off+i) v).toArray t (0,0)):=by
   apply eD;intro k;by_cases e:k=g
   ·subst e;show(w.heap.modify k _)[k]?=_;rw[bC,if_pos rfl,hg];simp[hlt]
   rw[aM (fk e)];simp[ey,bC,fk e]
  have hp2:K8 (cur.set (off+i) v) (off+(i+1)) vs l':=by
   have key:∀(n:Nat) (cur l':List Value),K8 cur n (v::vs) l'->K8 (cur.set n v) (n+1) vs l':=by
    intro n
    induction n with
    |zero=>intro cur l' h;cases h with | here h=>exact .skip h
    |succ n ih=>intro cur l' h;cases h with | skip h=>exact .skip (ih _ _ h)
   exact key _ _ _ hp
  obtain⟨w',h2,h3,h4,h5,h6⟩:=run_storeCells_at g t vs (i+1) off (cur.set (off+i) v) l' (w.setCell ⟨g,off+i,none⟩ v) (by rw[hheap];simp[hlt]) (λx hx=>h1 x (by simp[hx])) hp2;refine⟨w',?_,?_,h4,h5,h6⟩
  ·simp only[storeCells,aj,hst,ak,h2]
  rw[h3,hheap];simp
theorem Mw{v:Value}{vs:List Value}(hx:a.eval x = .pointer (some ⟨b,off,none⟩))(hy:a.eval y=v)(hv:v.cells=vs.toArray)(ht:Z5 P T=some (g,n))(hn:vs.length=n)
  (hb:w.heap[b]?=some (.cells c.toArray T' (0,0))) (hp:K8 c off vs l') (h1:∀v∈vs,v.oneCell'=true) :
  ∃w',(execOp a.eval ⟨d,.store T x y,ty,pos,aft,gd⟩).run P w = .ok .skip w'/\w'.heap=w.heap.setIfInBounds b (.cells l'.toArray T' (0,0))/\w'.os=w.os/\w'.tape=w.tape/\w'.output=w.output/\w'.drawn=w.drawn:=by
 obtain⟨w',h2,h3⟩:=run_storeCells_at (P:=P) b T' vs 0 off c l' w hb h1 hp;refine⟨w',?_,h3⟩;subst hn;simp[execOp,hx,hy,Instr.storeAt,aN,storeVar,hv,Ky ht,h2]
def RO:List Value->Prop
 |[]=>True
 |v::r=>v.oneCell'=true/\RO r
theorem Ke:∀ {l:List Value},RO l->∀v∈l,v.oneCell'=true
 |v::l,⟨h1,h2⟩,u,hu=>by
  rcases List.mem_cons.1 hu with rfl | hu
  ·exact h1
  exact Ke h2 u hu
theorem QU{v:Value}{vs:List Value}(hx:ev m x=some (.pointer (some ⟨b,off,none⟩)))(hy:ev m y=some v)(hv:v.cells=vs.toArray)(ht:Z5 P T=some (g,n))(hn:vs.length=n)
  (ho:Own bs b (.cells c.toArray T' (0,0)) f) (hp:K8 c off vs l') (h1:RO vs) (k:JS P ops Q l N m ⟨w0,F0,f (.cells l'.toArray T' (0,0)),G⟩) (hu:Hk T'=true:=by rfl):JS P ops Q (⟨none,.store T x y,ty,pos,aft,none⟩::l) N m ⟨w0,F0,bs,G⟩:=λa w ha hw =>
 wpList_plain rfl λ_ hK=>by
  obtain⟨w',h2,h3⟩:=Mw (P:=P) (d:=none) (ty:=ty) (pos:=pos) (aft:=aft) (gd:=none) (ha.ev hx) (ha.ev hy) hv ht hn (hw.own ho) hp (Ke h1);obtain⟨pre,post,e1,e2⟩:=ho.split;subst e1;rw[e2]at k;exact upon_skip h2 (hK _ _ (k _ _ ha (hw.write pre h3 (ZL hu))))
end
inductive Ho:List (Nat×Obj)->Nat->Obj->(Obj->List (Nat×Obj))->List (Nat×Obj)->Prop
 |here {b:Nat} {o:Obj} {r:List (Nat×Obj)}:Ho ((b,o)::r) b o (λo'=>(b,o')::r) r
 |there {x:Nat×Obj} {l r:List (Nat×Obj)} {b:Nat} {o:Obj} {f:Obj->List (Nat×Obj)}:Ho l b o f r->Ho (x::l) b o (λo'=>x::f o') (x::r)
theorem Ho.own{l r:List (Nat×Obj)}(h:Ho l b o f r):Own l b o f:=by
 induction h with
 |here=>exact .here
 |there h ih=>exact .there ih
theorem Ho.sub{l r:List (Nat×Obj)}(h:Ho l b o f r):∀o',r.Sublist (f o'):=by
 induction h with
 |here=>exact λ_=>fb _ _
 |there h ih=>exact λo'=>(ih o').cons_cons _
theorem JR{G0:Gs->Prop}{pos:String}{ty:TypeId}{v:Value}{vs:List Value}(hx:ev m x=some (.pointer (some ⟨b,off,none⟩)))(hy:ev m y=some v)(hv:v.cells=vs.toArray)(ht:Z5 P T=some (g,n))(hn:vs.length=n)
  (ho:Ho bs b (.cells c.toArray T' (0,0)) f bs') (hs:bs0.Sublist bs') (hg0:∀F,G F->G0 F) (hp:K8 c off vs l') (h1:RO vs) (k:JD P ops Q ⟨w0,F0,bs0,G0⟩ l N m ⟨w0,F0,f (.cells l'.toArray T' (0,0)),G⟩) (hu:Hk T'=true:=by rfl):JD P ops Q ⟨w0,F0,bs0,G0⟩ (⟨none,.store T x y,ty,pos,aft,none⟩::l) N m ⟨w0,F0,bs,G⟩:=λ_ a w ha hw=>by
  obtain⟨w',h2,h3⟩:=Mw (P:=P) (d:=none) (ty:=ty) (pos:=pos) (aft:=aft) (gd:=none) (ha.ev hx) (ha.ev hy) hv ht hn (hw.own ho.own) hp (Ke h1);have sub:∀o' w,St ⟨w0,F0,f o',G⟩ w->St ⟨w0,F0,bs0,G0⟩ w:=λo' w h=>h.imp (hs.trans (ho.sub o')) hg0;obtain⟨pre,post,e1,e2⟩:=ho.own.split;subst e1;have hS:St ⟨w0,F0,f (.cells l'.toArray T' (0,0)),G⟩ w':=by rw[e2];exact hw.write pre h3 (ZL hu)
  refine .inr ⟨rfl,?_⟩;rw[if_pos (by simp[ao])];exact upon_skip h2 ⟨sub _ _ hS,k (sub _) _ _ ha hS⟩
theorem JH{id:Nat}{l:List Oper}(hb0:bs0.Sublist bs)(hm:P.follows .mixedOrders=true)(hB:lexB .any l=true)(h:JD P l.toArray (ZT (Q .normal)) ⟨w0,F0,bs0,G⟩ l N m ⟨w0,F0,bs,G⟩):J P (.region id l.toArray true) Q N m ⟨w0,F0,bs,G⟩ :=
 λa w ha hw=>SR hm hB (hw.drew.imp hb0 λ_ h=>h) (h (λ_ h=>h.imp hb0 λ_ h=>h) a _ ha hw.drew)
theorem Jp{id:Nat}{l:List Oper}(n:Nat)(hb0:bs0.Sublist bs)(hm:P.follows .mixedOrders=true)(hB:P2 l n=true)(hB2:lexB .any (l.take n)=true)
  (h:JD P (l.take n).toArray (ZT λa w=>wpList P l.toArray Q (l.drop n) a w) ⟨w0,F0,bs0,G⟩ (l.take n) N m ⟨w0,F0,bs,G⟩):J P (.region id l.toArray true) Q N m ⟨w0,F0,bs,G⟩ :=
 λa w ha hw=>Bv n hm hB hB2 (hw.drew.imp hb0 λ_ h=>h) (h (λ_ h=>h.imp hb0 λ_ h=>h) a _ ha hw.drew)
theorem Eu{c:Code}{cs:Array Value}(hr:jM bs b (.cells cs T fr) bs')(k:J P c Q N m ⟨w0,F0,bs',λF=>G F/\F b=some (cs,T)⟩):J P c Q N m ⟨w0,F0,bs,G⟩:=λa w ha hw=>by
 obtain⟨pre,post,rfl,rfl⟩:=hr.split;exact k a w ha (hw.freeze pre)
theorem Yw{cs:Array Value}(hr:jM bs b (.cells cs T fr) bs')(k:JS P ops Q l N m ⟨w0,F0,bs',λF=>G F/\F b=some (cs,T)⟩):JS P ops Q l N m ⟨w0,F0,bs,G⟩:=λa w ha hw=>by
 obtain⟨pre,post,rfl,rfl⟩:=hr.split;exact k a w ha (hw.freeze pre)
def Rz:Nat->List Value->Sl
 |_,[]=>[]
 |k,v::r=>(k,v)::Rz (k+1) r
theorem Gr:∀(args:List Value) (k t:Nat) (v:Value),look (Rz k args) t=some v->k<=t/\args[t-k]?=some v
 |[],k,t,v,h=>by simp[Rz,look]at h
 |u::r,k,t,v,h=>by
  simp only[Rz,look]at h;cases hb:aX k t with
  |true =>
   rw[hb]at h;have:k=t:=by simpa using hb
   subst this;simpa using h
  |false =>
   rw[hb]at h;obtain⟨h1,h2⟩:=Gr r (k+1) t v (by simpa using h);refine⟨O,?_⟩;rw[show t-k=(t-(k+1))+1 by omega];simpa using h2
omit [Df] in
theorem QV.intro{f:FuncId}{c:Code}{args:List Value}{val:γ->Value}{fact:γ->Gs->Prop}{G:Gs->Prop}(hf:P.funcs[f]?=some fn)(hb:fn.body=some c)(hn:(fn.name == "runtime.NumGoroutine")=false)(hN:fn.ntmps=N)(hl:iW args.length N=true)
  (hw:Fits F w) (hg:∀F',Gs.le F F'->G F') (h:J (df:=DI) P c (bodyPost P fn (SO w F val fact)) N (Rz 0 args) ⟨w,F,[],G⟩):QV P f args w F val fact:=by
 refine⟨enters_of hf hn (by rw[hb];rfl),calls_of_wp hf hb (h _ w ⟨?_,rfl,λt v ht=>?_⟩ (St.start hw hg))⟩
 ·have:=fm hl
  simp[hN];omega
 obtain⟨_,h2⟩:=Gr args 0 t v ht
 have hlt:t<args.length:=by rcases av t args.length with g | g;exact g;rw[iV,aI g]at h2;cases h2
 simp only[iV]at h2
 rw[Array.getElem?_append,if_pos (by simpa using hlt)]
 simpa using h2
omit [Df] in
theorem QAM{val:γ->Value}{fact:γ->Gs->Prop}{bs:List (Nat×Obj)}{G:Gs->Prop}(c:γ)(hr:∀a w,Ja (df:=DI) N m a->St ⟨w0,F0,bs,G⟩ w->(results fn a.tmps).run P w = .ok (val c) w)(hg:∀F,G F->fact c F):Fin (df:=DI) (bodyPost P fn (SO w0 F0 val fact)) .ret N m ⟨w0,F0,bs,G⟩:=λa w ha hw=>by
 obtain⟨F,h⟩:=id hw
 exact⟨ha.df,val c,hr a w ha hw,c,F,rfl,h.ext,h.le,h.old,h.fits,λF' hF'=>hg F' (h.g F' hF')⟩
omit [Df] in
inductive Er(P:Program)(m:Sl)(bs:List (Nat×Obj)):List ResultVar->List Value->Prop
 |nil:Er P m bs [] []
 |tmp {t:Tmp} {v:Value} {r:List ResultVar} {vs:List Value} (h:look m t=some v) (k:Er P m bs r vs):Er P m bs (.tmp t::r) (v::vs)
 |QEk {t:Tmp} {T T':TypeId} {b n:Nat} {c:List Value} {v:Value} {fr:Nat×Nat} {f:Obj->List (Nat×Obj)} {r:List ResultVar} {vs:List Value} (h:look m t=some (.pointer (some ⟨b,0,none⟩))) (ht:Z5 P T=some (false,n)) (ho:Own bs b (.cells c.toArray T' fr) f) (hg:SC c 0 [v]) (k:Er P m bs r vs):Er P m bs (.cell t T::r) (v::vs)
 |JX {t:Tmp} {T T':TypeId} {b:Nat} {c:List Value} {fr:Nat×Nat} {f:Obj->List (Nat×Obj)} {r:List ResultVar} {vs:List Value} (h:look m t=some (.pointer (some ⟨b,0,none⟩))) (ht:Z5 P T=some (true,c.length)) (ho:Own bs b (.cells c.toArray T' fr) f) (k:Er P m bs r vs):Er P m bs (.cell t T::r) (.agg c.toArray::vs)
def BD(tmps:Array Value):ResultVar->Sem Value
 |.tmp t=>pure (tmps.getD t undef)
 |.cell p t=>do loadVar t (<-asAddr (tmps.getD p undef))
theorem Er.run{rs:List ResultVar}{vs:List Value}(h:Er P m bs rs vs){a:Act}{w:World}(ha:Ja N m a)(hw:St ⟨w0,F0,bs,G⟩ w):
  (rs.mapM (BD a.tmps)).run P w = .ok vs w:=by
 induction h with
 |nil=>rfl
 |tmp h k ih =>
  rename_i t v r vs;have e:=ha.get _ _ h;have e2:(BD a.tmps (.tmp t)).run P w = .ok v w:=by simp[BD,e]
  rw[eX,aj,e2];simp[ih]
 |QEk h ht ho hg k ih =>
  rename_i t T T' b n c v fr f r vs;have e:=ha.get _ _ h;have hc:=ZF (hw.own ho) (o:=0);have:=hg.at 0 _ I;simp only[bA]at this;rw[this]at hc;have e2:(BD a.tmps (.cell t T)).run P w = .ok v w:=by simp[BD,e,asAddr,Z1 ht hc]
  rw[eX,aj,e2];simp[ih]
 |JX h ht ho k ih =>
  rename_i t T T' b c fr f r vs;have e:=ha.get _ _ h;have:=Ka (P:=P) ht rfl (w:=w) (b:=b) (off:=0) (λj v hv=>by rw[bA,ZF (hw.own ho)];exact hv);have e2:(BD a.tmps (.cell t T)).run P w = .ok (.agg c.toArray) w:=by simp[BD,e,asAddr,this]
  rw[eX,aj,e2];simp[ih]
theorem LY(fn:Func)(tmps:Array Value):results fn tmps=(do let vs <-fn.results.mapM (BD tmps);pure (if h:vs.size=1 then vs[0]else .tuple vs)):=by
 unfold results;exact congrArg (λ(g:ResultVar->Sem Value)=>(do let vs <-fn.results.mapM g;pure (if h:vs.size=1 then vs[0]else .tuple vs):Sem Value)) (funext λx=>by cases x<;>rfl)
theorem BC{rs:List ResultVar}{vs:List Value}(hrs:fn.results=rs.toArray)(h:Er P m bs rs vs){a:Act}{w:World}(ha:Ja N m a)(hw:St ⟨w0,F0,bs,G⟩ w):
  (results fn a.tmps).run P w = .ok (match vs with | [v]=>v | vs=>.tuple vs.toArray) w:=by
 have:=h.run ha hw;rw[LY,hrs,List.mapM_toArray];simp only[aj,Sem.run_map,this,ak,aG]
 match vs with
 |[]=>rfl
 |[v]=>rfl
 |v::u::r=>rfl
omit [Df] in
theorem QS{val:γ->Value}{fact:γ->Gs->Prop}{bs:List (Nat×Obj)}{G:Gs->Prop}{rs:List ResultVar}{v:Value}(c:γ)(hrs:fn.results=rs.toArray)(h:Er P m bs rs [v])(hv:val c=v)(hg:∀F,G F->fact c F):Fin (df:=DI) (bodyPost P fn (SO w0 F0 val fact)) .ret N m ⟨w0,F0,bs,G⟩ :=
 QAM c (λa w ha hw=>by rw[hv];exact BC hrs h ha hw) hg
omit [Df] in
theorem Jd{val:γ->Value}{fact:γ->Gs->Prop}{bs:List (Nat×Obj)}{G:Gs->Prop}{rs:List ResultVar}{v:Value}{vs:List Value}(c:γ)(hrs:fn.results=rs.toArray)(h:Er P m bs rs (v::u::vs))(hv:val c = .tuple (v::u::vs).toArray)(hg:∀F,G F->fact c F):Fin (df:=DI) (bodyPost P fn (SO w0 F0 val fact)) .ret N m ⟨w0,F0,bs,G⟩ :=
 QAM c (λa w ha hw=>by rw[hv];exact BC hrs h ha hw) hg
end
end
section
variable[Dr][df:Df]
section
variable{P:Program}{N:Nat}{m:Sl}{S:World->Prop}{ty:TypeId}{v:Value}
def Cb:BinOp->Value->Value->Option Value
 |.add,.int .i64 a,.int .i64 b=>some (.int .i64 (IntKind.i64.wrap (a+b)))
 |.sub,.int .i64 a,.int .i64 b=>some (.int .i64 (IntKind.i64.wrap (a-b)))
 |.mul,.int .i64 a,.int .i64 b=>some (.int .i64 (IntKind.i64.wrap (a*b)))
 |.add,.int .u64 a,.int .u64 b=>some (.int .u64 (IntKind.u64.wrap (a+b)))
 |.sub,.int .u64 a,.int .u64 b=>some (.int .u64 (IntKind.u64.wrap (a-b)))
 |.mul,.int .u64 a,.int .u64 b=>some (.int .u64 (IntKind.u64.wrap (a*b)))
 |.eql,.int .i64 a,.int .i64 b=>some (.bool (a==b))
 |.neq,.int .i64 a,.int .i64 b=>some (.bool (a != b))
 |.lss,.int .i64 a,.int .i64 b=>some (.bool (decide (a<b)))
 |.leq,.int .i64 a,.int .i64 b=>some (.bool (decide (a<=b)))
 |.gtr,.int .i64 a,.int .i64 b=>some (.bool (decide (a>b)))
 |.geq,.int .i64 a,.int .i64 b=>some (.bool (decide (a>=b)))
 |.eql,.int .u64 a,.int .u64 b=>some (.bool (a==b))
 |.neq,.int .u64 a,.int .u64 b=>some (.bool (a != b))
 |.lss,.int .u64 a,.int .u64 b=>some (.bool (decide (a<b)))
 |.leq,.int .u64 a,.int .u64 b=>some (.bool (decide (a<=b)))
 |.gtr,.int .u64 a,.int .u64 b=>some (.bool (decide (a>b)))
 |.geq,.int .u64 a,.int .u64 b=>some (.bool (decide (a>=b)))
 |.eql,.int .u8 a,.int .u8 b=>some (.bool (a==b))
 |.neq,.int .u8 a,.int .u8 b=>some (.bool (a != b))
 |.lss,.int .u8 a,.int .u8 b=>some (.bool (decide (a<b)))
 |.leq,.int .u8 a,.int .u8 b=>some (.bool (decide (a<=b)))
 |.gtr,.int .u8 a,.int .u8 b=>some (.bool (decide (a>b)))
 |.geq,.int .u8 a,.int .u8 b=>some (.bool (decide (a>=b)))
 |.eql,.int .i32 a,.int .i32 b=>some (.bool (a==b))
 |.neq,.int .i32 a,.int .i32 b=>some (.bool (a != b))
 |.lss,.int .i32 a,.int .i32 b=>some (.bool (decide (a<b)))
 |.leq,.int .i32 a,.int .i32 b=>some (.bool (decide (a<=b)))
 |.gtr,.int .i32 a,.int .i32 b=>some (.bool (decide (a>b)))
 |.geq,.int .i32 a,.int .i32 b=>some (.bool (decide (a>=b)))
 |.eql,.string a,.string b=>some (.bool (a.toList==b.toList))
 |.neq,.string a,.string b=>some (.bool (!(a.toList==b.toList)))
 |_,_,_=>none
theorem zA{op:BinOp}{T:TypeId}{x y:Operand}{vx vy:Value}(h:Cb op vx vy=some v)(w:World):(do eqGuard op T x y vx vy;binOp op T vx vy:Sem Value).run P w = .ok v w:=by
  unfold Cb at h;split at h<;>first
    | (cases h;done)
    | (simp only[ai]at h
       subst h;simp[eqGuard,binOp,Op.intArith,Op.intCmp,Op.stringOp])
theorem QT{op:BinOp}{vx vy:Value}(hx:ev m x=some vx)(hy:ev m y=some vy)(h:Cb op vx vy=some v):Qt P N m S (.binOp op T x y yT) ty v:=λa w _ _ _ _ ha _=>by
 have:=zA (P:=P) (T:=T) (x:=x) (y:=y) h w;simp only[execOp,ha.ev hx,ha.ev hy];simp only[aj]at this ⊢;rw[this];rfl
theorem Qw{a b:Int}(hx:ev m x=some (.int .i64 a))(hy:ev m y=some (.int .i64 b))(h : -9223372036854775808<=a+b/\a+b<=9223372036854775807):Qt P N m S (.binOp .add T x y yT) ty (.int .i64 (a+b)):=by
 have:=QT (P:=P) (N:=N) (m:=m) (S:=S) (ty:=ty) (T:=T) (yT:=yT) (op:=.add) hx hy rfl;rw[ei _ h]at this;exact this
theorem X3{a b:Int}(hx:ev m x=some (.int .i64 a))(hy:ev m y=some (.int .i64 b))(h : -9223372036854775808<=a-b/\a-b<=9223372036854775807):Qt P N m S (.binOp .sub T x y yT) ty (.int .i64 (a-b)):=by
 have:=QT (P:=P) (N:=N) (m:=m) (S:=S) (ty:=ty) (T:=T) (yT:=yT) (op:=.sub) hx hy rfl;rw[ei _ h]at this;exact this
theorem M0{a b:Int}(hx:ev m x=some (.int .i64 a))(hy:ev m y=some (.int .i64 b))(h : -9223372036854775808<=a*b/\a*b<=9223372036854775807):Qt P N m S (.binOp .mul T x y yT) ty (.int .i64 (a*b)):=by
 have:=QT (P:=P) (N:=N) (m:=m) (S:=S) (ty:=ty) (T:=T) (yT:=yT) (op:=.mul) hx hy rfl;rw[ei _ h]at this;exact this
theorem vp{k:IntKind}{a b:Int}(hx:ev m x=some (.int k a))(hy:ev m y=some (.int k b))(h:b≠0):Qt P N m S (.binOp .quo T x y yT) ty (.int k (k.wrap (a.tdiv b))):=λs w _ _ _ _ ha _=>by
 simp[execOp,ha.ev hx,ha.ev hy,eqGuard,binOp,Op.intDiv,h]
theorem QCV{k:IntKind}{a b:Int}(hx:ev m x=some (.int k a))(hy:ev m y=some (.int k b))(h:b≠0):Qt P N m S (.binOp .rem T x y yT) ty (.int k (a.tmod b)):=λs w _ _ _ _ ha _=>by
 simp[execOp,ha.ev hx,ha.ev hy,eqGuard,binOp,Op.intDiv,h]
theorem Hi{k:IntKind}{a b:Int}(hx:ev m x=some (.int k a))(hy:ev m y=some (.int k b))(ha:0<=a)(hb:0<b):Qt P N m S (.binOp .rem T x y yT) ty (.int k (a%b)):=by
 have:=QCV (P:=P) (N:=N) (m:=m) (S:=S) (ty:=ty) (T:=T) (yT:=yT) hx hy O;rw[Int.tmod_eq_emod_of_nonneg ha]at this;exact this
theorem zR{a b:ByteArray}(hx:ev m x=some (.string a))(hy:ev m y=some (.string b))(h:((a.size+b.size:Nat):Int)<=9223372036854775807):Qt P N m S (.binOp .add T x y yT) ty (.string (a++b)):=λs w _ _ _ _ ha _=>by
 have h':¬((a.size+b.size:Nat):Int)>IntKind.i64.max:=by
  have:IntKind.i64.max=9223372036854775807:=wu;omega
 simp only[execOp,ha.ev hx,ha.ev hy,eqGuard,binOp,Op.stringOp,if_neg h'];rfl
theorem XB{b:Bool}(hx:ev m x=some (.bool b)):Qt P N m S (.unOp .not T x) ty (.bool (!b)):=λs w _ _ _ _ ha _=>by
 simp[execOp,ha.ev hx,Op.unary]
def Nk(P:Program)(T:TypeId):Option IntKind:=match P.underlying T with
 |some (.int k)=>some k
 |_=>none
theorem Ir{src dst:TypeId}{k k':IntKind}{n:Int}(hx:ev m x=some (.int k' n))(hs:(P.underlying src).isSome=true)(hk:Nk P dst=some k):Qt P N m S (.convert src dst x) ty (.int k (k.wrap n)):=λs w _ _ _ _ ha _=>by
 obtain⟨d,hd⟩:=Option.isSome_iff_exists.1 hs;unfold Nk at hk;split at hk
 ·rename_i k'' hu;cases hk;simp only[execOp,ha.ev hx,convert,aj,run_underlying hd,run_underlying hu,ak];rfl
 cases hk
theorem CO{n:Int}(h : -9223372036854775808<=n/\n<=9223372036854775807):IntKind.i64.wrap n=n:=ei _ h
def BZ(P:Program)(T:TypeId):Bool:=match P.underlying T with
 |some .string=>true
 |_=>false
theorem YF{b:Builtin}{args:Array Operand}{tys:Array TypeId}{d:Option Tmp}{pos:String}{g:Option (Nat×Bool)}:execOp a.eval ⟨d,.call ⟨.builtin b,args,tys⟩,ty,pos,aft,g⟩=builtin b tys ty (args.map λ| .const _=>true | _=>false) (args.map a.eval):=rfl
theorem zP(hx:ev m x=some (.string s))(hT:BZ P T=true):Qt P N m S (.call ⟨.builtin .len,#[x],#[T]⟩) ty (.int .i64 s.size):=λa w _ _ _ _ ha _=>by
 unfold BZ at hT;split at hT
 ·rename_i hu;rw[YF];simp[builtin,ij,ha.ev hx,run_underlying hu,goInt]
 cases hT
def G9(P:Program)(T:TypeId):Option TypeId:=match P.underlying T with
 |some (.slice e)=>some e
 |_=>none
theorem Q4{e:TypeId}(h:G9 P T=some e):P.underlying T=some (.slice e):=by
 unfold G9 at h;split at h
 ·cases h;assumption
 cases h
theorem Qh{e:TypeId}{q:Option Addr}{c:Nat}(hx:ev m x=some (.slice q n c))(hT:G9 P T=some e):Qt P N m S (.call ⟨.builtin .len,#[x],#[T]⟩) ty (.int .i64 n):=λa w _ _ _ _ ha _=>by
 rw[YF];simp[builtin,ij,ha.ev hx,run_underlying (Q4 hT),goInt]
theorem vr{a b:Int}(hx:ev m x=some (.int .i64 a))(hy:ev m y=some (.int .i64 b)):Qt P N m S (.call ⟨.builtin .min,#[x,y],#[T,T']⟩) ty (.int .i64 (if b<a then b else a)):=λs w _ _ _ _ ha _=>by
 rw[YF];simp[builtin,ha.ev hx,ha.ev hy,Builtin.min_,Builtin.min2]
theorem zQ{i:Nat}(hx:ev m x=some (.string s))(hy:ev m y=some (.int .i64 (i:Int)))(hT:BZ P T=true)(hi:i<s.size):Qt P N m S (.index T x y) ty (.int .u8 (s.data[i].toNat:Int)):=λa w _ _ _ _ ha _=>by
 unfold BZ at hT;split at hT
 ·rename_i hu;have e:s[i]?=some (s.data[i]):=by
   rw[getElem?_pos s i hi];rfl
  simp[execOp,ha.ev hx,ha.ev hy,Instr.index,asIntOf,run_underlying hu,e]
 cases hT
theorem Tv{lo hi:Option Value}{l h:Nat}(hT:BZ P T=true)(hlo:(lo=none/\l=0)\/lo=some (.int .i64 (l:Int)))(hhi:(hi=none/\h=s.size)\/hi=some (.int .i64 (h:Int)))(h1:l<=h)(h2:h<=s.size)(w:World):
  (iU T (.string s) lo hi none).run P w = .ok (.string (s.extract l h)) w:=by
 unfold BZ at hT;split at hT
 ·rename_i hu;rcases hlo with ⟨rfl,rfl⟩ | rfl<;>rcases hhi with ⟨rfl,rfl⟩ | rfl <;>
   simp[iU,run_underlying hu,Instr.sliceBounds,Instr.sliceBound,asIntOf,h1,h2]
 cases hT
def L9(m:Sl):Option Operand->Option (Option Value)
 |none=>some none
 |some x=>(ev m x).map some
theorem Ja.L9(h:Ja N m a){x:Option Operand}{v:Option Value}(hx:L9 m x=some v):x.map a.eval=v:=by
 cases x with
 |none=>simpa[YtbpmnjieoncbcaaGreatDoor.L9]using hx
 |some x =>
  cases hv:YtbpmnjieoncbcaaGreatDoor.ev m x with
  |none=>simp[YtbpmnjieoncbcaaGreatDoor.L9,hv]at hx
  |some u=>simp[YtbpmnjieoncbcaaGreatDoor.L9,hv]at hx;simp[h.ev hv,hx]
theorem Ld{lo hi:Option Operand}{vl vh:Option Value}{l h:Nat}(hx:ev m x=some (.string s))(el:L9 m lo=some vl)(eh:L9 m hi=some vh)(hT:BZ P T=true)
  (hlo:(vl=none/\l=0)\/vl=some (.int .i64 (l:Int))) (hhi:(vh=none/\h=s.size)\/vh=some (.int .i64 (h:Int))) (h1:l<=h) (h2:h<=s.size):Qt P N m S (.slice T x lo hi none) ty (.string (s.extract l h)):=λa w _ _ _ _ ha _=>by
 have e:=Tv (P:=P) hT hlo hhi h1 h2 w;unfold BZ at hT;split at hT
 ·rename_i hu;simp[execOp,ha.ev hx,ha.L9 el,ha.L9 eh,Instr.sliceAt,run_underlying hu,e]
 cases hT
end
end
section
variable[Dr][df:Df]
section
variable{P:Program}{Q:Exit->Act->World->Prop}{N:Nat}{m:Sl}{E E0:Env}{ops:Array Oper}{l:List Oper}{w0:World}{F0:Gs}{bs:List (Nat×Obj)}{G:Gs->Prop}{ty:TypeId}{v:Value}{S:World->Prop}
theorem BS(b off k:Nat):(⟨b,off,none⟩:Addr).add k=⟨b,off+k,none⟩:=by unfold fy;split<;>simp_all
theorem JJ{e:TypeId}{c sz i:Nat}(hx:ev m x=some (.slice (some ⟨b,off,none⟩) n c))(hy:ev m y=some (.int .i64 (i:Int)))(hT:G9 P T=some e)(hs:Z5 P e=some (g,sz))(hi:i<n):Qt P N m S (.indexAddr T x y) ty (.pointer (some ⟨b,off+i*sz,none⟩)):=λa w _ _ _ _ ha _=>by
 simp[execOp,ha.ev hx,ha.ev hy,Instr.indexAt,asIntOf,run_underlying (Q4 hT),Ky hs,hi,BS]
theorem Vl(h:ev m x=some (.pointer (some ⟨b,off,none⟩)))(ht:Z5 P T=some (false,n))(ho:Own bs b (.cells c.toArray T' fr) f)(hg:c[off]?=some v):
  Qt P N m (St ⟨w0,F0,bs,G⟩) (.load T x) ty v:=λa w _ _ _ _ ha hw=>by
 have hc:w.cell? ⟨b,off,none⟩=some v:=by rw[ZF (hw.own ho)];exact hg
 simp[execOp,ha.ev h,bL,aN,Z1 ht hc]
theorem Am{vs:List Value}(h:ev m x=some (.pointer (some ⟨b,off,none⟩)))(ht:Z5 P T=some (true,n))(ho:Own bs b (.cells c.toArray T' fr) f)(hn:vs.length=n)(hg:∀j v,vs[j]?=some v->c[off+j]?=some v):
  Qt P N m (St ⟨w0,F0,bs,G⟩) (.load T x) ty (.agg vs.toArray):=λa w _ _ _ _ ha hw=>by
 have:=Ka ht hn (w:=w) (b:=b) (off:=off) (λj v hv=>by rw[ZF (hw.own ho)];exact hg j v hv);simp[execOp,ha.ev h,bL,aN,this]
theorem K8.mk':∀(n:Nat) (l vs:List Value),n+vs.length<=l.length->K8 l n vs (l.take n++vs++l.drop (n+vs.length))
 |0,l,[],_=>by simpa using K8.nil (l:=l)
 |0,x::l,v::vs,h=>by
  have:=K8.mk' 0 l vs (by simp at h ⊢;omega);simp only[im,ef,bA,aO,List.drop_succ_cons,fW]at this ⊢;exact .here this
 |n+1,x::l,vs,h=>by
  have:=K8.mk' n l vs (by simp at h;omega);rw[eG];simpa using K8.skip (x:=x) this
 |0,[],v::vs,h=>by simp at h
 |n+1,[],vs,h=>by simp at h
inductive Q9(T:TypeId)(sz:Nat):Value->Nat->List Value->List (Nat×Obj)->Prop
 |nil:Q9 T sz (.slice none 0 0) 0 [] []
 |some {b n cap:Nat} {l rest:List Value} (h1:l.length=n*sz) (h2:l.length+rest.length=cap*sz) (h3:n<=cap) (h4:cap<=maxLen):Q9 T sz (.slice (some ⟨b,0,none⟩) n cap) n l [(b,.cells (l++rest).toArray T (0,0))]
theorem Q9.one{sz:Nat}{v:Value}{l:List Value}(h:Q9 T sz v n l ob):v.oneCell'=true/\v.cells=[v].toArray:=by
 cases h<;>exact⟨rfl,rfl⟩
structure Src(E:Env)(sz:Nat)(x:Value)(k:Nat)(news:List Value):Prop where
 len:news.length=k*sz
 rd:((∃c,x = .slice none 0 c)/\k=0/\news=[])\/∃a c,x = .slice (some a) k c/\∀w,St E w->∀j v,news[j]?=some v->w.cell? (a.add j)=some v
theorem Src.row{sz c:Nat}{cs:Array Value}(hr:∀F,G F->F b=some (cs,T))(hg:∀j v,news[j]?=some v->cs[off+j]?=some v)(hl:news.length=k*sz):Src ⟨w0,F0,bs,G⟩ sz (.slice (.some ⟨b,off,none⟩) k c) k news :=
 ⟨hl,.inr ⟨_,_,rfl,λw hw j v hv=>by rw[BS];exact cell_of_row hw hr (hg j v hv)⟩⟩
theorem Src.nil{sz c:Nat}:Src E sz (.slice none 0 c) 0 []:=⟨wz,.inl ⟨⟨_,rfl⟩,rfl,rfl⟩⟩
def ZM(P:Program)(T:TypeId):Option Nat:=(P.info? T).map (·.bytes)
theorem Bz{sz:Nat}{x:Value}(hl:news.length=k*sz)(h:((∃c,x = .slice none 0 c)/\k=0/\news=[])\/∃a c,x = .slice (some a) k c/\∀j v,news[j]?=some v->w.cell? (a.add j)=some v):
  (fi sz k x).run P w = .ok news.toArray w:=by
 rcases h with ⟨⟨_,rfl⟩,rfl,rfl⟩ | ⟨a,c,rfl,h⟩
 ·rfl
 exact run_firstCells_some (P:=P) w sz k a k c news hl h
theorem DC{t e:TypeId}{sz:Nat}{x y:Value}{olds:List Value}(ht:G9 P t=some e)(hs:Z5 P e=some (g,sz))(hz:XE P e=some z)(hzl:z.length=sz)(hby:ZM P e=some bytes)
  (hr:Q9 e sz x n olds ob) (hs2:Src ⟨w0,F0,ob++bs,G⟩ sz y k news) (hw:St ⟨w0,F0,ob++bs,G⟩ w) (h63:n+k<=9223372036854775807) (h47:(n+k)*bytes<=140737488355328) (h1:∀v∈news,v.oneCell'=true) (hu:Hk e=true) :
  ∃v' ob' w',(bV #[t,t] ty #[x,y]).run P w = .ok v' w'/\Q9 e sz v' (n+k) (olds++news) ob'/\St ⟨w0,F0,ob'++bs,G⟩ w':=by
 have hi:∃i,P.info? e=some i/\i.size=sz/\i.bytes=bytes/\∃zv,i.zero=some zv/\zv.cells=z.toArray:=by
  unfold ZM at hby;unfold XE at hz;unfold Z5 at hs;cases hie:P.info? e with
  |none=>rw[hie]at hby;cases hby
  |some i =>
   rw[hie]at hby hz hs;dsimp only at hz hs;simp only[aQ,ai]at hby;refine⟨i,rfl,?_,hby,?_⟩
   ·split at hs
    ·rename_i h1 h2;cases h2;cases hs;rfl
    cases hs
   cases hzz:i.zero with
   |none=>rw[hzz]at hz;cases hz
   |some zv=>rw[hzz]at hz;simp only[aQ,ai]at hz;exact⟨zv,rfl,by rw[<-hz]⟩
 obtain⟨i,hi1,hi2,hi3,zv,hi4,hi5⟩:=hi;subst hi2 hi3;have hzc:∀q,(aD zv.cells q).toList.length=q*i.size:=λq=>by simp[aD,hi5,hzl]
 have hu':∀c fr c' fr',Obj.cells c e fr≠.cells c' 256 fr':=λc fr=>ZL hu;have new:∀ {w':World} (l rest:List Value) (v':Value) (cap:Nat) (bs':List (Nat×Obj)),St ⟨w0,F0,bs',G⟩ w'->bs.Sublist bs'->v' = .slice (some ⟨w'.heap.size,0,none⟩) (n+k) cap->l.length=(n+k)*i.size->l.length+rest.length=cap*i.size->n+k<=cap->cap<=maxLen ->
   ∃ob',Q9 e i.size v' (n+k) l ob'/\St ⟨w0,F0,ob'++bs,G⟩ (w'.alloc (.cells (l++rest).toArray e)):=by
  intro w' l rest v' cap bs' hw' hsub hv' h2 h3 h4 h5;subst hv';exact⟨_,.some h2 h3 h4 h5,(hw'.imp hsub λ_ h=>h).alloc _ (hu' _ _)⟩
 have hcut:∀need old,need<=9223372036854775807->need<=grownCap w need old e:=λneed old _=>grownCap_ge w need old e;cases hr with
 |nil =>
  simp only[bA,ef]at *
  rcases hs2.rd with ⟨⟨_,rfl⟩,rfl,rfl⟩ | ⟨a,c,rfl,hrd⟩
  ·refine⟨.slice none 0 0,[],w,?_,.nil,hw⟩;simp[bV,run_underlying (Q4 ht),sizeOf,typeInfo,hi1,eT,fi]
  by_cases hk:k=0
  ·subst hk;have hn0:news=[]:=by have:=hs2.len;simp at this;exact this
   subst hn0;refine⟨.slice none 0 0,[],w,?_,.nil,hw⟩;have:=run_firstCells_some (P:=P) w i.size 0 a 0 c [] wz (λj v hv=>by simp at hv);simp[bV,run_underlying (Q4 ht),sizeOf,typeInfo,hi1,eT,this]
  have hrun:=run_append_nil (P:=P) (w:=w) t ty e i zv (Q4 ht) hi1 hi4 a k c news hs2.len (hrd w hw) O O O;have hge:=hcut k 0 h63;obtain⟨ob',h2,h3⟩:=new news (aD zv.cells (grownCap w k 0 e-k)).toList _ (grownCap w k 0 e) bs hw.drew QIM rfl hs2.len (by rw[hzc,hs2.len,<-aE];congr 1;omega) hge (grownCap_le_maxLen w k 0 e (by simp only[maxLen];omega));refine⟨_,ob',_,hrun,h2,?_⟩;have e1:(news++(aD zv.cells (grownCap w k 0 e-k)).toList).toArray=news.toArray++aD zv.cells (grownCap w k 0 e-k):=by apply bZ;simp
  rw[e1]at h3;exact h3
 |some g1 g2 g3 g4 =>
  rename_i b cap rest;have hbw:w.heap[b]?=some (.cells (olds++rest).toArray e (0,0)):=hw.own (f:=λo'=>(b,o')::bs) .here;have hold:∀j v,olds[j]?=some v->w.cell? ((⟨b,0,none⟩:Addr).add j)=some v:=λj v hv=>by
   rw[BS,bA,ZF hbw,eu];have:j<olds.length:=by rcases av j olds.length with q | q;exact q;rw[aI q]at hv;cases hv
   rw[if_pos this];exact hv
  by_cases hroom:n+k<=cap
  ·have hmul:(n+k)*i.size<=cap*i.size:=aZ _ hroom;rw[aE]at hmul;have hp:=K8.mk' (n*i.size) (olds++rest) news (by rw[aH,hs2.len];omega);obtain⟨w',h2,h3⟩:=run_storeCells_at (P:=P) b e news 0 (n*i.size) (olds++rest) _ w hbw h1 hp;have e1:(olds++rest).take (n*i.size)=olds:=by rw[<-g1];simp
   have e2:(olds++rest).drop (n*i.size+news.length)=rest.drop news.length:=by
    rw[<-g1,List.drop_append,List.drop_of_length_le O,Nat.add_sub_cancel_left,ef]
   rw[e1,e2]at h3;have hfc:=Bz (P:=P) (w:=w) hs2.len (hs2.rd.imp id λ⟨a,c,h,h'⟩=>⟨a,c,h,h' w hw⟩);refine⟨.slice (some ⟨b,0,none⟩) (n+k) cap,[(b,.cells (olds++news++rest.drop news.length).toArray e (0,0))],w',?_,.some ?_ ?_ hroom g4,?_⟩
   ·have hlen:(eT y).run P w = .ok k w:=by
     rcases hs2.rd with ⟨⟨_,rfl⟩,rfl,_⟩ | ⟨a,c,rfl,_⟩<;>rfl
    simp[bV,run_underlying (Q4 ht),sizeOf,typeInfo,hi1,hlen,hroom,hfc,BS,h2]
   ·rw[aH,g1,hs2.len,aE]
   ·rw[aH,List.length_drop,hs2.len,g1];omega
   exact St.write [] hw h3 (hu' _ _)
  rcases hs2.rd with ⟨⟨_,rfl⟩,rfl,rfl⟩ | ⟨a,c,rfl,hrd⟩
  ·exact absurd g3 hroom
  have hfit:=growslice_fits (need:=n+k) (old:=cap) (bytes:=i.bytes) O h47;have hrun:=run_append_grow (P:=P) (w:=w) t ty e i zv (Q4 ht) hi1 hi4 ⟨b,0,none⟩ n cap olds g1 hold a k c news hs2.len (hrd w hw) O O hfit;have hge:=hcut (n+k) cap h63;have hl2:(olds++news).length=(n+k)*i.size:=by rw[aH,g1,hs2.len,aE]
  obtain⟨ob',h2,h3⟩:=new (olds++news) (aD zv.cells (grownCap w (n+k) cap e-(n+k))).toList _ (grownCap w (n+k) cap e) _ hw.drew (fb _ _) rfl hl2 (by rw[hzc,hl2,<-aE];congr 1;omega) hge (grownCap_le_maxLen w (n+k) cap e (by simp only[maxLen];omega));refine⟨_,ob',_,hrun,h2,?_⟩;have e1:(olds++news++(aD zv.cells (grownCap w (n+k) cap e-(n+k))).toList).toArray=olds.toArray++news.toArray++aD zv.cells (grownCap w (n+k) cap e-(n+k)):=by apply bZ;simp
  rw[e1]at h3;exact h3
theorem Mj{d:Nat}{pos:String}{t e:TypeId}{sz:Nat}{X Y:Operand}{x y:Value}{olds:List Value}(hx:ev m X=some x)(hy:ev m Y=some y)(ht:G9 P t=some e)(hs:Z5 P e=some (g,sz))(hz:XE P e=some z)(hzl:z.length=sz)(hby:ZM P e=some bytes)
  (hr:Q9 e sz x n olds ob) (hs2:Src ⟨w0,F0,ob++bs,G⟩ sz y k news) (h63:n+k<=9223372036854775807) (h47:(n+k)*bytes<=140737488355328) (h1:∀v∈news,v.oneCell'=true)
  (kk:∀v' ob',Q9 e sz v' (n+k) (olds++news) ob'->JS P ops Q l N ((d,v')::m) ⟨w0,F0,ob'++bs,G⟩) (hu:Hk e=true:=by rfl) (hd:J5 N (some d)=true:=by rfl) :
  JS P ops Q (⟨some d,.call ⟨.builtin .append,#[X,Y],#[t,t]⟩,ty,pos,aft,none⟩::l) N m ⟨w0,F0,ob++bs,G⟩:=λa w ha hw =>
 wpList_plain rfl λK hK=>by
  obtain⟨v',ob',w',h2,h3,h4⟩:=DC (ty:=ty) ht hs hz hzl hby hr hs2 hw h63 h47 h1 hu;refine upon_value (w':=w') (v:=v') ?_ (hK _ _ (kk v' ob' h3 _ w' (ha.put hd v') h4));rw[YF];simp[builtin,ha.ev hx,ha.ev hy,h2]
theorem KM{d:Nat}{pos:String}{t e:TypeId}{sz:Nat}{X Y:Operand}{x y:Value}{olds:List Value}{G0:Gs->Prop}(hx:ev m X=some x)(hy:ev m Y=some y)(ht:G9 P t=some e)(hs:Z5 P e=some (g,sz))(hz:XE P e=some z)(hzl:z.length=sz)(hby:ZM P e=some bytes)
  (hr:Q9 e sz x n olds ob) (hs2:Src ⟨w0,F0,ob++bs,G⟩ sz y k news) (h63:n+k<=9223372036854775807) (h47:(n+k)*bytes<=140737488355328) (h1:∀v∈news,v.oneCell'=true) (hs0:bs0.Sublist bs) (hg0:∀F,G F->G0 F)
  (kk:∀v' ob',Q9 e sz v' (n+k) (olds++news) ob'->JD P ops Q ⟨w0,F0,bs0,G0⟩ l N ((d,v')::m) ⟨w0,F0,ob'++bs,G⟩) (hu:Hk e=true:=by rfl) (hd:J5 N (some d)=true:=by rfl) :
  JD P ops Q ⟨w0,F0,bs0,G0⟩ (⟨some d,.call ⟨.builtin .append,#[X,Y],#[t,t]⟩,ty,pos,aft,none⟩::l) N m ⟨w0,F0,ob++bs,G⟩:=λ_ a w ha hw=>by
  obtain⟨v',ob',w',h2,h3,h4⟩:=DC (ty:=ty) ht hs hz hzl hby hr hs2 hw h63 h47 h1 hu;have sub:∀w',St ⟨w0,F0,ob'++bs,G⟩ w'->St ⟨w0,F0,bs0,G0⟩ w':=λw' h=>h.imp (hs0.trans (List.sublist_append_right _ _)) hg0;refine .inr ⟨rfl,?_⟩;rw[if_pos (by simp[ao])];refine upon_value (w':=w') (v:=v') ?_ ⟨sub _ h4,kk v' ob' h3 sub _ w' (ha.put hd v') h4⟩;rw[YF];simp[builtin,ha.ev hx,ha.ev hy,h2]
def Xb(z:List Value):Nat->List Value
 |0=>[]
 |n+1=>z++Xb z n
theorem B6(z:List Value):∀n,(Xb z n).length=n*z.length
 |0=>by simp[Xb]
 |n+1=>by rw[Xb,aH,B6 z n,aE];omega
theorem Ph(z:List Value):∀(n j:Nat),j<n*z.length->(Xb z n)[j]?=z[j%z.length]?
 |0,j,h=>by simp at h
 |n+1,j,h=>by
  rw[Xb,eu];split
  ·rename_i hj;rw[bH hj]
  rename_i hj;rw[Ph z n _ (by rw[aE,j9]at h;omega)];rw[<-Nat.mod_eq_sub_mod O]
theorem UN{z:Array Value}:madeCells z (n*z.size)=(Xb z.toList n).toArray:=by
 apply eD;intro j;simp only[madeCells,List.getElem?_toArray];by_cases hj:j<n*z.size
 ·have hz:0<z.size:=by rcases fN z.size with h | h;rw[h]at hj;simp at hj;exact h
  have hm:=eF j hz;rw[Ph z.toList n j (by simpa using hj)];simp[hj,hm]
 have e1:(Xb z.toList n)[j]?=none:=aI (by rw[B6];simpa using hj);rw[e1,ab (by simpa using hj)]
theorem C7{t e:TypeId}{sz n:Nat}{kl:IntKind}(ht:G9 P t=some e)(hs:Z5 P e=some (g,sz))(hz:XE P e=some z)(hzl:z.length=sz)(hby:ZM P e=some bytes)(h63:(n:Int)<=9223372036854775807)(h48:n*bytes<=281474976710656):
  (ia t (.int kl n) (.int kl n)).run P w = .ok (.slice (some ⟨w.heap.size,0,none⟩) n n) (w.alloc (.cells (Xb z n).toArray e)):=by
 have hi:∃i,P.info? e=some i/\i.size=sz/\i.bytes=bytes/\∃zv,i.zero=some zv/\zv.cells=z.toArray:=by
  unfold ZM at hby;unfold XE at hz;unfold Z5 at hs;cases hie:P.info? e with
  |none=>rw[hie]at hby;cases hby
  |some i =>
   rw[hie]at hby hz hs;dsimp only at hz hs;simp only[aQ,ai]at hby;refine⟨i,rfl,?_,hby,?_⟩
   ·split at hs
    ·rename_i h1 h2;cases h2;cases hs;rfl
    cases hs
   cases hzz:i.zero with
   |none=>rw[hzz]at hz;cases hz
   |some zv=>rw[hzz]at hz;simp only[aQ,ai]at hz;exact⟨zv,rfl,by rw[<-hz]⟩
 obtain⟨i,hi1,hi2,hi3,zv,hi4,hi5⟩:=hi;subst hi3;have hb:(i.bytes:Int)*(n:Int)<=281474976710656:=by
  have:((n*i.bytes:Nat):Int)<=281474976710656:=O;rw[aV]at this;rw[bP];exact this
 have:=run_make (P:=P) w t e i zv (Q4 ht) hi1 hi4 kl kl n n O (bI _) hb h63;rw[this];have e2:i.size=zv.cells.size:=by rw[hi5];simp;omega
 simp only[eI,e2,UN,hi5]
theorem Mq{d:Nat}{pos:String}{t e:TypeId}{sz n:Nat}{X Y:Operand}{kl:IntKind}(hx:ev m X=some (.int kl (n:Int)))(hy:ev m Y=some (.int kl (n:Int)))(ht:G9 P t=some e)(hs:Z5 P e=some (g,sz))(hz:XE P e=some z)(hzl:z.length=sz)(hby:ZM P e=some bytes)(h63:(n:Int)<=9223372036854775807)(h48:n*bytes<=281474976710656)
  (k:∀b,JS P ops Q l N ((d,.slice (some ⟨b,0,none⟩) n n)::m) ⟨w0,F0,(b,.cells (Xb z n).toArray e (0,0))::bs,G⟩) (hu:Hk e=true:=by rfl) (hd:J5 N (some d)=true:=by rfl) :
  JS P ops Q (⟨some d,.makeSlice t X Y,ty,pos,aft,none⟩::l) N m ⟨w0,F0,bs,G⟩:=λa w ha hw =>
 wpList_plain rfl λ_ hK=>upon_value (by
  simp only[execOp,ha.ev hx,ha.ev hy,aj,C7 ht hs hz hzl hby h63 h48,ak,aG]) (hK _ _ (k _ _ _ (ha.put hd _) (hw.alloc _ (ZL hu))))
end
end
section
variable[Dr][df:Df]
def Zz(P:Program)(T:TypeId):Option (List (Nat×Nat)):=match P.info? T,P.underlying T with
 |some _,some (.struct fields)=>fields.toList.mapM λf=>(P.info? f.type).map λi=>(f.offset,i.size)
 |_,_=>none
inductive Ew(pl:List (Nat×Nat)):List (Nat×Value)->List Value->List Value->Prop
 |nil {l:List Value}:Ew pl [] l l
 |cons {i off sz:Nat} {v:Value} {vs cur cur' res:List Value} {r:List (Nat×Value)} (hf:pl[i]?=some (off,sz)) (hv:v.cells=vs.toArray) (hn:vs.length=sz) (hp:K8 cur off vs cur') (k:Ew pl r cur' res):Ew pl ((i,v)::r) cur res
theorem Ft(off:Nat):∀(vs:List Value) (j:Nat) (cur cur':List Value),K8 cur (off+j) vs cur'->(vs.zipIdx j).foldl (λcs (x:Value×Nat)=>cs.setIfInBounds (off+x.2) x.1) cur.toArray=cur'.toArray
 |[],j,cur,cur',h=>by have:=h.eq;simp at this;simp[this]
 |v::vs,j,cur,cur',h=>by
  have hle:=h.le;have hp2:K8 (cur.set (off+j) v) (off+(j+1)) vs cur':=by
   have key:∀(n:Nat) (cur l':List Value),K8 cur n (v::vs) l'->K8 (cur.set n v) (n+1) vs l':=by
    intro n
    induction n with
    |zero=>intro cur l' h;cases h with | here h=>exact .skip h
    |succ n ih=>intro cur l' h;cases h with | skip h=>exact .skip (ih _ _ h)
   exact key _ _ _ h
  rw[fU,eN];have:=Ft off vs (j+1) _ _ hp2;simpa using this
theorem Ew.fill{cur res:List Value}(h:Ew pl ps cur res):bY (pl.toArray[·]?) cur.toArray ps=some res.toArray:=by
 induction h with
 |nil=>rfl
 |cons hf hv hn hp k ih =>
  rename_i i off sz v vs cur cur' res r;have hle:=hp.le;unfold bY;have e1:pl.toArray[i]?=some (off,sz):=by simpa using hf
  simp only[e1,hv,List.size_toArray,hn,ne_eq,not_true_eq_false,decide_false,iC,decide_eq_true_eq];rw[if_neg O];have e2:vs.toArray.zipIdx.foldl (λcs (x:Value×Nat)=>cs.setIfInBounds (off+x.2) x.1) cur.toArray=cur'.toArray:=by
   have:=Ft off vs 0 cur cur' (by simpa using hp);rw[<-this,<-eC];simp
  rw[e2];exact ih
section
variable{P:Program}{Q:Exit->Act->World->Prop}{N:Nat}{m:Sl}{E E0:Env}{ops:Array Oper}{l:List Oper}
theorem ZV{ops':Array Oper}{l':List Oper}(h:JS P ops' Q l' N m E):JD P ops (ZT λa w=>wpList P ops' Q l' a w) E0 [] N m E:=λ_=>h
theorem Q7(h:Fin Q .normal N m E):JD P ops (ZT (Q .normal)) E0 [] N m E:=λ_=>h
theorem Ql{t:Nat}{b:Bool}(h:look m t=some (.bool b))(ht:b=true->JS P ops Q l N ((t,.bool true)::m) E)(hf:b=false->JS P ops Q l N ((t,.bool false)::m) E):JS P ops Q l N m E:=λa w ha hw=>by
 cases b with
 |true=>exact ht rfl a w ⟨ha.size,ha.df,λi v hi=>by
   simp only[look]at hi;cases hb:aX t i with
   |true=>rw[hb]at hi;have:t=i:=(by simpa using hb);subst this;exact ha.get _ _ (by rw[h];simpa using hi)
   |false=>rw[hb]at hi;exact ha.get _ _ hi⟩ hw
 |false=>exact hf rfl a w ⟨ha.size,ha.df,λi v hi=>by
   simp only[look]at hi;cases hb:aX t i with
   |true=>rw[hb]at hi;have:t=i:=(by simpa using hb);subst this;exact ha.get _ _ (by rw[h];simpa using hi)
   |false=>rw[hb]at hi;exact ha.get _ _ hi⟩ hw
theorem BV{t:Nat}{b:Bool}(h:look m t=some (.bool b))(ht:b=true->JD P ops Q E0 l N ((t,.bool true)::m) E)(hf:b=false->JD P ops Q E0 l N ((t,.bool false)::m) E):JD P ops Q E0 l N m E:=λhE a w ha hw=>by
 cases b with
 |true=>exact ht rfl hE a w ⟨ha.size,ha.df,λi v hi=>by
   simp only[look]at hi;cases hb:aX t i with
   |true=>rw[hb]at hi;have:t=i:=(by simpa using hb);subst this;exact ha.get _ _ (by rw[h];simpa using hi)
   |false=>rw[hb]at hi;exact ha.get _ _ hi⟩ hw
 |false=>exact hf rfl hE a w ⟨ha.size,ha.df,λi v hi=>by
   simp only[look]at hi;cases hb:aX t i with
   |true=>rw[hb]at hi;have:t=i:=(by simpa using hb);subst this;exact ha.get _ _ (by rw[h];simpa using hi)
   |false=>rw[hb]at hi;exact ha.get _ _ hi⟩ hw
section
variable{d:Option Tmp}{o:Op}{ty:TypeId}{pos:String}{aft:Array Edge}{g t:Nat}{want:Bool}
theorem QM(hg:(ops[g]?).bind (·.dst)=some t)(hb:look m t=some (.bool want))(ht:JS P ops Q (⟨d,o,ty,pos,aft,none⟩::l) N m E)(hd:J5 N d=true:=by rfl):JS P ops Q (⟨d,o,ty,pos,aft,some (g,want)⟩::l) N m E :=
 QCE hg hb (λ_=>ht) (λh=>by cases want<;>cases h) hd
theorem J1(hg:(ops[g]?).bind (·.dst)=some t)(hb:look m t=some (.bool want))(ht:JD P ops Q E0 (⟨d,o,ty,pos,aft,none⟩::l) N m E)(hd:J5 N d=true:=by rfl):JD P ops Q E0 (⟨d,o,ty,pos,aft,some (g,want)⟩::l) N m E :=
 QE7 hg hb (λ_=>ht) (λh=>by cases want<;>cases h) hd
theorem QL{d:Nat}{b:Bool}(hg:(ops[g]?).bind (·.dst)=some t)(hb:look m t=some (.bool b))(hw:b=!want)(hf:JS P ops Q l N ((d,undef)::m) E)(hd:J5 N (some d)=true:=by rfl):JS P ops Q (⟨some d,o,ty,pos,aft,some (g,want)⟩::l) N m E :=
 QCE hg hb (λh=>by subst h;cases b<;>cases hw) (λ_=>hf) hd
theorem Jw{d:Nat}{b:Bool}(hg:(ops[g]?).bind (·.dst)=some t)(hb:look m t=some (.bool b))(hw:b=!want)(hf:JD P ops Q E0 l N ((d,undef)::m) E)(hd:J5 N (some d)=true:=by rfl):JD P ops Q E0 (⟨some d,o,ty,pos,aft,some (g,want)⟩::l) N m E :=
 QE7 hg hb (λh=>by subst h;cases b<;>cases hw) (λ_=>hf) hd
end
theorem QAK{x y:Code}(m':Sl)(bs':List (Nat×Obj))(G':Gs->Prop)(h1:J P x (ZT λa w=>Ja N m' a/\St ⟨w0,F0,bs',G'⟩ w) N m ⟨w0,F0,bs,G⟩)(h2:J P y Q N m' ⟨w0,F0,bs',G'⟩):J P (.seq x y) Q N m ⟨w0,F0,bs,G⟩:=λa w ha hw=>by
 refine wp_seq (wp_mono (h1 a w ha hw) ?_);intro e a' w' h;cases e with
 |normal=>exact h2 a' w' h.1 h.2
 |_=>exact h.elim
theorem JY{m':Sl}{G':Gs->Prop}(hm:KL m m')(hb:bs'.Sublist bs)(hg:∀F,G F->G' F):Fin (ZT λa w=>Ja N m' a/\St ⟨w0,F0,bs',G'⟩ w) .normal N m ⟨w0,F0,bs,G⟩ :=
 λa w ha hw=>⟨ha.sub hm,hw.imp hb hg⟩
end
theorem BU{x y:Code}(M:ι->Sl)(B:ι->List (Nat×Obj))(H:ι->Gs->Prop)
  (h1:J P x (ZT λa w=>∃i,Ja N (M i) a/\St ⟨w0,F0,B i,H i⟩ w) N m ⟨w0,F0,bs,G⟩) (h2:∀i,J P y Q N (M i) ⟨w0,F0,B i,H i⟩):J P (.seq x y) Q N m ⟨w0,F0,bs,G⟩:=λa w ha hw=>by
 refine wp_seq (wp_mono (h1 a w ha hw) ?_);intro e a' w' h;cases e with
 |normal=>obtain⟨i,h3,h4⟩:=h;exact h2 i a' w' h3 h4
 |_=>exact h.elim
theorem Zd{M:ι->Sl}{B:ι->List (Nat×Obj)}{H:ι->Gs->Prop}(i:ι)(hm:KL m (M i))(hb:(B i).Sublist bs)(hg:∀F,G F->H i F):
  Fin (ZT λa w=>∃i,Ja N (M i) a/\St ⟨w0,F0,B i,H i⟩ w) .normal N m ⟨w0,F0,bs,G⟩:=λa w ha hw=>⟨i,ha.sub hm,hw.imp hb hg⟩
inductive OW:Sl->Sl->Prop
 |refl {m:Sl}:OW m m
 |cons {k:Nat} {v:Value} {l m:Sl} (hk:(look m k).isNone=true) (h:OW l m):OW ((k,v)::l) m
theorem OW.look{l:Sl}(h:OW l m){t:Nat}{u:Value}(hu:YtbpmnjieoncbcaaGreatDoor.look m t=some u):YtbpmnjieoncbcaaGreatDoor.look l t=some u:=by
 induction h with
 |refl=>exact hu
 |cons hk h ih =>
  rename_i k v l m;have hne:aX k t=false:=by
   cases hb:aX k t with
   |false=>rfl
   |true=>have:k=t:=(by simpa using hb);subst this;rw[hu]at hk;cases hk
  simp only[YtbpmnjieoncbcaaGreatDoor.look,hne,cond_false];exact ih hu
section
variable{P:Program}{Q:Exit->Act->World->Prop}{N:Nat}{m l:Sl}{w0:World}{F0:Gs}{bs bs1:List (Nat×Obj)}{G G1:Gs->Prop}{x y:Code}
theorem Et(t:Nat)(v:Value)(h1:J P x (ZT λa w=>Ja N ((t,v)::m) a/\St ⟨w0,F0,bs,G⟩ w) N m ⟨w0,F0,bs,G⟩)(h2:J P y Q N ((t,v)::m) ⟨w0,F0,bs,G⟩):J P (.seq x y) Q N m ⟨w0,F0,bs,G⟩:=QAK _ _ _ h1 h2
theorem ZS{t:Nat}{v:Value}(he:OW l m)(ht:look l t=some v)(hb:bs.Sublist bs1)(hg:∀F,G1 F->G F):Fin (ZT λa w=>Ja N ((t,v)::m) a/\St ⟨w0,F0,bs,G⟩ w) .normal N l ⟨w0,F0,bs1,G1⟩:=λa w ha hw =>
 ⟨⟨ha.size,ha.df,λi u hi=>by
  simp only[look]at hi;cases hb:aX t i with
  |true=>rw[hb]at hi;have:t=i:=(by simpa using hb);subst this;exact ha.get _ _ (by rw[ht];simpa using hi)
  |false=>rw[hb]at hi;exact ha.get _ _ (he.look (by simpa using hi))⟩,hw.imp hb hg⟩
end
section
variable{P:Program}{N:Nat}{m:Sl}{S:World->Prop}{ty:TypeId}{v:Value}
theorem Qe{c:Operand}(hc:ev m c=some (.bool true))(hx:ev m x=some v)(hy:(ev m y).isSome=true):Qt P N m S (.pick c x y) ty v:=by
 obtain⟨u,hu⟩:=Option.isSome_iff_exists.1 hy;exact zK hc hx hu
theorem Qd{c:Operand}(hc:ev m c=some (.bool false))(hx:(ev m x).isSome=true)(hy:ev m y=some v):Qt P N m S (.pick c x y) ty v:=by
 obtain⟨u,hu⟩:=Option.isSome_iff_exists.1 hx;exact zK hc hu hy
theorem QAz{a:Int}(hx:ev m x=some (.int .i64 a))(hy:ev m y=some (.int .i64 1))(h:0<=a):Qt P N m S (.binOp .and T x y yT) ty (.int .i64 (a%2)):=λs w _ _ _ _ ha _=>by
 have e:IntKind.i64.wrap (((aP 64 a &&& aP 64 1).toNat:Nat):Int)=a%2:=by
  have h1:(aP 64 (1:Int)).toNat=1:=rfl;rw[fK,h1,Nat.and_one_is_mod,fz];have h2:((((a%((2^64:Nat):Int)).toNat%2:Nat)):Int)=a%2:=by
   have h3:(((2^64:Nat):Int))=18446744073709551616:=wu;rw[h3];omega
  rw[h2];exact CO O
 have h1:aP 64 (1:Int)=1#64:=rfl;rw[h1]at e;simp[execOp,ha.ev hx,ha.ev hy,eqGuard,binOp,hJ,bJ];exact e
theorem zH{k:IntKind}{a:Int}(hx:ev m x=some (.int .i64 a))(hy:ev m y=some (.int k 1)):Qt P N m S (.binOp .shr T x y yT) ty (.int .i64 (a/2)):=λs w _ _ _ _ ha _=>by
 have e:a.fdiv 2=a/2:=Int.fdiv_eq_ediv_of_nonneg a wu;simp[execOp,ha.ev hx,ha.ev hy,eqGuard,binOp,iS,bJ,e]
theorem GJ{e:TypeId}{q:Option Addr}{c:Nat}(hx:ev m x=some (.slice q n c))(hy:ev m y=some (.slice none 0 0))(hT:G9 P T=some e):Qt P N m S (.binOp .eql T x y yT) ty (.bool q.isNone):=λa w _ _ _ _ ha _=>by
 have:=er (P:=P) w T e q n c 0 0 (Q4 hT);simp[execOp,ha.ev hx,ha.ev hy,eqGuard,this]
theorem RE{e:TypeId}{q:Option Addr}{c:Nat}(hx:ev m x=some (.slice q n c))(hy:ev m y=some (.slice none 0 0))(hT:G9 P T=some e):Qt P N m S (.binOp .neq T x y yT) ty (.bool (!q.isNone)):=λa w _ _ _ _ ha _=>by
 have:=run_neq_slice_nil_any (P:=P) w T e q n c 0 0 (Q4 hT);simp[execOp,ha.ev hx,ha.ev hy,eqGuard,this]
theorem Q2{parts:Array (Nat×Operand)}{res:List Value}(hp:W4 m parts.toList=some ps)(hl:Zz P T=some pl)(hz:XE P T=some z)(hb:Ew pl ps z res):Qt P N m S (.build T parts) ty (.agg res.toArray):=λa w _ _ _ _ ha _=>by
 have hbt:P.built T ps=some res.toArray:=by
  unfold Zz at hl;unfold XE at hz;unfold Program.built;cases hi:P.info? T with
  |none=>rw[hi]at hl;cases hl
  |some i =>
   rw[hi]at hl hz;cases hu:P.underlying T with
   |none=>rw[hu]at hl;cases hl
   |some d =>
    rw[hu]at hl;cases d with
    |struct fields =>
     dsimp only at hl hz ⊢;cases hzz:i.zero with
     |none=>rw[hzz]at hz;cases hz
     |some zv =>
      rw[hzz]at hz;simp only[aQ,ai]at hz;rw[hl];have:=hb.fill;rw[<-hz]at this;simpa using this
    |_=>cases hl
 have e1:(parts.map λ(i,x)=>(i,a.eval x)).toList=ps:=by simpa using ha.parts hp
 have:=run_build (P:=P) w T (parts.map λ(i,x)=>(i,a.eval x)) _ (by rw[e1];exact hbt);simp only[execOp,aj,this,ak,aG]
end
end
def QHm(n:Nat)(l:Sl):Bool:=(l.take n).all λkv=>(look (l.drop n) kv.1).isNone
theorem exd(n:Nat){l m:Sl}(hb:QHm n l=true)(hm:l.drop n=m):OW l m:=by
 subst hm;unfold QHm at hb;have key:∀(a m:Sl),(a.all λkv=>(look m kv.1).isNone)=true->OW (a++m) m:=by
  intro a m
  induction a with
  |nil=>intro _;exact .refl
  |cons x a ih =>
   intro h;rw[List.all_cons,bG]at h;exact .cons h.1 (ih h.2)
 have:=key _ _ hb
 rwa [fg]at this
theorem QJO[Dr]{P:Program}{N:Nat}{m:Sl}{w0:World}{F0:Gs}{fn:Func}{val:Unit->Value}{fact:Unit->Gs->Prop}{bs:List (Nat×Obj)}{G:Gs->Prop}{t:Tmp}{v:Value}(hrs:fn.results=[ResultVar.tmp t].toArray)(h:look m t=some v)(hv:val ()=v)(hg:∀F,G F->fact () F):Fin (df:=DI) (bodyPost P fn (SO w0 F0 val fact)) .ret N m ⟨w0,F0,bs,G⟩ :=
 QS () hrs (.tmp h .nil) hv hg
def Ho.u1{x0:Nat×Obj}{r:List (Nat×Obj)}:Ho (x0::(b,o)::r) b o (λo'=>x0::(b,o')::r) (x0::r):=.there (.here)
def Ho.u2{x0:Nat×Obj}{r:List (Nat×Obj)}:Ho (x0::x1::(b,o)::r) b o (λo'=>x0::x1::(b,o')::r) (x0::x1::r):=.there (.there (.here))
def Ho.u3{x0 x2:Nat×Obj}{r:List (Nat×Obj)}:Ho (x0::x1::x2::(b,o)::r) b o (λo'=>x0::x1::x2::(b,o')::r) (x0::x1::x2::r):=.there (.there (.there (.here)))
def Ho.u4{x0 x2 x3:Nat×Obj}{r:List (Nat×Obj)}:Ho (x0::x1::x2::x3::(b,o)::r) b o (λo'=>x0::x1::x2::x3::(b,o')::r) (x0::x1::x2::x3::r):=.there (.there (.there (.there (.here))))
def Ho.u5{x0 x2 x3 x4:Nat×Obj}{r:List (Nat×Obj)}:Ho (x0::x1::x2::x3::x4::(b,o)::r) b o (λo'=>x0::x1::x2::x3::x4::(b,o')::r) (x0::x1::x2::x3::x4::r):=.there (.there (.there (.there (.there (.here)))))
def Ho.u6{x0 x2 x3 x4 x5:Nat×Obj}{r:List (Nat×Obj)}:Ho (x0::x1::x2::x3::x4::x5::(b,o)::r) b o (λo'=>x0::x1::x2::x3::x4::x5::(b,o')::r) (x0::x1::x2::x3::x4::x5::r):=.there (.there (.there (.there (.there (.there (.here))))))
theorem wM{a b:Int}(h:a=b:=by omega):some (aK .i64 a)=some (aK .i64 b):=congrArg (λz:Int=>some (aK .i64 z)) h
def wN{t:Tmp}{v:Value}(h:look m t=some v):Er P m bs [.tmp t] [v]:=.tmp h .nil
def wO{t t':Tmp}{v v':Value}(h:look m t=some v)(h':look m t'=some v'):Er P m bs [.tmp t,.tmp t'] [v,v']:=.tmp h (.tmp h' .nil)
def wP{v a b x y:Value}(hf:pl=[(0,1),(1,1)])(ha:u.cells=[a].toArray)(hb:v.cells=[b].toArray):Ew pl [(0,u),(1,v)] [x,y] [a,b]:=by subst hf;exact .cons (vs:=[a]) I ha rfl .h1 (.cons (vs:=[b]) I hb rfl (.skip .h1) .nil)
def wH[Dr][df:Df]{P:Program}{N:Nat}{m:Sl}{w0:World}{F0:Gs}{bs:List (Nat×Obj)}{G:Gs->Prop}{T T' ty:TypeId}{x:Operand}{b:Nat}{l:List Value}{u0 u1:Value}{fr:Nat×Nat}{f:Obj->List (Nat×Obj)}(h:ev m x=some (.pointer (some ⟨b,0,none⟩)))(ht:Z5 P T=some (true,2))(ho:Own bs b (.cells (u0::u1::l).toArray T' fr) f):Qt P N m (St ⟨w0,F0,bs,G⟩) (.load T x) ty (.agg [u0,u1].toArray):=QJ (vs:=[u0,u1]) h ht ho .h2 rfl
def wI[Dr][df:Df]{P:Program}{N:Nat}{m:Sl}{w0:World}{F0:Gs}{bs:List (Nat×Obj)}{G:Gs->Prop}{T T' ty:TypeId}{x:Operand}{b:Nat}{l:List Value}{u0 u1 u2:Value}{fr:Nat×Nat}{f:Obj->List (Nat×Obj)}(h:ev m x=some (.pointer (some ⟨b,0,none⟩)))(ht:Z5 P T=some (true,3))(ho:Own bs b (.cells (u0::u1::u2::l).toArray T' fr) f):Qt P N m (St ⟨w0,F0,bs,G⟩) (.load T x) ty (.agg [u0,u1,u2].toArray):=QJ (vs:=[u0,u1,u2]) h ht ho .h3 rfl
def wJ[Dr][df:Df]{P:Program}{N:Nat}{m:Sl}{w0:World}{F0:Gs}{bs:List (Nat×Obj)}{G:Gs->Prop}{T T' ty:TypeId}{x:Operand}{b:Nat}{l:List Value}{u0 u1 u2 u3:Value}{fr:Nat×Nat}{f:Obj->List (Nat×Obj)}(h:ev m x=some (.pointer (some ⟨b,0,none⟩)))(ht:Z5 P T=some (true,4))(ho:Own bs b (.cells (u0::u1::u2::u3::l).toArray T' fr) f):Qt P N m (St ⟨w0,F0,bs,G⟩) (.load T x) ty (.agg [u0,u1,u2,u3].toArray):=QJ (vs:=[u0,u1,u2,u3]) h ht ho .h4 rfl
def wK[Dr][df:Df]{P:Program}{N:Nat}{m:Sl}{w0:World}{F0:Gs}{bs:List (Nat×Obj)}{G:Gs->Prop}{T T' ty:TypeId}{x:Operand}{b:Nat}{l:List Value}{u0 u1 u2 u3 u4 u5 u6 u7:Value}{fr:Nat×Nat}{f:Obj->List (Nat×Obj)}(h:ev m x=some (.pointer (some ⟨b,0,none⟩)))(ht:Z5 P T=some (true,8))(ho:Own bs b (.cells (u0::u1::u2::u3::u4::u5::u6::u7::l).toArray T' fr) f):Qt P N m (St ⟨w0,F0,bs,G⟩) (.load T x) ty (.agg [u0,u1,u2,u3,u4,u5,u6,u7].toArray):=QJ (vs:=[u0,u1,u2,u3,u4,u5,u6,u7]) h ht ho .h8 rfl
def wL[Dr][df:Df]{P:Program}{N:Nat}{m:Sl}{w0:World}{F0:Gs}{bs:List (Nat×Obj)}{G:Gs->Prop}{T T' ty:TypeId}{x:Operand}{b:Nat}{l:List Value}{a0 a1 a2 a3 u0 u1 u2 u3:Value}{fr:Nat×Nat}{f:Obj->List (Nat×Obj)}(h:ev m x=some (.pointer (some ⟨b,4,none⟩)))(ht:Z5 P T=some (true,4))(ho:Own bs b (.cells (a0::a1::a2::a3::u0::u1::u2::u3::l).toArray T' fr) f):Qt P N m (St ⟨w0,F0,bs,G⟩) (.load T x) ty (.agg [u0,u1,u2,u3].toArray):=QJ (vs:=[u0,u1,u2,u3]) h ht ho (.skip (.skip (.skip (.skip .h4)))) I

section
open Go Go.RowKit
section
variable[Dr][df:Df]
inductive AFr where
 |th (y:Code) | bl (id:Nat)
inductive AG where
 |j (c:Code) | s (ops:Array Oper) (l:List Oper) | f (e:Exit)
variable{P:Program}{Q:Exit->Act->World->Prop}{N:Nat}{m m':Sl}{E:Env}
@[reducible] def wC (P:Program) (Q:Exit->Act->World->Prop):List AFr->Exit->Act->World->Prop
 |[]=>Q
 |.th y::r=>Exit.then (y.wp P (wC P Q r)) (wC P Q r)
 |.bl id::r=>bc id (wC P Q r)
@[reducible] def wD (P:Program) (Q:Exit->Act->World->Prop) (N:Nat) (E:Env):AG->List AFr->Sl->Prop
 |.j c,st,m=>J P c (wC P Q st) N m E
 |.s ops l,st,m=>JS P ops (wC P Q st) l N m E
 |.f e,st,m=>Fin (wC P Q st) e N m E
def wE(m:Sl):Op->Option Value
 |.move x=>ev m x
 |.assign x=>ev m x
 |.binOp op _ x y _=>(ev m x).bind λvx=>(ev m y).bind λvy=>Cb op vx vy
 |.pick c x y=>match ev m c with
  |some (.bool true)=>if(ev m y).isSome then ev m x else none
  |some (.bool false)=>if(ev m x).isSome then ev m y else none
  |_=>none
 |.extract x i=>match ev m x with
  |some (.tuple vs)=>vs[i]?
  |_=>none
 |_=>none
def wF(N:Nat):AG->List AFr->Sl->Option (AG×List AFr×Sl)
 |.j (.seq x y),st,m=>some (.j x,.th y::st,m)
 |.j (.region _ ⟨l⟩ false),st,m=>some (.s l.toArray l,st,m)
 |.j (.block id c),st,m=>some (.j c,.bl id::st,m)
 |.j .skip,st,m=>some (.f .normal,st,m)
 |.j .ret,st,m=>some (.f .ret,st,m)
 |.j (.exit id),st,m=>some (.f (.exit id),st,m)
 |.f .normal,.th y::st,m=>some (.j y,st,m)
 |.f .normal,.bl _::st,m=>some (.f .normal,st,m)
 |.f (.exit i),.th _::st,m=>some (.f (.exit i),st,m)
 |.f (.exit i),.bl id::st,m=>match aX i id with
  |true=>some (.f .normal,st,m)
  |false=>some (.f (.exit i),st,m)
 |.f .ret,_::st,m=>some (.f .ret,st,m)
 |.s _ [],st,m=>some (.f .normal,st,m)
 |.s ops (⟨some d,o,_,_,_,none⟩::l),st,m=>match wE m o,J5 N (some d)with
  |some v,true=>some (.s ops l,st,(d,v)::m)
  |_,_=>none
 |.s ops (⟨d,o,ty,pos,aft,some (g,want)⟩::l),st,m=>match ((ops[g]?).bind (·.dst)).bind (look m),J5 N d with
  |some (.bool b),true=>match Bool.xor b want with
   |false=>some (.s ops (⟨d,o,ty,pos,aft,none⟩::l),st,m)
   |true=>some (.s ops l,st,upd m d undef)
  |_,_=>none
 |_,_,_=>none
def wG(N:Nat):Nat->AG->List AFr->Sl->Option (AG×List AFr×Sl)
 |0,g,st,m=>some (g,st,m)
 |n+1,g,st,m=>match wF N g st m with
  |some (g',st',m')=>wG N n g' st' m'
  |none=>none
theorem QHq{S:World->Prop}{ty:TypeId}{o:Op}{v:Value}(h:wE m o=some v):Qt P N m S o ty v:=by
 unfold wE at h;split at h
 ·exact QD h
 ·exact QF h
 ·obtain⟨vx,h1,h2⟩:=Option.bind_eq_some_iff.1 h;obtain⟨vy,h3,h4⟩:=Option.bind_eq_some_iff.1 h2;exact QT h1 h3 h4
 ·split at h
  ·rename_i hc;split at h
   ·rename_i hy;exact Qe hc h hy
   cases h
  ·rename_i hc;split at h
   ·rename_i hy;exact Qd hc hy h
   cases h
  cases h
 ·split at h
  ·rename_i hx;exact QX hx h
  cases h
 cases h
theorem QG5{g g':AG}{st st':List AFr}(h:wF N g st m=some (g',st',m'))(k:wD P Q N E g' st' m'):wD P Q N E g st m:=by
 unfold wF at h;split at h
 ·cases h;exact QG k
 ·cases h;exact QB k
 ·cases h;exact QW k
 ·cases h;exact QO k
 ·cases h;exact QY k
 ·cases h;exact Qz k
 ·cases h;exact QC k
 ·cases h;exact Qk k
 ·cases h;exact QZ k
 ·split at h
  ·rename_i he;cases h;have he:=Nat.eq_of_beq_eq_true he;subst he;exact Qa k
  rename_i he;cases h;exact QQ he k
 ·rename_i fr _;cases h;cases fr with
  |th y=>exact Q6 k
  |bl id=>exact Qy k
 ·cases h;exact QE k
 ·split at h
  ·rename_i hv hd;cases h;exact QA (QHq hv) k hd
  cases h
 ·split at h
  ·rename_i hb hd;obtain⟨t,h1,h2⟩:=Option.bind_eq_some_iff.1 hb;split at h
   ·rename_i hx;cases h;exact QCE h1 h2 (λ_=>k) (λe=>by subst e;simp at hx) hd
   rename_i hx;cases h;exact QCE h1 h2 (λe=>by subst e;simp at hx) (λ_=>k) hd
  cases h
 cases h
theorem jC:∀(n:Nat) {g g':AG} {st st':List AFr} {m m':Sl},wG N n g st m=some (g',st',m')->wD P Q N E g' st' m'->wD P Q N E g st m
 |0,g,g',st,st',m,m',h,k=>by cases h;exact k
 |n+1,g,g',st,st',m,m',h,k=>by
  unfold wG at h;split at h
  ·rename_i h1;exact QG5 h1 (jC n h k)
  cases h
variable(n:Nat){g':AG}{st':List AFr}
theorem wA{c:Code}(h:wG N n (.j c) [] m=some (g',st',m'))(k:wD P Q N E g' st' m'):J P c Q N m E:=jC (g:=.j c) (st:=[]) n h k
theorem wB{l:List Oper}(h:wG N n (.s ops l) [] m=some (g',st',m'))(k:wD P Q N E g' st' m'):JS P ops Q l N m E:=jC (g:=.s ops l) (st:=[]) n h k
theorem QJL{c y:Code}(h:wG N n (.j c) [.th y] m=some (g',st',m'))(k:wD P Q N E g' st' m'):J P c (Exit.then (y.wp P Q) Q) N m E:=jC (g:=.j c) (st:=[.th y]) n h k
theorem QJK{l:List Oper}{y:Code}(h:wG N n (.s ops l) [.th y] m=some (g',st',m'))(k:wD P Q N E g' st' m'):JS P ops (Exit.then (y.wp P Q) Q) l N m E:=jC (g:=.s ops l) (st:=[.th y]) n h k
theorem QJM{y:Code}(h:wG N n (.f .normal) [.th y] m=some (g',st',m'))(k:wD P Q N E g' st' m'):Fin (Exit.then (y.wp P Q) Q) .normal N m E:=jC (g:=.f .normal) (st:=[.th y]) n h k
end
end
theorem JO:Z5 prog 3=some (false,1):=wm
theorem SP:XE prog 3=some [.int .i64 0]:=wm
theorem OM:ZM prog 3=some 8:=wm
theorem k_3:Nk prog 3=some .i64:=wm
theorem QDY:(prog.underlying 3).isSome=true:=wm
theorem gN:Z5 prog 5=some (false,1):=wm
theorem z_5:XE prog 5=some [.int .u8 0]:=wm
theorem QG4:ZM prog 5=some 1:=wm
theorem Dq:Z5 prog 9=some (false,1):=wm
theorem z_9:XE prog 9=some [.string .empty]:=wm
theorem QG3:ZM prog 9=some 16:=wm
theorem Zk:BZ prog 9=true:=wm
theorem JP:Z5 prog 27=some (false,1):=wm
theorem Cn:XE prog 27=some [.string .empty]:=wm
theorem QEn:ZM prog 27=some 16:=wm
theorem Jq:Z5 prog 38=some (true,2):=wm
theorem Xe:XE prog 38=some [.string .empty,.string .empty]:=wm
theorem QCi:ZM prog 38=some 32:=wm
theorem ZZ:Zz prog 38=some [(0,1),(1,1)]:=wm
theorem B4:YZ prog 38 0=some (0,27):=wm
theorem De:YZ prog 38 1=some (1,27):=wm
theorem YV:Z5 prog 41=some (false,1):=wm
theorem Hz:XE prog 41=some [.int .i64 0]:=wm
theorem JZ:Z5 prog 24=some (false,1):=wm
theorem QDU:XE prog 24=some [.slice none 0 0]:=wm
theorem QEo:ZM prog 24=some 24:=wm
theorem J9:G9 prog 24=some 38:=wm
theorem KE:G9 prog 54=some 27:=wm
theorem Wh:Z5 prog 56=some (false,1):=wm
theorem QDS:XE prog 56=some [.slice none 0 0]:=wm
theorem Kz:G9 prog 56=some 59:=wm
theorem Yx:Z5 prog 23=some (false,1):=wm
theorem V7:G9 prog 23=some 56:=wm
theorem Jz:Z5 prog 57=some (false,1):=wm
theorem JC:G9 prog 57=some 3:=wm
theorem VA:Z5 prog 59=some (true,2):=wm
theorem Dv:XE prog 59=some [.string .empty,.slice none 0 0]:=wm
theorem RH:Zz prog 59=some [(0,1),(1,1)]:=wm
theorem Rk:YZ prog 59 0=some (0,27):=wm
theorem Gw:YZ prog 59 1=some (1,57):=wm
theorem VW:Z5 prog 114=some (false,1):=wm
theorem Y8:G9 prog 114=some 256:=wm
theorem Qi:Z5 prog 116=some (true,2):=wm
theorem Yl:XE prog 116=some [.int .i64 0,.slice none 0 0]:=wm
theorem QA7:Zz prog 116=some [(0,1),(1,1)]:=wm
theorem EZ:YZ prog 116 0=some (0,3):=wm
theorem Bm:YZ prog 116 1=some (1,114):=wm
theorem QN:Z5 prog 118=some (true,4):=wm
theorem Jy:XE prog 118=some [.int .i64 0,.slice none 0 0,.int .i64 0,.slice none 0 0]:=wm
theorem QB0:ZM prog 118=some 64:=wm
theorem ML:Zz prog 118=some [(0,2),(2,2)]:=wm
theorem Zo:YZ prog 118 0=some (0,116):=wm
theorem Zn:YZ prog 118 1=some (2,116):=wm
theorem YI:Z5 prog 172=some (false,1):=wm
theorem U8:XE prog 172=some [.slice none 0 0]:=wm
theorem kX:ZM prog 172=some 24:=wm
theorem Yp:G9 prog 172=some 227:=wm
theorem Xu:Z5 prog 227=some (true,5):=wm
theorem GD:XE prog 227=some [.int .i64 0,.slice none 0 0,.int .i64 0,.slice none 0 0,.slice none 0 0]:=wm
theorem QBx:ZM prog 227=some 88:=wm
theorem zg:Zz prog 227=some [(0,4),(4,1)]:=wm
theorem Wn:YZ prog 227 0=some (0,118):=wm
theorem Vp:YZ prog 227 1=some (4,57):=wm
theorem YJ:Z5 prog 149=some (false,1):=wm
theorem YW:G9 prog 149=some 172:=wm
theorem XZ:G9 prog 142=some 118:=wm
theorem ZJ:G9 prog 188=some 41:=wm
theorem cS:Nk prog 284=some .u64:=wm
theorem Po:Z5 prog 256=some (false,1):=wm
theorem QDT:XE prog 256=some [.int .u64 0]:=wm
theorem VG:Z5 prog 22=some (false,1):=wm
theorem Ku:G9 prog 22=some 9:=wm
theorem MA:Z5 prog 276=some (false,1):=wm
theorem H2:Z5 prog 277=some (false,1):=wm
theorem LU:G9 prog 277=some 5:=wm
theorem uc:XE prog 279=some [.pointer none,.slice none 0 0]:=wm
theorem Ug:YZ prog 279 0=some (0,276):=wm
theorem N5:YZ prog 279 1=some (1,277):=wm
theorem mixed:prog.follows .mixedOrders=true:=wm
end Go.Proofs.YtbpmnjieoncbcaaGreatDoor
namespace Ig
def dv(b:Int):List Int->Int
 |[]=>0
 |x::l=>x+b*dv b l
def DG(b:Int)(l:List Int):Prop:=∀x∈l,0<=x/\x<b
def NZ(l:List Int):Prop:=l.getLast?≠some 0
@[simp] theorem kD (b:Int):dv b []=0:=rfl
@[simp] theorem VV (b x:Int) (l:List Int):dv b (x::l)=x+b*dv b l:=rfl
theorem YC(b:Int)(l m:List Int):dv b (l++m)=dv b l+b^l.length*dv b m:=by
 induction l with
 |nil=>simp
 |cons x l ih=>simp only[fW,VV,ih,aO];rw[aC];grind
def X6(b x:Int)(l:List Int):dv b (l++[x])=dv b l+b^l.length*x:=by
 rw[YC];simp
def DG.nil(b:Int):DG b []:=by intro x hx;cases hx
def DG.cons{b x:Int}{l:List Int}(h0:0<=x)(h1:x<b)(h:DG b l):DG b (x::l):=by
 intro y hy;rcases List.mem_cons.1 hy with rfl | hy
 ·exact⟨h0,h1⟩
 exact h y hy
def DG.head{b x:Int}{l:List Int}(h:DG b (x::l)):0<=x/\x<b:=h x wz
def DG.tail{b x:Int}{l:List Int}(h:DG b (x::l)):DG b l:=λy hy=>h y (by simp[hy])
def DG.append{b:Int}{l m:List Int}(h:DG b l)(k:DG b m):DG b (l++m):=by
 intro x hx;rcases List.mem_append.1 hx with hx | hx
 ·exact h x hx
 exact k x hx
def DG.left{b:Int}{l m:List Int}(h:DG b (l++m)):DG b l:=λx hx=>h x (by simp[hx])
def DG.right{b:Int}{l m:List Int}(h:DG b (l++m)):DG b m:=λx hx=>h x (by simp[hx])
def DG.take{b:Int}{l:List Int}(h:DG b l)(n:Nat):DG b (l.take n):=λx hx=>h x (List.mem_of_mem_take hx)
def DG.drop{b:Int}{l:List Int}(h:DG b l)(n:Nat):DG b (l.drop n):=λx hx=>h x (List.mem_of_mem_drop hx)
def DG.replicate{b:Int}(hb:0<b)(n:Nat):DG b (ah n 0):=by
 intro x hx;have:=List.eq_of_mem_replicate hx;omega
def DG.getD{b:Int}{l:List Int}(hb:0<b)(h:DG b l)(i:Nat):0<=l.getD i 0/\l.getD i 0<b:=by
 by_cases hi:i<l.length
 ·have:l.getD i 0=l[i]:=by simp[bF,hi]
  rw[this];exact h _ (fV hi)
 have:l.getD i 0=0:=by simp[bF,hi]
 omega
def DG.set{b:Int}{l:List Int}(h:DG b l)(i:Nat){x:Int}(h0:0<=x)(h1:x<b):DG b (l.set i x):=by
 intro y hy;rcases List.mem_or_eq_of_mem_set hy with hy | rfl
 ·exact h y hy
 exact⟨h0,h1⟩
def pow_pos{b:Int}(hb:0<b)(n:Nat):0<b^n:=lk hb
def Xz{b:Int}(hb:1<=b){m n:Nat}(h:m<=n):b^m<=b^n:=by
 obtain⟨k,rfl⟩:=Nat.exists_eq_add_of_le h;rw[fB];have h1:=pow_pos (b:=b) O m;have h2:=pow_pos (b:=b) O k;have h3:b^m*1<=b^m*b^k:=af O O;omega
def JG{b:Int}(hb:0<b):∀ {l:List Int},DG b l->0<=dv b l
 |[],_=>wz
 |x::l,h=>by
  have:=JG hb h.tail;have:=aJ (bh hb) this;have:=h.head;simp;omega
def Km{b:Int}(hb:0<b):∀ {l:List Int},DG b l->dv b l<b^l.length
 |[],_=>wz
 |x::l,h=>by
  have h1:=Km hb h.tail;have h2:=h.head;have h3:b*(dv b l+1)<=b*b^l.length:=af O (bh hb);rw[aO,aC,bP (b^l.length) b];rw[fC]at h3;simp;omega
def TU(b:Int)(n:Nat):dv b (ah n 0)=0:=by
 induction n with
 |zero=>rfl
 |succ n ih=>simp[bj,ih]
def Vj(b:Int)(l:List Int)(n:Nat)(h:n<=l.length):dv b l=dv b (l.take n)+b^n*dv b (l.drop n):=by
 have:=YC b (l.take n) (l.drop n);rw[fg,aq,aS h]at this;exact this
def GH{α:Type}(l:List α)(n:Nat)(h:n<l.length):l.take (n+1)=l.take n++[l[n]]:=by
 rw[List.take_succ_eq_append_getElem h]
def Bn(b:Int)(l:List Int)(n:Nat)(h:n<l.length):dv b (l.take (n+1))=dv b (l.take n)+b^n*l[n]:=by
 rw[GH l n h,X6,aq,aS O]
def Rs{b:Int}(hb:0<b){l:List Int}(h:DG b l)(hn:NZ l)(hl:l≠[]):b^(l.length-1)<=dv b l:=by
 obtain⟨m,x,rfl⟩:∃m x,l=m++[x]:=⟨l.dropLast,l.getLast hl,(eO hl).symm⟩;rw[X6];have h1:x≠0:=by intro e;subst e;exact hn wz
 have h2:=h x wz;have h3:=JG hb h.left;have h4:=pow_pos hb m.length;have h5:b^m.length*1<=b^m.length*x:=af O O;simp;omega
def Je(l:List Int):List Int:=(l.reverse.dropWhile (·==0)).reverse
def Kt(l:List Int):Je (l++[0])=Je l:=by simp[Je]
def H6(l:List Int){x:Int}(h:x≠0):Je (l++[x])=l++[x]:=by simp[Je,h]
def Ik:Je []=[]:=rfl
def LS(l:List Int):l=[]\/∃m x,l=m++[x]:=by
 by_cases hl:l=[]
 ·exact .inl hl
 exact .inr ⟨l.dropLast,l.getLast hl,(eO hl).symm⟩
def AY{P:List Int->Prop}(h0:P [])(h1:∀l x,P l->P (l++[x]))(l:List Int):P l:=by
 have:∀m:List Int,P m.reverse:=by
  intro m;induction m with
  |nil=>exact h0
  |cons x m ih=>rw[List.reverse_cons];exact h1 _ _ ih
 simpa using this l.reverse
def Sj(l:List Int):∃n,l=Je l++ah n 0:=by
 induction l using AY with
 |h0=>exact⟨0,rfl⟩
 |h1 l x ih =>
  by_cases hx:x=0
  ·subst hx;obtain⟨n,hn⟩:=ih;refine⟨n+1,?_⟩;rw[Kt,List.replicate_succ',<-bz,<-hn]
  exact⟨0,by rw[H6 l hx];simp⟩
def Pr(l:List Int):Je l=l.take (Je l).length:=by
 obtain⟨n,hn⟩:=Sj l;have:l.take (Je l).length=(Je l++ah n 0).take (Je l).length:=by rw[<-hn]
 rw[this];simp
def ZE(b:Int)(l:List Int):dv b (Je l)=dv b l:=by
 obtain⟨n,hn⟩:=Sj l;have:dv b l=dv b (Je l++ah n 0):=by rw[<-hn]
 rw[this,YC,TU];simp
def Zv(l:List Int):NZ (Je l):=by
 induction l using AY with
 |h0=>simp[Ik,NZ]
 |h1 l x ih =>
  by_cases hx:x=0
  ·subst hx;rw[Kt];exact ih
  rw[H6 l hx];simp[NZ,hx]
def DG.Je{b:Int}{l:List Int}(h:DG b l):DG b (Je l):=by rw[Pr];exact h.take _
def Rr{b:Int}(hb:0<b):∀ {l m:List Int},DG b l->DG b m->l.length=m.length->dv b l=dv b m->l=m
 |[],[],_,_,_,_=>rfl
 |x::l,y::m,h,k,hl,e=>by
  have h1:=h.head;have h2:=k.head;simp only[VV]at e;have e1:x=y:=by
   have a1:(x+b*dv b l)%b=x:=by rw[e8];exact bT h1.1 h1.2
   have a2:(y+b*dv b m)%b=y:=by rw[e8];exact bT h2.1 h2.2
   rw[<-a1,<-a2,e]
  subst e1;have e2:b*dv b l=b*dv b m:=O;have e3:=Int.eq_of_mul_eq_mul_left O e2;rw[Rr hb h.tail k.tail (by simpa using hl) e3]
def ZQ{b:Int}(hb:1<b){l m:List Int}(h:DG b l)(k:DG b m)(km:NZ m)(hl:l.length<m.length):dv b l<dv b m:=by
 have h1:=Km O h;have h2:=Rs O k km (by intro e;subst e;simp at hl);have h3:b^l.length<=b^(m.length-1):=Xz O O;omega
def p8{b:Int}(hb:1<b){l m:List Int}(h:DG b l)(k:DG b m)(hn:NZ l)(kn:NZ m)(e:dv b l=dv b m):l=m:=by
 refine Rr O h k ?_ e;rcases fT l.length m.length with g | g | g
 ·have:=ZQ hb h k kn g;omega
 ·exact g
 have:=ZQ hb k h hn g;omega
def W7{b:Int}(hb:1<b){l:List Int}(h:DG b l)(hn:NZ l):dv b l=0↔l=[]:=by
 constructor
 ·intro e;exact p8 hb h (DG.nil b) hn (by simp[NZ]) (by simpa using e)
 rintro rfl;rfl
def MG(x:Int):Int:=if x<0 then -1 else if x=0 then 0 else 1
def YE(x y:Int):Int:=if x<y then -1 else if x=y then 0 else 1
def kS(x y:Int):YE x y=MG (x-y):=by unfold YE MG;split<;>split<;>(try split)<;>omega
def OA{b:Int}(hb:0<b){l m:List Int}{x y:Int}(h:DG b l)(k:DG b m)(hl:l.length=m.length)(hxy:x<y):
  dv b (l++[x])<dv b (m++[y]):=by
 rw[X6,X6,hl];have h1:=Km hb h;have h2:=JG hb k;rw[hl]at h1;have h3:b^m.length*(x+1)<=b^m.length*y:=af O (bh (pow_pos hb _));rw[fC]at h3;omega
def OJ{b:Int}(hb:0<b){l m:List Int}(h:DG b l)(k:DG b m)(hl:l.length=m.length)(n:Nat)(hn:n<l.length)
  (hs:l.drop (n+1)=m.drop (n+1)) (hxy:l[n]<m[n]' O):dv b l<dv b m:=by
 rw[Vj b l (n+1) O,Vj b m (n+1) O,hs,GH l n hn,GH m n O];have:=OA hb (h.take n) (k.take n) w6 hxy;omega
end Ig
namespace Go.Proofs.YtbpmnjieoncbcaaGreatDoor
variable{w w' w0:World}{E N b bytes i k n off:Nat}{a:Act}{c cs l l' news z:List Value}{o:Obj}{u v1 v3 v4 v5 x2 x3 x4 x5 x6 x7 x8:Value}{A0 A1 A2 A3 A4 A5 A6 A7 A8 A9 α γ ι:Type}{T T' yT:TypeId}{ops:Array Oper}{Q Q':Exit->Act->World->Prop}{tl:List Oper}{K:Act->World->Prop}{g:Bool}{x y:Operand}{bs bs' bs0 ob:List (Nat×Obj)}{fr:Nat×Nat}{P:Program}{f:Obj->List (Nat×Obj)}{fn:Func}{aft:Array Edge}{gd:Option (Nat×Bool)}{x1:Nat×Obj}{ps:List (Nat×Value)}{s:ByteArray}{pl:List (Nat×Nat)}{ds:List Int}{h:Int}{F F0:Gs}{G:Gs->Prop}{m:Sl}
open Go.RowKit Ig
def W:Int:=18446744073709551616
def G5:W=18446744073709551616:=rfl
def Ju:0<W:=wu
def Ni:1<W:=wu
def KC(w:World)(s:Int)(q:Option Addr)(n cap:Nat)(z:Int):Prop :=
 (q=none/\n=0/\cap=0/\s=z/\-9223372036854775808<=z/\z<=9223372036854775807) \/
 ∃(b off:Nat) (l:List Int),q=some ⟨b,off,none⟩/\n=l.length/\l.length<=cap/\(cap:Int)<=9223372036854775807/\Cells w q Jj l /\
  DG W l/\NZ l/\l≠[]/\(s=1\/s = -1)/\z=s*dv W l/\9223372036854775808<=dv W l
def Xf(w:World)(v:Value)(z:Int):Prop:=∃s q n cap,v = .agg #[.int .i64 s,.slice q n cap]/\KC w s q n cap z
theorem KC.ext(h:Ext w w'){s:Int}{q:Option Addr}{n cap:Nat}{z:Int}(hv:KC w s q n cap z):KC w' s q n cap z:=by
 rcases hv with hv | ⟨b,off,l,h1,h2,h3,h4,h5,h6⟩
 ·exact .inl hv
 exact .inr ⟨b,off,l,h1,h2,h3,h4,h5.ext h,h6⟩
theorem Xf.ext(h:Ext w w'){v:Value}{z:Int}(hv:Xf w v z):Xf w' v z:=by
 obtain⟨s,q,n,cap,rfl,hp⟩:=hv;exact⟨s,q,n,cap,rfl,hp.ext h⟩
def Xf.small(w:World){z:Int}(h0 : -9223372036854775808<=z)(h1:z<=9223372036854775807):Xf w (.agg #[.int .i64 z,.slice none 0 0]) z :=
 ⟨z,none,0,0,rfl,.inl ⟨rfl,rfl,rfl,rfl,h0,h1⟩⟩
def Zh(w:World)(R:Value->World->Prop)(e:Ending)(w':World):Prop:=∃v,e = .returned v/\R v w'/\Ext w w'
def Jm(z:Int):Int:=if z<0 then -z else z
def EP{z:Int}(h:z<0):Jm z = -z:=if_pos h
def GO{z:Int}(h:0<=z):Jm z=z:=if_neg O
def VD(z:Int):Jm z=z.natAbs:=by unfold Jm;split<;>omega
def sg(neg:Bool)(n:Int):Int:=if neg then -n else n
theorem yQ(neg:Bool)(q:Option Addr)(cap:Nat)(w:World):
  Calls prog 212 #[.bool neg,.slice q 0 cap] w λe w'=>Zh w (λv w'=>Xf w' v 0) e w':=by
 go_enter func212,ntmps212
 go_wp2
 exact bodyPost_ret (v:=.agg #[.int .i64 0,.slice none 0 0]) (by simp[results,results212,go_sem]) I ⟨_,rfl,Xf.small _ wu wu,(Ext.refl _).alloc _⟩
theorem yP(neg:Bool)(b off cap:Nat)(x:Int)(w:World)(hc:w.cell? ⟨b,off,none⟩=some (.int .u64 x))(h0:0<=x)(h1:x<=9223372036854775807)(hb:b<w.heap.size):
  Calls prog 212 #[.bool neg,.slice (some ⟨b,off,none⟩) 1 cap] w λe w'=>Zh w (λv w'=>Xf w' v (sg neg x)) e w':=by
 cases neg
 ·go_enter func212,ntmps212
  go_wp2
  exact bodyPost_ret (v:=.agg #[.int .i64 x,.slice none 0 0]) (by simp[results,results212,go_sem]) I ⟨_,rfl,Xf.small _ O O,(Ext.refl _).alloc _⟩
 go_enter func212,ntmps212
 go_wp2
 exact bodyPost_ret (v:=.agg #[.int .i64 (-x),.slice none 0 0]) (by simp[results,results212,go_sem]) I ⟨_,rfl,Xf.small _ O O,(Ext.refl _).alloc _⟩
theorem qW(neg:Bool)(b off cap:Nat)(x:Int)(w:World)(hc:w.cell? ⟨b,off,none⟩=some (.int .u64 x))(h1:9223372036854775808<=x)(hb:b<w.heap.size):
  Calls prog 212 #[.bool neg,.slice (some ⟨b,off,none⟩) 1 cap] w λe w'=>e = .returned (.agg #[.int .i64 (if neg then -1 else 1),.slice (some ⟨b,off,none⟩) 1 cap])/\Ext w w':=by
 cases neg
 ·go_enter func212,ntmps212
  go_wp2
  exact bodyPost_ret (v:=.agg #[.int .i64 1,.slice (some ⟨b,off,none⟩) 1 cap]) (by simp[results,results212,go_sem]) I ⟨rfl,(Ext.refl _).alloc _⟩
 go_enter func212,ntmps212
 go_wp2
 exact bodyPost_ret (v:=.agg #[.int .i64 (-1),.slice (some ⟨b,off,none⟩) 1 cap]) (by simp[results,results212,go_sem]) I ⟨rfl,(Ext.refl _).alloc _⟩
theorem qV(neg:Bool)(q:Option Addr)(n cap:Nat)(w:World)(hn:2<=n):
  Calls prog 212 #[.bool neg,.slice q n cap] w λe w'=>e = .returned (.agg #[.int .i64 (if neg then -1 else 1),.slice q n cap])/\Ext w w':=by
 cases neg
 ·go_enter func212,ntmps212
  go_wp2
  exact bodyPost_ret (v:=.agg #[.int .i64 1,.slice q n cap]) (by simp[results,results212,go_sem]) I ⟨rfl,(Ext.refl _).alloc _⟩
 go_enter func212,ntmps212
 go_wp2
 exact bodyPost_ret (v:=.agg #[.int .i64 (-1),.slice q n cap]) (by simp[results,results212,go_sem]) I ⟨rfl,(Ext.refl _).alloc _⟩
theorem WL(neg:Bool)(v:Value)(l:List Int)(w:World)(hs:SL w v Jj l)(hd:DG W l)(hn:NZ l):
  Calls prog 212 #[.bool neg,v] w λe w'=>Zh w (λv w'=>Xf w' v (sg neg (dv W l))) e w':=by
 obtain⟨q,cap,rfl,h2,h3,h4⟩:=hs
 match l,hd,hn,h2,h4 with
 |[],hd,hn,h2,h4=>exact(yQ neg q cap w).mono λe w' h=>by cases neg<;>exact h
 |[x],hd,hn,h2,h4 =>
  obtain⟨b,off,rfl,hb,hc⟩:=h4 0 wz;have hx:=hd.head;have e1:dv W [x]=x:=wz;rw[e1];by_cases hx1:x<=9223372036854775807
  ·exact yP neg b off cap x w hc hx.1 hx1 hb.lt
  refine(qW neg b off cap x w hc O hb.lt).mono λe w' ⟨h,k⟩=>⟨_,h,⟨_,_,_,_,rfl,.inr ⟨b,off,[x],rfl,rfl,h2,h3,h4.ext k,hd,hn,wz,?_,?_,by rw[e1];omega⟩⟩,k⟩
  ·cases neg<;>simp
  cases neg<;>simp[sg]
 |x::y::l,hd,hn,h2,h4 =>
  obtain⟨b,off,rfl,hb,hc⟩:=h4 0 wz;refine(qV neg _ _ cap w wz).mono λe w' ⟨h,k⟩=>⟨_,h,⟨_,_,_,_,rfl,.inr ⟨b,off,x::y::l,rfl,rfl,h2,h3,h4.ext k,hd,hn,wz,?_,?_,?_⟩⟩,k⟩
  ·cases neg<;>simp
  ·cases neg<;>simp[sg]
  have:=Rs Ju hd hn wz;have h6:=Xz (b:=W) wu (m:=1) (n:=(x::y::l).length-1) wz;have h7:W^1=18446744073709551616:=wu;omega
theorem qL(s:Int)(b off n cap:Nat)(w:World):
  Calls prog 211 #[.agg #[.int .i64 s,.slice (some ⟨b,off,none⟩) n cap]] w λe w'=>e = .returned (.tuple #[.bool (decide (s<0)),.slice (some ⟨b,off,none⟩) n cap])/\Ext w w':=by
 have hn:=λw=>run_neq_slice_nil_any (P:=prog) w 114 256 (some ⟨b,off,none⟩) n cap 0 0 underlying114;go_enter func211,ntmps211
 go_wp2
 go_quiet (fail)
 go_wp2
 go_ret2
 exact⟨rfl,((Ext.refl _).alloc _).drewN _⟩
theorem Ll(w:World):
  Calls prog 211 #[.agg #[.int .i64 0,.slice none 0 0]] w λe w'=>e = .returned (.tuple #[.bool false,.slice none 0 0])/\Ext w w':=by
 have hn:=λw=>run_neq_slice_nil_any (P:=prog) w 114 256 none 0 0 0 0 underlying114;go_enter func211,ntmps211
 go_wp2
 go_ret2
 exact⟨rfl,(Ext.refl _).alloc _⟩
def Co(n:Int)(h0 : -9223372036854775808<=n)(h:n<0):IntKind.u64.wrap (wrap64 (-n))=Jm n:=by
 rw[EP h];have e:IntKind.u64.wrap (wrap64 (-n))=(wrap64 (-n))%18446744073709551616:=by simp[ig,fQ,bJ]
 rw[e];unfold wrap64;omega
theorem BB(n:Int)(w:World)(h0 : -9223372036854775808<=n)(h1:n<=9223372036854775807):
  Calls prog 210 #[.int .i64 n] w λe w'=>e = .returned (.int .u64 (Jm n))/\w=w':=by
 by_cases h:n<0
 ·have H:=aa (Co n h0 h);go_enter func210,ntmps210
  go_wp2
  go_ret
  exact⟨congrArg (λx=>fS (.int .u64 x)) H.out,rfl⟩
 have H:=aa (GO (z:=n) O);go_enter func210,ntmps210
 go_wp2
 go_ret
 exact⟨congrArg (λx=>fS (.int .u64 x)) H.out.symm,rfl⟩
theorem As(z:Int)(w:World)(hz:(z==0)=false)(h0 : -9223372036854775808<=z)(h1:z<=9223372036854775807):
  Calls prog 211 #[.agg #[.int .i64 z,.slice none 0 0]] w λe w'=>(∃b,e = .returned (.tuple #[.bool (decide (z<0)),.slice (some ⟨b,0,none⟩) 1 1])/\Y5 w' b 256 Jj [Jm z])/\Ext w w':=by
 have hn:=λw=>run_neq_slice_nil_any (P:=prog) w 114 256 none 0 0 0 0 underlying114;go_enter func211,ntmps211
 go_wp2
 go_region_held3 (λw'=>w'.cell? ⟨w.heap.size,0,none⟩=some (.int .i64 z)) (go_keep) (first | (go_at_call 210;refine(BB _ _ h0 h1).mono ?_;rintro e w' ⟨rfl,rfl⟩))
 go_wp2
 go_ret2
 exact⟨⟨_,rfl,(Y5.QGn _ _ 256 Jj [Jm z] _ I wz).drew⟩,(((Ext.refl _).alloc _).alloc _).drew⟩
theorem KH(v:Value)(z:Int)(w:World)(hv:Xf w v z):
  Calls prog 211 #[v] w λe w'=>Zh w (λr w'=>∃p l,r = .tuple #[.bool (decide (z<0)),p]/\SL w' p Jj l/\DG W l/\NZ l/\dv W l=Jm z) e w':=by
 obtain⟨s,q,n,cap,rfl,hp⟩:=hv;rcases hp with ⟨rfl,rfl,rfl,rfl,h0,h1⟩ | ⟨b,off,l,rfl,rfl,h3,h4,h5,h6,h7,h8,h9,h10,h11⟩
 ·by_cases hz:s=0
  ·subst hz;exact(Ll w).mono λe w' ⟨h,k⟩=>⟨_,h,⟨_,[],rfl,SL.nil _ _,DG.nil _,by simp[NZ],rfl⟩,k⟩
  refine(As s w (by simpa using hz) h0 h1).mono λe w' ⟨⟨b,h,hb⟩,k⟩=>⟨_,h,⟨_,[Jm s],rfl,SL.BG hb 1 (au _) wz,?_,?_,wz⟩,k⟩
  ·have:Jm s=s.natAbs:=VD s;have:=G5;exact DG.cons O O (DG.nil _)
  have:Jm s=s.natAbs:=VD s;simp[NZ];omega
 have hz:decide (s<0)=decide (z<0)/\dv W l=Jm z:=by
  rcases h9 with rfl | rfl
  ·rw[lz]at h10;rw[GO O];exact⟨w6,h10.symm⟩
  have:z = -dv W l:=by rw[h10];omega
  rw[EP O];exact⟨w6,O⟩
 refine(qL s b off _ cap w).mono λe w' ⟨h,k⟩=>⟨_,h,⟨_,l,by rw[hz.1],⟨_,_,rfl,h3,h4,h5.ext k⟩,h6,h7,hz.2⟩,k⟩
def Rb{l:List Int}(h:k<l.length):l.getD k default=l[k]:=by simp[bF,h]
theorem VH(v:Value)(l:List Int)(w:World)(hs:SL w v Jj l):
  Calls prog 245 #[v] w λe w'=>(∃v',e = .returned v'/\SL w v' Jj (Je l))/\w=w':=by
 obtain⟨q,cap,rfl,hcap,hmax,hc⟩:=hs;have HC:=aa hc;clear hc;go_enter func245,ntmps245
 go_wp2
 go_loop [3] (λn=>∃k:Nat,k<=l.length/\n = .int .i64 k/\Je l=Je (l.take k)) λn=>(intOf n).toNat
 case atStart=>exact⟨l.length,au _,rfl,by rw[bD]⟩
 case round =>
  obtain⟨k,hk,rfl,he⟩:=hrel;have HE:=aa he;clear he;cases k with
  |zero =>
   go_wp2
   go_ret
   exact⟨⟨_,rfl,by rw[HE.out];exact⟨q,cap,rfl,by simp[Je],hmax,λi hi=>by simp[Je]at hi⟩⟩,rfl⟩
  |succ k =>
   obtain⟨b,off,rfl,hb,hc⟩:=HC.out k O;simp only[Jj]at hc;have HT:=aa (GH l k O);rw[Rb O]at hc;generalize hx:l[k]=x at hc;have HX:=aa hx;clear hx;by_cases h0:x=0
   ·have h1:(x==0)=true:=by simp[h0]
    go_wp2
    go_round
    case rel=>exact⟨k,O,rfl,by rw[HE.out,HT.out,HX.out,h0,Kt]⟩
    case measure=>simp[intOf]
   have h1:(x==0)=false:=by simp[h0]
   go_wp2
   go_ret
   have e1:Je l=l.take (k+1):=by rw[HE.out,HT.out,HX.out,H6 _ h0,<-HX.out,<-HT.out]
   exact⟨⟨_,rfl,by rw[e1];exact⟨_,cap,by rw[aq,aS O];rfl,by rw[aq];omega,hmax,HC.out.take _⟩⟩,rfl⟩
def sz(z:Int):Nat:=if z=0 then 0 else z.natAbs.log2+1
def E7(z:Int):z.natAbs<2^sz z:=by
 unfold sz;split
 ·simp[*]
 exact Nat.lt_log2_self
theorem XO(z:Int)(k:Nat):sz z<=k↔z.natAbs<2^k:=by
 constructor
 ·intro h;exact fM (E7 z) (Nat.pow_le_pow_right wu h)
 intro h;unfold sz;split
 ·exact bR _
 rename_i hz;have:z.natAbs.log2<k:=(Nat.log2_lt O).2 h;omega
def K3(a b:Int):sz (a*b)<=sz a+sz b:=by
 rw[XO,Int.natAbs_mul,eM];have h1:=E7 a;have h2:=E7 b
 calc a.natAbs*b.natAbs<=a.natAbs*2^sz b:=fG _ (Nat.le_of_lt h2)
  _<2^sz a*2^sz b:=eV h1 (Nat.pow_pos wu)
def LM(a b:Int):sz (a+b)<=max (sz a) (sz b)+1:=by
 rw[XO,Nat.pow_succ];have h1:=(XO a (max (sz a) (sz b))).1 (Nat.le_max_left _ _);have h2:=(XO b (max (sz a) (sz b))).1 (Nat.le_max_right _ _);omega
def KX{a b:Int}(h:a.natAbs<=b.natAbs):sz a<=sz b:=by
 rw[XO];exact Nat.lt_of_le_of_lt h (E7 b)
def VZ(a:Int):sz (-a)=sz a:=by unfold sz;simp
def Np(a:Int):sz (Jm a)=sz a:=by unfold Jm;split<;>simp[VZ]
theorem QBR{l:List Int}(h:DG W l)(hn:NZ l):l.length<=sz (dv W l):=by
 by_cases hl:l=[]
 ·subst hl;simp
 have h1:=Rs Ju h hn hl;have h2:=E7 (dv W l);have h0:=JG Ju h;have h3:(2:Int)^(l.length-1)<=W^(l.length-1):=by
  generalize l.length-1=k
  induction k with
  |zero=>simp
  |succ k ih=>rw[aC,aC];exact ix ih wu wu (bh (pow_pos Ju k))
 have h4:(2:Int)^(l.length-1)<2^sz (dv W l):=by
  have:((dv W l).natAbs:Int)<((2^sz (dv W l):Nat):Int):=O;rw[aU]at this;have e:((dv W l).natAbs:Int)=dv W l:=O;rw[e]at this;have e2:((2:Nat):Int)=2:=rfl;rw[e2]at this;omega
 have h5:2^(l.length-1)<2^sz (dv W l):=by
  have:((2^(l.length-1):Nat):Int)<((2^sz (dv W l):Nat):Int):=by
   rw[aU,aU];exact h4
  omega
 have:=(Nat.pow_lt_pow_iff_right (by decide:1<2)).1 h5;omega
theorem Ab(v:Value)(z:Int)(w:World)(hv:Xf w v z):
  Calls prog 158 #[v] w λe w'=>e = .returned (.int .i64 (MG z))/\Ext w w':=by
 obtain⟨s,q,n,cap,rfl,hp⟩:=hv;have hs:MG z=if s<0 then -1 else if s=0 then 0 else 1:=by
  rcases hp with ⟨_,_,_,rfl,_⟩ | ⟨b,off,l,_,_,_,_,_,_,_,_,h,hz,hb⟩
  ·rfl
  unfold MG;rcases h with rfl | rfl
  ·rw[lz]at hz;rw[if_neg O,if_neg O];rfl
  rw[if_pos O];rfl
 have HS:=aa hs;clear hs hp;rcases fX s 0 with g | g | g
 all_goals
  go_enter func158,ntmps158
  go_wp2
  go_ret
  exact⟨by rw[HS.out];simp[g]<;>omega,(Ext.refl _).alloc _⟩
def KC.isNone{s:Int}{q:Option Addr}{cap:Nat}{z:Int}(h:KC w s q n cap z):
  (q=none/\n=0/\cap=0/\s=z/\-9223372036854775808<=z/\z<=9223372036854775807)\/(∃b off,q=some ⟨b,off,none⟩):=by
 rcases h with h | ⟨b,off,_,h,_⟩
 ·exact .inl h
 exact .inr ⟨b,off,h⟩
abbrev IZ:Array Value:=#[.int .i64 0,.slice none 0 0]
theorem qO(s:Int)(w:World)(h0 : -9223372036854775807<=s)(h1:s<=9223372036854775807):
  Calls prog 207 #[.agg #[.int .i64 s,.slice none 0 0]] w λe w'=>e = .returned (.agg #[.int .i64 (-s),.slice none 0 0])/\Ext w w':=by
 have hn:=λw=>er (P:=prog) w 114 256 none 0 0 0 0 underlying114;have hm':(s != -9223372036854775808)=true:=w6;go_enter func207,ntmps207
 go_wp2
 exact bodyPost_ret (v:=.agg #[.int .i64 (-s),.slice none 0 0]) (by simp[results,results207,go_sem]) I ⟨rfl,((Ext.refl _).alloc _).alloc _⟩
theorem KC.kp(h:Kp w w'){s:Int}{q:Option Addr}{n cap:Nat}{z:Int}(hv:KC w s q n cap z):KC w' s q n cap z:=by
 rcases hv with hv | ⟨b,off,l,h1,h2,h3,h4,h5,h6⟩
 ·exact .inl hv
 exact .inr ⟨b,off,l,h1,h2,h3,h4,h5.kp h wu,h6⟩
def FA:¬DT 116:=wu
def Kp.DU{a:World}(h:Kp a w){R T:Nat}(hT:VR w R T)(hD:¬DT T)(v0 v1:Value):Kp a ((w.setCell ⟨R,0,none⟩ v0).setCell ⟨R,1,none⟩ v1) :=
 (h.set hT hD 0 v0).set (hT.set _ _ _) hD 1 v1
theorem TE(s:Int)(q:Option Addr)(n cap:Nat)(z:Int)(w:World)(hv:KC w s q n cap z)(hq:q.isNone=false\/(s != -9223372036854775808)=false):
  Calls prog 207 #[.agg #[.int .i64 s,.slice q n cap]] w λe w'=>Zh w (λv w'=>Xf w' v (-z)) e w':=by
 have hn:=λw=>er (P:=prog) w 114 256 q n cap 0 0 underlying114;have hz0:Hid (sg (!decide (z<0)) (Jm z) = -z):=by
  show sg (!decide (z<0)) (Jm z) = -z;unfold sg Jm;by_cases h:z<0<;>simp[h]
 have HV:Hid (Xf w (.agg #[.int .i64 s,.slice q n cap]) z):=⟨_,_,_,_,rfl,hv⟩;have hB:Bx ((w.alloc (.cells #[.int .i64 s,.slice q n cap] 116)).alloc (.cells IZ 116)) (w.heap.size+1) 116 IZ.toList:=by
  have:=Bx.new (w.alloc (.cells #[.int .i64 s,.slice q n cap] 116)) 116 IZ;simpa using this
 have HB:=aa hB;clear hB hv;cases hqn:q.isNone
 all_goals
  rw[hqn]at hq;simp only[reduceCtorEq,true_or,false_or]at hq;rw[hqn]at hn;clear hqn;go_enter func207,ntmps207
  go_wp2_with fail
  refine(KH _ z _ (HV.out.ext (((Ext.refl _).alloc _).alloc _))).mono ?_;rintro e w1 ⟨_,rfl,⟨p,l,rfl,hsl,hd,hnz,hval⟩,hx⟩;go_wp2_with fail
  refine(WL _ p l _ hsl hd hnz).mono ?_;rw[hval,hz0.out];rintro e w2 ⟨_,rfl,⟨s',q',n',cap',rfl,hp'⟩,hx2⟩;have hB2:=(HB.out.ext hx).ext hx2;obtain⟨c0,c1,f0,f1⟩:=hB2.two;have HB2:=aa hB2;clear hval hB2;go_wp2
  refine bodyPost_ret (v:=.agg #[.int .i64 s',.slice q' n' cap']) (by simp[results,results207,go_sem,c0,c1]) I ⟨_,rfl,⟨_,_,_,_,rfl,hp'.kp ((Kp.refl _).DU HB2.out.RY FA _ _)⟩,?_⟩;exact((((((Ext.refl w).alloc _).alloc _).trans hx).trans hx2).X1 wz _).X1 wz _
theorem UG(v:Value)(z:Int)(w:World)(hv:Xf w v z):
  Calls prog 207 #[v] w λe w'=>Zh w (λv w'=>Xf w' v (-z)) e w':=by
 obtain⟨s,q,n,cap,rfl,hp⟩:=hv;rcases hp.isNone with ⟨rfl,rfl,rfl,rfl,h0,h1⟩ | ⟨b,off,rfl⟩
 ·by_cases hm:s = -9223372036854775808
  ·exact TE _ _ _ _ _ w hp (.inr (by simpa using hm))
  exact(qO s w O h1).mono λe w' ⟨he,hx⟩=>⟨_,he,Xf.small _ O O,hx⟩
 exact TE _ _ _ _ _ w hp (.inl rfl)
end Go.Proofs.YtbpmnjieoncbcaaGreatDoor
namespace Ig
def Qn(l:List Int)(k:Nat):Int:=if h:k<l.length then l[k]else 0
def YM{l:List Int}{k:Nat}(h:k<l.length):Qn l k=l[k]:=dif_pos h
def Ma{l:List Int}{k:Nat}(h:l.length<=k):Qn l k=0:=dif_neg O
def DG.Qn{b:Int}(hb:0<b){l:List Int}(h:DG b l)(k:Nat):0<=Qn l k/\Qn l k<b:=by
 unfold Ig.Qn;split
 ·exact h _ (fV _)
 exact⟨bI _,hb⟩
def Hm(b:Int)(l:List Int)(k:Nat):dv b (l.take (k+1))=dv b (l.take k)+b^k*Qn l k:=by
 by_cases h:k<l.length
 ·rw[YM h,Bn b l k h]
 rw[Ma O,ae O,ae O];simp
def Ee{l:List Int}{p:Nat}(h:p<l.length)(v:Int)(r:Nat):Qn (l.set p v) r=if r=p then v else Qn l r:=by
 unfold Qn;by_cases hr:r<l.length
 ·rw[dif_pos (by simpa using hr),dif_pos hr,List.getElem_set];by_cases e:p=r
  ·subst e;simp
  rw[if_neg e,if_neg (λe'=>e e'.symm)]
 rw[dif_neg (by simpa using hr),dif_neg hr,if_neg O]
def Rq(b:Int){l:List Int}{p:Nat}(h:p<l.length)(v:Int):dv b (l.set p v)=dv b l+b^p*(v-Qn l p):=by
 have h1:=Vj b (l.set p v) (p+1) w6;have h2:=Vj b l (p+1) O;have e1:(l.set p v).drop (p+1)=l.drop (p+1):=by rw[List.drop_set_of_lt O]
 have e2:(l.set p v).take (p+1)=l.take p++[v]:=by
  rw[GH _ _ (by simpa using h)];simp[List.take_set_of_le]
 rw[h1,h2,e1,e2,X6,Bn b l p h,YM h,aq,aS O]
 grind
def Xo{l:List Int}{k:Nat}(h:k<l.length):l.drop k=Qn l k::l.drop (k+1):=by rw[bQ h,YM h]
def CL{D V2 v' U3 u' t:Int}(hD:0<D)(hv1:v'<D)(hu0:0<=u')
  (ht0:0<=t) (ht:t*V2<=U3) (htv:t<=V2) (_hv0:0<=v'):(t-1)*(V2*D+v')<=U3*D+u':=by
 have h1:t*V2*D<=U3*D:=ax ht O;have h2:t*v'<=t*D:=af O ht0;have h3:t*D<=V2*D:=ax htv O;have e:(t-1)*(V2*D+v')=t*V2*D+t*v'-V2*D-v':=by grind
 omega
def FX{D V2 v' U3 u' t:Int}(hv0:0<=v')(hu1:u'<D)(hD:0<D)
  (ht0:0<=t) (ht:U3<t*V2):U3*D+u'<t*(V2*D+v'):=by
 have h1:(U3+1)*D<=t*V2*D:=ax O O;have h2:0<=t*v':=aJ ht0 hv0;have e:t*(V2*D+v')=t*V2*D+t*v':=by grind
 have e2:(U3+1)*D=U3*D+D:=by grind
 omega
def YD{u v q:Int}(hv:0<v)(h1:q*v<=u)(h2:u<(q+1)*v):u/v=q:=by
 have e:(q+1)*v=q*v+v:=by grind
 have:u=(u-q*v)+q*v:=O;rw[this,Int.add_mul_ediv_right _ _ O,Int.ediv_eq_zero_of_lt O O];omega
def YT{u v q:Int}(h1:q*v<=u)(h2:u<(q+1)*v):u%v=u-q*v:=by
 have e:(q+1)*v=q*v+v:=by grind
 have:u=(u-q*v)+q*v:=O;rw[this,Int.add_mul_emod_self_right,bT O O];omega
section
variable{b:Int}(hb:1<b)
include hb
theorem Kv{l:List Int}{n:Nat}(hl:DG b l)(h:l.length=n+3):
  dv b l=((Qn l (n+2)*b+Qn l (n+1))*b+Qn l n)*b^n+dv b (l.take n)/\0<=dv b (l.take n)/\dv b (l.take n)<b^n:=by
 have h1:=Hm b l n;have h2:=Hm b l (n+1);have h3:=Hm b l (n+2);rw[ae (by omega:l.length<=n+2+1)]at h3;have h4:=Km O (hl.take n);rw[aq,aS O]at h4;refine⟨?_,JG O (hl.take n),h4⟩;rw[h3,h2,h1,aC,aC];grind
theorem Wd{l:List Int}{n:Nat}(hl:DG b l)(h:l.length=n+2):
  dv b l=(Qn l (n+1)*b+Qn l n)*b^n+dv b (l.take n)/\0<=dv b (l.take n)/\dv b (l.take n)<b^n:=by
 have h1:=Hm b l n;have h2:=Hm b l (n+1);rw[ae (by omega:l.length<=n+1+1)]at h2;have h4:=Km O (hl.take n);rw[aq,aS O]at h4;refine⟨?_,JG O (hl.take n),h4⟩;rw[h2,h1,aC];grind
omit hb
structure Hu(b:Int)(u v:List Int)(n:Nat):Prop where
 hu:DG b u
 hv:DG b v
 lu:u.length=n+3
 lv:v.length=n+2
 nz:0<Qn v (n+1)
 lt:dv b u<b*dv b v
include hb
theorem Hu.top{u v:List Int}{n:Nat}(h:Hu b u v n):Qn u (n+2)<=Qn v (n+1):=by
 obtain⟨a1,a2,a3⟩:=Kv hb h.hu h.lu;obtain⟨b1,b2,b3⟩:=Wd hb h.hv h.lv;have hlt:=h.lt;have hb0:0<b:=O;have d1:=h.hu.Qn hb0 n;have d2:=h.hu.Qn hb0 (n+1);have d3:=h.hv.Qn hb0 n;have hp:=pow_pos hb0 n;refine Int.not_lt.1 λhc=>?_;have e1:(Qn v (n+1)+1)*(b*b*b^n)<=Qn u (n+2)*(b*b*b^n):=ax O (aJ (aJ O O) O);have e2:0<=Qn u (n+1)*(b*b^n):=aJ d2.1 (aJ O O);have e3:0<=Qn u n*b^n:=aJ d1.1 O;have e4:(Qn v n+1)*b^n<=b*b^n:=ax O O;have e5:b*((Qn v n+1)*b^n)<=b*(b*b^n):=af e4 O;have e6:b*dv b (v.take n)<=b*b^n:=af O O;have e7:b*(dv b (v.take n)+1)<=b*b^n:=af O O;rw[a1,b1]at hlt;generalize b^n=D at *
 generalize dv b (v.take n)=v' at *
 generalize dv b (u.take n)=u' at *
 generalize Qn u (n+2)=u0 at *
 generalize Qn u (n+1)=u1 at *
 generalize Qn u n=u2 at *
 generalize Qn v (n+1)=v1 at *
 generalize Qn v n=v2 at *
 grind
end
end Ig
namespace Go.Proofs.YtbpmnjieoncbcaaGreatDoor
variable{w w' w0:World}{E N b bytes i k n off:Nat}{a:Act}{c cs l l' news z:List Value}{o:Obj}{u v1 v3 v4 v5 x2 x3 x4 x5 x6 x7 x8:Value}{A0 A1 A2 A3 A4 A5 A6 A7 A8 A9 α γ ι:Type}{T T' yT:TypeId}{ops:Array Oper}{Q Q':Exit->Act->World->Prop}{tl:List Oper}{K:Act->World->Prop}{g:Bool}{x y:Operand}{bs bs' bs0 ob:List (Nat×Obj)}{fr:Nat×Nat}{P:Program}{f:Obj->List (Nat×Obj)}{fn:Func}{aft:Array Edge}{gd:Option (Nat×Bool)}{x1:Nat×Obj}{ps:List (Nat×Value)}{s:ByteArray}{pl:List (Nat×Nat)}{ds:List Int}{h:Int}{F F0:Gs}{G:Gs->Prop}{m:Sl}
open Go.RowKit Ig
def XV(x y c:Int):Int:=(x+y+c)%W
def Xx(x y c:Int):Int:=(x+y+c)/W
def Zf(x y c:Int):Int:=(x-y-c)%W
def Vi(x y c:Int):Int:=if x<y+c then 1 else 0
def G4{x y c:Int}(hx:0<=x/\x<W)(hy:0<=y/\y<W)(hc:0<=c/\c<=1):
  XV x y c+W*Xx x y c=x+y+c/\(0<=XV x y c/\XV x y c<W)/\0<=Xx x y c/\Xx x y c<=1:=by
 unfold XV Xx;simp only[G5]at *;omega
def D6{x y c:Int}(hx:0<=x/\x<W)(hy:0<=y/\y<W)(hc:0<=c/\c<=1):
  Zf x y c-W*Vi x y c=x-y-c/\(0<=Zf x y c/\Zf x y c<W)/\0<=Vi x y c/\Vi x y c<=1:=by
 unfold Zf Vi;simp only[G5]at *;split<;>omega
theorem KG(x y c:Int)(hx:0<=x)(hy:0<=y)(hc:0<=c)(hc1:c<=1)(w:World):
  (callFunc 244 #[.int .u64 x,.int .u64 y,.int .u64 c]).run prog w = .ok (.value (.tuple #[.int .u64 (XV x y c),.int .u64 (Xx x y c)])) w:=by
 rw[run_callFunc_extern (fn:=Tryz.f244) wm wm wm wm (e:=add64Entry) wm,run_add64 x y c hx hy hc hc1];rfl
def P1:Array Value->Sem Value:=λargs=>do
 let (x,y,b) <-fI "Sub64" args
 pure (fJ ((x+ek-y-b)%ek) (if x<y+b then 1 else 0))
theorem C6(x y b:Nat)(hb:b<=1)(w:World):
  (P1 #[.int .u64 x,.int .u64 y,.int .u64 b]).run prog w =
   .ok (.tuple #[.int .u64 (((x+18446744073709551616-y-b)%18446744073709551616:Nat):Int),.int .u64 ((if x<y+b then 1 else 0:Nat):Int)]) w:=by
 have:b=0\/b=1:=O;rcases this with rfl | rfl<;>rfl
theorem Bc(x y c:Int)(hx:0<=x/\x<W)(hy:0<=y/\y<W)(hc:0<=c/\c<=1)(w:World):
  (callFunc 247 #[.int .u64 x,.int .u64 y,.int .u64 c]).run prog w = .ok (.value (.tuple #[.int .u64 (Zf x y c),.int .u64 (Vi x y c)])) w:=by
 obtain⟨x,rfl⟩:=ag hx.1;obtain⟨y,rfl⟩:=ag hy.1;obtain⟨c,rfl⟩:=ag hc.1;rw[run_callFunc_extern (fn:=Tryz.f247) wm wm wm wm (e:=P1) wm,C6 x y c O];simp only[Result.andThen,Zf,Vi,G5]at *
 have e1:(((x+18446744073709551616-y-c)%18446744073709551616:Nat):Int)=((x:Int)-y-c)%18446744073709551616:=O;have e2:((if x<y+c then 1 else 0:Nat):Int)=if(x:Int)<y+c then 1 else 0:=by split<;>split<;>omega
 rw[e1,e2]
def P6(ds:List α)(z x:α)(m:Nat):(ds++ah (m+1) z).set ds.length x=(ds++[x])++ah m z:=by
 rw[fh _ _ (au _),ee,bj,fH,bz];rfl
def MT[Inhabited α](ds:List α)(z:α)(m k:Nat)(hk:k=ds.length):(ds++ah (m+1) z).getD k default=z:=by
 subst hk;simp[bF,bj]
def Jf{l:List Int}(h:DG W l)(k:Nat):0<=Qn l k/\Qn l k<W:=h.Qn Ju k
def XQ(l:List Int)(k:Nat):dv W (l.take (k+1))=dv W (l.take k)+W^k*Qn l k:=Hm W l k
def Z8{l:List Int}(h:k<l.length):l.getD k default=Qn l k:=by rw[Rb h,YM h]
def Ml(lx ly:List Int)(k:Nat)(ds:List Int)(c:Int):Prop :=
 ds.length=k/\DG W ds/\(0<=c/\c<=1)/\dv W ds+W^k*c=dv W (lx.take k)+dv W (ly.take k)
theorem Ml.step{lx ly:List Int}{c:Int}(h:Ml lx ly k ds c)(hx:DG W lx)(hy:DG W ly):
  Ml lx ly (k+1) (ds++[XV (Qn lx k) (Qn ly k) c]) (Xx (Qn lx k) (Qn ly k) c):=by
 obtain⟨h1,h2,h3,h4⟩:=h;obtain⟨a1,a2,a3⟩:=G4 (Jf hx k) (Jf hy k) h3;refine⟨by simp[h1],h2.append (DG.cons a2.1 a2.2 (DG.nil _)),a3,?_⟩;rw[X6,h1,XQ,XQ,aC];generalize W^k=p at *
 generalize XV (Qn lx k) (Qn ly k) c=lo at *
 generalize Xx (Qn lx k) (Qn ly k) c=hi at *
 generalize Qn lx k=a at *
 generalize Qn ly k=b at *
 have e:p*(lo+W*hi)=p*(a+b+c):=by rw[a1]
 grind
def Ur(lx ly:List Int)(k:Nat)(ds:List Int)(c:Int):Prop :=
 ds.length=k/\DG W ds/\(0<=c/\c<=1)/\dv W ds-W^k*c=dv W (lx.take k)-dv W (ly.take k)
theorem Ur.step{lx ly:List Int}{c:Int}(h:Ur lx ly k ds c)(hx:DG W lx)(hy:DG W ly):
  Ur lx ly (k+1) (ds++[Zf (Qn lx k) (Qn ly k) c]) (Vi (Qn lx k) (Qn ly k) c):=by
 obtain⟨h1,h2,h3,h4⟩:=h;obtain⟨a1,a2,a3⟩:=D6 (Jf hx k) (Jf hy k) h3;refine⟨by simp[h1],h2.append (DG.cons a2.1 a2.2 (DG.nil _)),a3,?_⟩;rw[X6,h1,XQ,XQ,aC];generalize W^k=p at *
 generalize Zf (Qn lx k) (Qn ly k) c=lo at *
 generalize Vi (Qn lx k) (Qn ly k) c=hi at *
 generalize Qn lx k=a at *
 generalize Qn ly k=b at *
 have e:p*(lo-W*hi)=p*(a-b-c):=by rw[a1]
 grind
theorem pR:(prog.info? 256).map (λi=>(i.zero,i.size,i.bytes))=some (some (.int .u64 0),1,8):=wm
theorem Yh(n:Nat)(hn:n<=1000000000000)(w:World):
  (ia 114 (.int .i64 (n:Int)) (.int .i64 (n:Int))).run prog w = .ok (.slice (some ⟨w.heap.size,0,none⟩) n n) (w.alloc (.cells (madeCells #[.int .u64 0] n) 256)):=by
 obtain⟨i0,hi,hz0,hz1,hz2⟩:=info_parts pR;have:=run_make (P:=prog) w 114 256 i0 (.int .u64 0) underlying114 hi hz0 .i64 .i64 n n O O (by rw[hz2];omega) O;rw[this,hz1];simp[Value.cells]
theorem DN(sw:Bool)(q q':Option Addr)(cap cap':Nat)(lx ly:List Int)(w:World)(hx:DG W lx)(hy:DG W ly)(hcx:Cells w q Jj lx)(hcy:Cells w q' Jj ly)(hlen:lx.length<=100000000000)(hle:ly.length<=lx.length)(hsw:sw=true->ly.length<lx.length):
  Calls prog 221 (if sw then #[.slice q' ly.length cap',.slice q lx.length cap]else #[.slice q lx.length cap,.slice q' ly.length cap']) w λe w' =>
   Zh w (λv w'=>∃l,SL w' v Jj l/\DG W l/\NZ l/\dv W l=dv W lx+dv W ly) e w':=by
 have HX:=aa hcx;clear hcx;have HY:=aa hcy;clear hcy;have hmk:=λw=>Yh (lx.length+1) O w;have ec:((lx.length+1:Nat):Int)=(lx.length:Int)+1:=O;simp only[ec]at hmk;cases sw
 all_goals
  simp only[Bool.false_eq_true,if_false,if_true,forall_const,false_implies]at hsw ⊢;go_enter func221,ntmps221
  go_wp2
  go_loopw [22,6] (λi c wr=>∃(k:Nat) (ds:List Int) (cc:Int),k<=lx.length/\i = .int .i64 k/\c = .int .u64 cc/\Ml lx ly k ds cc/\Y5 wr w.heap.size 256 Jj (ds++ah (lx.length+1-k) 0)/\Ext w wr)
   (λi _ _=>lx.length-(intOf i).toNat)
  case atStart=>exact⟨0,[],0,bR _,rfl,rfl,⟨rfl,DG.nil _,wu,wz⟩,Y5.made w _ Jj 0 _ _ rfl,(Ext.refl _).alloc _⟩
  case round =>
   obtain⟨k,ds,cc,hk,rfl,rfl,hI,hB,hE⟩:=hrel;have hst:=hI.step hx hy;obtain⟨hd1,hd2,hd3,hd4⟩:=hI;have hd1':=aa hd1;clear hd1;have hd4':=aa hd4;clear hd4;by_cases hlt:k<lx.length
   ·obtain⟨b,off,rfl,hb,hc⟩:=HX.out k hlt;rw[Z8 hlt]at hc;have hc:=hE.cell hc;simp only[Jj]at hc;have e1:lx.length+1-k=(lx.length-k)+1:=O;rw[e1]at hB;have hcell:=hB.cell (i:=k) (by simp[hd1'.out]);rw[MT _ _ _ _ hd1'.out.symm]at hcell;simp only[Jj]at hcell;have hfr:=hB.frozen k;have hBs:=hB.set k (XV (Qn lx k) (Qn ly k) cc);rw[<-hd1'.out,P6,hd1'.out]at hBs;have HB:=aa hB;clear hB;have HBs:=aa hBs;clear hBs;have HS:=aa hst;clear hst;have hx0:=(Jf hx k).1;have hy0:=(Jf hy k).1;by_cases hlt2:k<ly.length
    ·obtain⟨b2,off2,rfl,hb2,hc2⟩:=HY.out k hlt2;rw[Z8 hlt2]at hc2;have hc2:=hE.cell hc2;simp only[Jj]at hc2;have ha:=λw=>KG (Qn lx k) (Qn ly k) cc hx0 hy0 hd3.1 hd3.2 w;go_wp2
     go_roundw
     case rel=>exact⟨k+1,_,_,O,by go_num,rfl,HS.out,by rw[show lx.length+1-(k+1)=lx.length-k from by omega];exact HBs.out,aR hE wz _⟩
     case measure=>simp[intOf];omega
    have H0:=aa (Ma (l:=ly) (k:=k) O);have ha:=λw=>KG (Qn lx k) 0 cc hx0 (bI _) hd3.1 hd3.2 w;go_wp2
    go_roundw
    case rel=>exact⟨k+1,_,_,O,by go_num,rfl,by have:=HS.out;rw[H0.out]at this;exact this,by rw[show lx.length+1-(k+1)=lx.length-k from by omega];have:=HBs.out;rw[H0.out]at this;exact this,aR hE wz _⟩
    case measure=>simp[intOf];omega
   have hk':k=lx.length:=O;subst hk';have e1:lx.length+1-lx.length=0+1:=O;rw[e1]at hB;have hcell:=hB.cell (i:=lx.length) (by simp[hd1'.out]);rw[MT _ _ _ _ hd1'.out.symm]at hcell;simp only[Jj]at hcell;have hfr:=hB.frozen lx.length;have hBs:=hB.set lx.length cc;rw[<-hd1'.out,P6,hd1'.out]at hBs;simp only[ew,ic]at hBs;have hSL:=SL.BG hBs (lx.length+1) (by simp[hd1'.out]) (by simp[hd1'.out];omega);have el:(ds++[cc]).length=lx.length+1:=by simp[hd1'.out]
   rw[ae O,el]at hSL;have hEs:Ext w _:=aR hE (p:=⟨w.heap.size,lx.length,none⟩) wz (Jj cc);have hfin:DG W (ds++[cc])/\dv W (ds++[cc])=dv W lx+dv W ly:=by
    refine⟨hd2.append (DG.cons hd3.1 (wk G5) (DG.nil _)),?_⟩;rw[X6,hd1'.out,hd4'.out,ae (au _),ae hle]
   have HB:=aa hB;clear hB;have HBs:=aa hBs;clear hBs;have HSL:=aa hSL;clear hSL;have HF:=aa hfin;clear hfin;have HES:=aa hEs;clear hEs;clear el e1 hst;go_wp2_with (go_at_call 245;refine(VH _ _ _ HSL.out).mono ?_;rintro e w' ⟨⟨v',rfl,hv⟩,rfl⟩)
   go_ret
   exact⟨_,rfl,⟨_,hv,HF.out.1.Je,Zv _,by rw[ZE,HF.out.2]⟩,HES.out⟩
theorem Up(v v':Value)(lx ly:List Int)(w:World)(hx:DG W lx)(hy:DG W ly)(hs:SL w v Jj lx)(hs':SL w v' Jj ly)(h1:lx.length<=100000000000)(h2:ly.length<=100000000000):
  Calls prog 221 #[v,v'] w λe w'=>Zh w (λv w'=>∃l,SL w' v Jj l/\DG W l/\NZ l/\dv W l=dv W lx+dv W ly) e w':=by
 obtain⟨q,cap,rfl,hcap,hmax,hc⟩:=hs;obtain⟨q',cap',rfl,hcap',hmax',hc'⟩:=hs';by_cases h:lx.length<ly.length
 ·have:=DN true q' q cap' cap ly lx w hy hx hc' hc h2 O (λ_=>h);rw[iY]at this;exact this
 exact DN false q q' cap cap' lx ly w hx hy hc hc' h1 O λh=>by cases h
theorem D7(v v':Value)(lx ly:List Int)(w:World)(hx:DG W lx)(hy:DG W ly)(hs:SL w v Jj lx)(hs':SL w v' Jj ly)(h1:lx.length<=100000000000)(hle:ly.length<=lx.length)(hle2:dv W ly<=dv W lx):
  Calls prog 223 #[v,v'] w λe w'=>Zh w (λv w'=>∃l,SL w' v Jj l/\DG W l/\NZ l/\dv W l=dv W lx-dv W ly) e w':=by
 obtain⟨q,cap,rfl,hcap,hmax,hcx⟩:=hs;obtain⟨q',cap',rfl,hcap',hmax',hcy⟩:=hs';have HX:=aa hcx;clear hcx;have HY:=aa hcy;clear hcy;have HLE:=aa hle2;clear hle2;have hmk:=λw=>Yh lx.length O w;go_enter func223,ntmps223
 go_wp2
 go_loopw [14,6] (λi c wr=>∃(k:Nat) (ds:List Int) (cc:Int),k<=lx.length/\i = .int .i64 k/\c = .int .u64 cc/\Ur lx ly k ds cc/\Y5 wr w.heap.size 256 Jj (ds++ah (lx.length-k) 0)/\Ext w wr)
  (λi _ _=>lx.length-(intOf i).toNat)
 case atStart=>exact⟨0,[],0,bR _,rfl,rfl,⟨rfl,DG.nil _,wu,wz⟩,Y5.made w _ Jj 0 _ _ rfl,(Ext.refl _).alloc _⟩
 case round =>
  obtain⟨k,ds,cc,hk,rfl,rfl,hI,hB,hE⟩:=hrel;have hst:=hI.step hx hy;obtain⟨hd1,hd2,hd3,hd4⟩:=hI;have hd1':=aa hd1;clear hd1;have hd4':=aa hd4;clear hd4;by_cases hlt:k<lx.length
  ·obtain⟨b,off,rfl,hb,hc⟩:=HX.out k hlt;rw[Z8 hlt]at hc;have hc:=hE.cell hc;simp only[Jj]at hc;have e1:lx.length-k=(lx.length-(k+1))+1:=O;rw[e1]at hB;have hcell:=hB.cell (i:=k) (by simp[hd1'.out]);rw[MT _ _ _ _ hd1'.out.symm]at hcell;simp only[Jj]at hcell;have hfr:=hB.frozen k;have hBs:=hB.set k (Zf (Qn lx k) (Qn ly k) cc);rw[<-hd1'.out,P6,hd1'.out]at hBs;have HB:=aa hB;clear hB;have HBs:=aa hBs;clear hBs;have HS:=aa hst;clear hst;have hx0:=Jf hx k;have hy0:=Jf hy k;clear e1;by_cases hlt2:k<ly.length
   ·obtain⟨b2,off2,rfl,hb2,hc2⟩:=HY.out k hlt2;rw[Z8 hlt2]at hc2;have hc2:=hE.cell hc2;simp only[Jj]at hc2;have ha:=λw=>Bc (Qn lx k) (Qn ly k) cc hx0 hy0 hd3 w;go_wp2
    go_roundw
    case rel=>exact⟨k+1,_,_,O,by go_num,rfl,HS.out,HBs.out,aR hE wz _⟩
    case measure=>simp[intOf];omega
   have H0:=aa (Ma (l:=ly) (k:=k) O);have ha:=λw=>Bc (Qn lx k) 0 cc hx0 ⟨bI _,Ju⟩ hd3 w;go_wp2
   go_roundw
   case rel=>exact⟨k+1,_,_,O,by go_num,rfl,by have:=HS.out;rw[H0.out]at this;exact this,by have:=HBs.out;rw[H0.out]at this;exact this,aR hE wz _⟩
   case measure=>simp[intOf];omega
  have hk':k=lx.length:=O;subst hk';rw[ee,ew,ic]at hB;have hSL:=SL.BG hB lx.length (by simp[hd1'.out]) (by simp[hd1'.out];omega);rw[ae (by simp[hd1'.out]),hd1'.out]at hSL;have hfin:dv W ds=dv W lx-dv W ly:=by
   have h4:=hd4'.out;rw[ae (au _),ae hle]at h4;have h5:=Km Ju hd2;have h6:=JG Ju hd2;have h8:=HLE.out;rw[hd1'.out]at h5;have h7:cc=0\/cc=1:=O;rcases h7 with rfl | rfl<;>omega
  have HB:=aa hB;clear hB;have HSL:=aa hSL;clear hSL;have HF:=aa hfin;clear hfin;clear hst;go_wp2_with (go_at_call 245;refine(VH _ _ _ HSL.out).mono ?_;rintro e w' ⟨⟨v',rfl,hv⟩,rfl⟩)
  go_ret
  exact⟨_,rfl,⟨_,hv,hd2.Je,Zv _,by rw[ZE,HF.out]⟩,hE⟩
def Gz{x y:Int}(h:x<y):YE x y = -1:=if_pos h
def Ej{x y:Int}(h:y<x):YE x y=1:=by unfold YE;rw[if_neg O,if_neg O]
def SM(x:Int):YE x x=0:=by unfold YE;rw[if_neg O,if_pos rfl]
theorem Zu(v v':Value)(lx ly:List Int)(w:World)(hx:DG W lx)(hy:DG W ly)(nx:NZ lx)(ny:NZ ly)(hs:SL w v Jj lx)(hs':SL w v' Jj ly):
  Calls prog 222 #[v,v'] w λe w'=>e = .returned (.int .i64 (YE (dv W lx) (dv W ly)))/\Ext w w':=by
 obtain⟨q,cap,rfl,hcap,hmax,hcx⟩:=hs;obtain⟨q',cap',rfl,hcap',hmax',hcy⟩:=hs';have HX:=aa hcx;clear hcx;have HY:=aa hcy;clear hcy;rcases fT lx.length ly.length with h | h | h
 ·have HL:=aa (Gz (ZQ Ni hx hy ny h));go_enter func222,ntmps222
  go_wp2
  go_ret
  exact⟨by rw[HL.out];rfl,Ext.refl _⟩
 ·go_enter func222,ntmps222
  have hb:((lx.length:Int) != (ly.length:Int))=false:=by simp[h]
  have HLL:=aa h;clear h;go_wp2
  go_loopw [5] (λi wr=>∃k:Nat,k<=lx.length/\i = .int .i64 ((k:Int)-1)/\lx.drop k=ly.drop k/\Ext w wr) λi _=>(intOf i+1).toNat
  case atStart=>exact⟨lx.length,au _,rfl,by rw[fc (au _),fc (by rw[HLL.out];exact au _)],Ext.refl _⟩
  case round =>
   obtain⟨k,hk,rfl,hd,hE⟩:=hrel;have HD:=aa hd;clear hd;cases k with
   |zero =>
    have HF:Hid (YE (dv W lx) (dv W ly)=0):=by
     have:=HD.out;rw[iq,iq]at this;rw[this];exact SM _
    go_wp2
    go_ret
    exact⟨by rw[HF.out];rfl,hE⟩
   |succ k =>
    have e1:((k+1:Nat):Int)-1=(k:Int):=O;rw[e1];have hk2:k<ly.length:=wk HLL.out;obtain⟨b,off,rfl,hb1,hc⟩:=HX.out k O;obtain⟨b2,off2,rfl,hb2,hc2⟩:=HY.out k hk2;rw[Rb O]at hc hc2;have hc:=hE.cell hc;have hc2:=hE.cell hc2;simp only[Jj]at hc hc2;have HLT:=aa (OJ Ju hx hy HLL.out k O HD.out);have HGT:=aa (OJ Ju hy hx HLL.out.symm k hk2 HD.out.symm);have HEQ:Hid (lx[k]=ly[k]->lx.drop k=ly.drop k):=by
     intro e;rw[bQ O,bQ hk2,e,HD.out]
    generalize lx[k]=x at *
    generalize ly[k]=y at *
    clear e1;rcases fX x y with g | g | g
    ·have hne:(x != y)=true:=w6;have HL:=aa (Gz (HLT.out g));go_wp2
     go_quiet (fail)
     go_wp2
     go_quiet (fail)
     go_wp2
     go_ret
     exact⟨by rw[HL.out];rfl,(hE.drewN _).drewN _⟩
    ·have hne:(x != y)=false:=w6;go_wp2
     go_quiet (fail)
     go_wp2
     go_roundw
     case rel=>exact⟨k,O,by go_num,HEQ.out g,hE.drewN _⟩
     case measure=>simp[intOf]
    have hne:(x != y)=true:=w6;have HL:=aa (Ej (HGT.out g));go_wp2
    go_quiet (fail)
    go_wp2
    go_quiet (fail)
    go_wp2
    go_ret
    exact⟨by rw[HL.out];rfl,(hE.drewN _).drewN _⟩
 have HL:=aa (Ej (ZQ Ni hy hx nx h));go_enter func222,ntmps222
 go_wp2
 go_ret
 exact⟨by rw[HL.out];rfl,Ext.refl _⟩
end Go.Proofs.YtbpmnjieoncbcaaGreatDoor
namespace Go.Proofs
open Go.Shelf
def M4:ar:=⟨λ| 169=>233 | n=>n,λ| 70=>276 | 9=>9 | 0=>0 | 72=>279 | 37=>277 | 127=>299 | 3=>3 | 5=>5 | n=>n,λ| n=>n⟩
theorem pA:iJ prog M4:={
 mixed:=wm
 f169:=func233.trans tH
 t0:=underlying0
 a0:=isAgg0
 z0:=sizeOf0
 v0:=zeroValue0
 t3:=underlying3
 a3:=isAgg3
 z3:=sizeOf3
 v3:=zeroValue3
 t9:=underlying9
 a9:=isAgg9
 z9:=sizeOf9
 v9:=zeroValue9
 t37:=underlying277
 a37:=isAgg277
 z37:=sizeOf277
 v37:=zeroValue277
 t70:=underlying276
 a70:=isAgg276
 z70:=sizeOf276
 v70:=zeroValue276
 t72:=underlying279
 a72:=isAgg279
 z72:=sizeOf279
 v72:=zeroValue279
 t127:=underlying299
 a127:=isAgg299
 z127:=sizeOf299
 v127:=zeroValue299 }
theorem Ex:fZ prog M4:={
 sizeBuilder:=wm
 liesBuilder:=wm
 t5:=underlying5
 a5:=isAgg5
 z5:=sizeOf5
 v5:=zeroValue5
 infoByte:=wm
 cellsByte:=wm
 sizeByte:=wm
 neB5:=by decide }
open Go.RowKit in
theorem Builder_String_any(B b:Nat)(l:List UInt8)(w:World)(h:Lib.IsBuilder 279 5 B b (Lib.byteCells l) w)(hBw:B<=w.heap.size):
  Calls prog 233 #[.pointer (some ⟨b,0,none⟩)] w λe w'=>e = .returned (.string ⟨l.toArray⟩)/\Below B w w':=Any.Builder_String_any pA Ex B b l w h hBw
def FT:ar:=⟨λ| 125=>250 | 128=>282 | 129=>246 | n=>n,λ| 46=>284 | 3=>3 | 51=>316 | 53=>256 | 4=>4 | 5=>5 | 9=>9 | n=>n,λ| n=>n⟩
theorem pE:iN prog FT:={
 mixed:=wm
 f125:=func250.trans tH
 f128:=func282.trans tH
 f129:=func246.trans tH
 t3:=underlying3
 a3:=isAgg3
 z3:=sizeOf3
 v3:=zeroValue3
 t4:=underlying4
 a4:=isAgg4
 z4:=sizeOf4
 v4:=zeroValue4
 t5:=underlying5
 a5:=isAgg5
 z5:=sizeOf5
 v5:=zeroValue5
 t9:=underlying9
 a9:=isAgg9
 z9:=sizeOf9
 v9:=zeroValue9
 t46:=underlying284
 a46:=isAgg284
 z46:=sizeOf284
 v46:=zeroValue284
 t51:=underlying316
 a51:=isAgg316
 z51:=sizeOf316
 v51:=zeroValue316
 t53:=underlying256
 a53:=isAgg256
 z53:=sizeOf256
 v53:=zeroValue256 }
theorem bits_Len(x:Int)(w:World)(h0:0<=x)(h1:x<=18446744073709551615):
  Calls prog 250 #[.int .u64 x] w λe w'=>e = .returned (.int .i64 (ba x.toNat))/\w'=w:=Any.bits_Len pE x w h0 h1
def FQ:ar:=⟨λ| 134=>257 | 129=>246 | n=>n,λ| 53=>256 | 3=>3 | 4=>4 | 46=>284 | 5=>5 | 9=>9 | n=>n,λ| n=>n⟩
theorem pC:iL prog FQ:={
 mixed:=wm
 f129:=func246.trans tH
 f134:=func257.trans tH
 t3:=underlying3
 a3:=isAgg3
 z3:=sizeOf3
 v3:=zeroValue3
 t4:=underlying4
 a4:=isAgg4
 z4:=sizeOf4
 v4:=zeroValue4
 t5:=underlying5
 a5:=isAgg5
 z5:=sizeOf5
 v5:=zeroValue5
 t9:=underlying9
 a9:=isAgg9
 z9:=sizeOf9
 v9:=zeroValue9
 t46:=underlying284
 a46:=isAgg284
 z46:=sizeOf284
 v46:=zeroValue284
 t53:=underlying256
 a53:=isAgg256
 z53:=sizeOf256
 v53:=zeroValue256 }
theorem bits_LeadingZeros64(x:Int)(w:World)(h0:0<=x)(h1:x<=18446744073709551615):
  Calls prog 257 #[.int .u64 x] w λe w'=>e = .returned (.int .i64 (64-(ba x.toNat:Int)))/\w'=w:=Any.bits_LeadingZeros64 pC x w h0 h1
def FV:ar:=⟨λ| 103=>152 | 210=>200 | 206=>240 | n=>n,λ| 9=>9 | 4=>4 | 24=>206 | 3=>3 | n=>n,λ| n=>n⟩
theorem pH:iQ prog FV:={
 mixed:=wm
 f103:=func152.trans tH
 f206:=func240.trans tH
 f210:=func200.trans tH
 t3:=underlying3
 a3:=isAgg3
 z3:=sizeOf3
 v3:=zeroValue3
 t4:=underlying4
 a4:=isAgg4
 z4:=sizeOf4
 v4:=zeroValue4
 t9:=underlying9
 a9:=isAgg9
 z9:=sizeOf9
 v9:=zeroValue9
 t24:=underlying206
 a24:=isAgg206
 z24:=sizeOf206
 v24:=zeroValue206 }
open Go.RowKit in
theorem strings_CutPrefix(s p:ByteArray)(w:World):
  Calls prog 152 #[.string s,.string p] w λe w'=>e = .returned (.tuple #[.string ⟨(iB s.data.toList p.data.toList).toArray⟩,.bool (iT s.data.toList p.data.toList)])/\w'=w:=Any.strings_CutPrefix pH s p w
def FU:ar:=⟨λ| 122=>252 | 215=>283 | n=>n,λ| 3=>3 | 4=>4 | n=>n,λ| n=>n⟩
theorem pF:iO prog FU:={
 mixed:=wm
 f122:=func252.trans tH
 f215:=func283.trans tH
 t3:=underlying3
 a3:=isAgg3
 z3:=sizeOf3
 v3:=zeroValue3
 t4:=underlying4
 a4:=isAgg4
 z4:=sizeOf4
 v4:=zeroValue4 }
open Go.RowKit in
theorem cmp_Compare_int(x y:Int)(w:World):
  Calls prog 252 #[.int .i64 x,.int .i64 y] w λe w'=>e = .returned (.int .i64 (Lib.compareInt x y))/\w'=w:=Any.cmp_Compare_int pF x y w
def FO:ar:=⟨λ| 172=>206 | 244=>242 | 245=>243 | 247=>269 | 279=>270 | 280=>271 | 281=>272 | 282=>273 | 287=>294 | 316=>295 | 171=>228 | 205=>296 | 321=>307 | 322=>308 | 243=>255 | 246=>284 | 283=>285 | 284=>286 | 285=>287 | 286=>288 | 129=>246 | 317=>302 | 318=>303 | 319=>304 | 320=>305 | 337=>310 | 338=>311 | n=>n,λ| 9=>9 | 3=>3 | 75=>253 | 76=>254 | 4=>4 | 5=>5 | 167=>302 | 37=>277 | 0=>0 | 85=>303 | 2=>2 | 168=>305 | 53=>256 | 175=>328 | 46=>284 | 210=>332 | 127=>299 | 145=>347 | 143=>345 | 21=>21 | 171=>319 | 173=>321 | 212=>341 | 51=>316 | 20=>20 | 213=>342 | 232=>351 | 233=>352 | 80=>233 | n=>n,λ| 15=>3 | 16=>4 | 17=>5 | 18=>6 | 19=>7 | n=>n⟩
theorem dz:iI prog FO:={
 mixed:=wm
 f129:=func246.trans tH
 f171:=func228.trans tH
 f172:=func206.trans tH
 f205:=func296.trans tH
 f243:=func255.trans tH
 f244:=func242.trans tH
 f245:=func243.trans tH
 f246:=func284.trans tH
 f247:=func269.trans tH
 f279:=func270.trans tH
 f280:=func271.trans tH
 f281:=func272.trans tH
 f282:=func273.trans tH
 f283:=func285.trans tH
 f284:=func286.trans tH
 f285:=func287.trans tH
 f286:=func288.trans tH
 f287:=func294.trans tH
 f316:=func295.trans tH
 f317:=func302.trans tH
 f318:=func303.trans tH
 f319:=func304.trans tH
 f320:=func305.trans tH
 f321:=func307.trans tH
 f322:=func308.trans tH
 f337:=func310.trans tH
 f338:=func311.trans tH
 t0:=underlying0
 a0:=isAgg0
 z0:=sizeOf0
 v0:=zeroValue0
 t2:=underlying2
 a2:=isAgg2
 z2:=sizeOf2
 v2:=zeroValue2
 t3:=underlying3
 a3:=isAgg3
 z3:=sizeOf3
 v3:=zeroValue3
 t4:=underlying4
 a4:=isAgg4
 z4:=sizeOf4
 v4:=zeroValue4
 t5:=underlying5
 a5:=isAgg5
 z5:=sizeOf5
 v5:=zeroValue5
 t9:=underlying9
 a9:=isAgg9
 z9:=sizeOf9
 v9:=zeroValue9
 t20:=underlying20
 a20:=isAgg20
 z20:=sizeOf20
 v20:=zeroValue20
 t21:=underlying21
 a21:=isAgg21
 z21:=sizeOf21
 v21:=zeroValue21
 t37:=underlying277
 a37:=isAgg277
 z37:=sizeOf277
 v37:=zeroValue277
 t46:=underlying284
 a46:=isAgg284
 z46:=sizeOf284
 v46:=zeroValue284
 t51:=underlying316
 a51:=isAgg316
 z51:=sizeOf316
 v51:=zeroValue316
 t53:=underlying256
 a53:=isAgg256
 z53:=sizeOf256
 v53:=zeroValue256
 t75:=underlying253
 a75:=isAgg253
 z75:=sizeOf253
 v75:=zeroValue253
 t76:=underlying254
 a76:=isAgg254
 z76:=sizeOf254
 v76:=zeroValue254
 t85:=underlying303
 a85:=isAgg303
 z85:=sizeOf303
 v85:=zeroValue303
 t127:=underlying299
 a127:=isAgg299
 z127:=sizeOf299
 v127:=zeroValue299
 t143:=underlying345
 a143:=isAgg345
 z143:=sizeOf345
 v143:=zeroValue345
 t145:=underlying347
 a145:=isAgg347
 z145:=sizeOf347
 v145:=zeroValue347
 t167:=underlying302
 a167:=isAgg302
 z167:=sizeOf302
 v167:=zeroValue302
 t168:=underlying305
 a168:=isAgg305
 z168:=sizeOf305
 v168:=zeroValue305
 t171:=underlying319
 a171:=isAgg319
 z171:=sizeOf319
 v171:=zeroValue319
 t173:=underlying321
 a173:=isAgg321
 z173:=sizeOf321
 v173:=zeroValue321
 t175:=underlying328
 a175:=isAgg328
 z175:=sizeOf328
 v175:=zeroValue328
 t210:=underlying332
 a210:=isAgg332
 z210:=sizeOf332
 v210:=zeroValue332
 t212:=underlying341
 a212:=isAgg341
 z212:=sizeOf341
 v212:=zeroValue341
 t213:=underlying342
 a213:=isAgg342
 z213:=sizeOf342
 t232:=underlying351
 a232:=isAgg351
 z232:=sizeOf351
 v232:=zeroValue351
 t233:=underlying352
 a233:=isAgg352
 z233:=sizeOf352
 v233:=zeroValue352
 g15:=wm
 g16:=wm
 g17:=wm
 g18:=wm
 g19:=by kernel_rfl }
open Go.RowKit in
theorem strconv_Atoi(s:ByteArray)(n:Int)(hl:s.size<=18)(h:Lib.atoi s.data.toList=some n)(w:World):
  Calls prog 206 #[.string s] w λe w'=>e = .returned (.tuple #[.int .i64 n,.nilIface])/\∃t,w'=Lib.bytesWorld w 5 t:=Any.strconv_Atoi dz s n hl h w
def FR:ar:=⟨λ| 129=>246 | n=>n,λ| 53=>256 | 3=>3 | 4=>4 | 46=>284 | 5=>5 | 9=>9 | n=>n,λ| n=>n⟩
theorem pD:iM prog FR:={
 mixed:=wm
 f129:=func246.trans tH
 t3:=underlying3
 a3:=isAgg3
 z3:=sizeOf3
 v3:=zeroValue3
 t4:=underlying4
 a4:=isAgg4
 z4:=sizeOf4
 v4:=zeroValue4
 t5:=underlying5
 a5:=isAgg5
 z5:=sizeOf5
 v5:=zeroValue5
 t9:=underlying9
 a9:=isAgg9
 z9:=sizeOf9
 v9:=zeroValue9
 t46:=underlying284
 a46:=isAgg284
 z46:=sizeOf284
 v46:=zeroValue284
 t53:=underlying256
 a53:=isAgg256
 z53:=sizeOf256
 v53:=zeroValue256 }
theorem bits_Len64(x:Int)(w:World)(h0:0<=x)(h1:x<=18446744073709551615):
  Calls prog 246 #[.int .u64 x] w λe w'=>e = .returned (.int .i64 (ba x.toNat))/\w'=w:=Any.bits_Len64 pD x w h0 h1
def FM:ar:=⟨λ| 283=>285 | n=>n,λ| 3=>3 | 9=>9 | 4=>4 | n=>n,λ| n=>n⟩
theorem dt:iG prog FM:={
 mixed:=wm
 f283:=func285.trans tH
 t3:=underlying3
 a3:=isAgg3
 z3:=sizeOf3
 v3:=zeroValue3
 t4:=underlying4
 a4:=isAgg4
 z4:=sizeOf4
 v4:=zeroValue4
 t9:=underlying9
 a9:=isAgg9
 z9:=sizeOf9
 v9:=zeroValue9 }
open Go.Lib in
theorem internal_strconv_small(i:Nat)(h:i<100)(w:World):
  Calls prog 285 #[.int .i64 i] w λe w'=>e = .returned (.string ⟨(Lib.decDigits i).toArray⟩)/\w'=w:=Any.internal_strconv_small dt i h w
def UR:ar:=⟨λ| 284=>286 | 129=>246 | 317=>302 | 318=>303 | n=>n,λ| 53=>256 | 3=>3 | 212=>341 | 0=>0 | 4=>4 | 46=>284 | 5=>5 | 9=>9 | n=>n,λ| 17=>5 | n=>n⟩
theorem yV:iz prog UR:={
 mixed:=wm
 f129:=func246.trans tH
 f284:=func286.trans tH
 f317:=func302.trans tH
 f318:=func303.trans tH
 t0:=underlying0
 a0:=isAgg0
 z0:=sizeOf0
 v0:=zeroValue0
 t3:=underlying3
 a3:=isAgg3
 z3:=sizeOf3
 v3:=zeroValue3
 t4:=underlying4
 a4:=isAgg4
 z4:=sizeOf4
 v4:=zeroValue4
 t5:=underlying5
 a5:=isAgg5
 z5:=sizeOf5
 v5:=zeroValue5
 t9:=underlying9
 a9:=isAgg9
 z9:=sizeOf9
 v9:=zeroValue9
 t46:=underlying284
 a46:=isAgg284
 z46:=sizeOf284
 v46:=zeroValue284
 t53:=underlying256
 a53:=isAgg256
 z53:=sizeOf256
 v53:=zeroValue256
 t212:=underlying341
 a212:=isAgg341
 z212:=sizeOf341
 v212:=zeroValue341
 g17:=wm
 i0:=wm
 i3:=wm
 i4:=wm
 i5:=wm
 i9:=wm
 i46:=wm
 i53:=wm
 i212:=wm
 m17:=by kernel_rfl }
open Go.Lib in
theorem internal_strconv_numDigits(u:Nat)(h1:1<=u)(h2:u<18446744073709551616)(w:World)(htab:Lib.TabIs prog w "internal/strconv.uint64pow10" .u64 j7):
  Calls prog 286 #[.int .u64 u] w λe w'=>e = .returned (.int .i64 (Lib.nDigits u))/\w'=w:=Any.internal_strconv_numDigits yV u h1 h2 w htab
def FL:ar:=⟨λ| 285=>287 | n=>n,λ| 37=>277 | 53=>256 | 3=>3 | 4=>4 | 51=>316 | 9=>9 | 5=>5 | 0=>0 | n=>n,λ| n=>n⟩
theorem dp:iF prog FL:={
 mixed:=wm
 f285:=func287.trans tH
 t0:=underlying0
 a0:=isAgg0
 z0:=sizeOf0
 v0:=zeroValue0
 t3:=underlying3
 a3:=isAgg3
 z3:=sizeOf3
 v3:=zeroValue3
 t4:=underlying4
 a4:=isAgg4
 z4:=sizeOf4
 v4:=zeroValue4
 t5:=underlying5
 a5:=isAgg5
 z5:=sizeOf5
 v5:=zeroValue5
 t9:=underlying9
 a9:=isAgg9
 z9:=sizeOf9
 v9:=zeroValue9
 t37:=underlying277
 a37:=isAgg277
 z37:=sizeOf277
 v37:=zeroValue277
 t51:=underlying316
 a51:=isAgg316
 z51:=sizeOf316
 v51:=zeroValue316
 t53:=underlying256
 a53:=isAgg256
 z53:=sizeOf256
 v53:=zeroValue256 }
open Go.RowKit Go.Sort Go.Lib in
theorem internal_strconv_formatBase10(Hy off cap:Nat)(u:Nat)(d:Array UInt8)(w:World)(hH:Holds (λ(b:UInt8)=>aK .u8 (b.toNat:Int)) w Hy off d)(hu:u<10^d.size)(hu64:u<18446744073709551616)(hsz:d.size<4611686018427387904):
  Calls prog 287 #[.slice (some ⟨Hy,off,none⟩) d.size cap,.int .u64 u] w λe w' =>
   e = .returned (.tuple #[])/\∃(n v':Nat) (dk:Array UInt8),w'=(putRow (λ(b:UInt8)=>aK .u8 (b.toNat:Int)) w Hy off dk).drewN n/\FmtInv d.size u 0 v' dk:=Any.internal_strconv_formatBase10 dp Hy off cap u d w hH hu hu64 hsz
def US:ar:=⟨λ| 171=>228 | 243=>255 | 246=>284 | 283=>285 | 284=>286 | 285=>287 | 286=>288 | 129=>246 | 317=>302 | 318=>303 | 319=>304 | 320=>305 | 337=>310 | 338=>311 | n=>n,λ| 3=>3 | 9=>9 | 2=>2 | 4=>4 | 171=>319 | 0=>0 | 53=>256 | 37=>277 | 5=>5 | 173=>321 | 212=>341 | 51=>316 | 20=>20 | 213=>342 | 46=>284 | 232=>351 | 233=>352 | n=>n,λ| 17=>5 | 18=>6 | 19=>7 | n=>n⟩
theorem yW:iA prog US:={
 mixed:=wm
 f129:=func246.trans tH
 f171:=func228.trans tH
 f243:=func255.trans tH
 f246:=func284.trans tH
 f283:=func285.trans tH
 f284:=func286.trans tH
 f285:=func287.trans tH
 f286:=func288.trans tH
 f317:=func302.trans tH
 f318:=func303.trans tH
 f319:=func304.trans tH
 f320:=func305.trans tH
 f337:=func310.trans tH
 f338:=func311.trans tH
 t0:=underlying0
 a0:=isAgg0
 z0:=sizeOf0
 v0:=zeroValue0
 t2:=underlying2
 a2:=isAgg2
 z2:=sizeOf2
 v2:=zeroValue2
 t3:=underlying3
 a3:=isAgg3
 z3:=sizeOf3
 v3:=zeroValue3
 t4:=underlying4
 a4:=isAgg4
 z4:=sizeOf4
 v4:=zeroValue4
 t5:=underlying5
 a5:=isAgg5
 z5:=sizeOf5
 v5:=zeroValue5
 t9:=underlying9
 a9:=isAgg9
 z9:=sizeOf9
 v9:=zeroValue9
 t20:=underlying20
 a20:=isAgg20
 z20:=sizeOf20
 v20:=zeroValue20
 t37:=underlying277
 a37:=isAgg277
 z37:=sizeOf277
 v37:=zeroValue277
 t46:=underlying284
 a46:=isAgg284
 z46:=sizeOf284
 v46:=zeroValue284
 t51:=underlying316
 a51:=isAgg316
 z51:=sizeOf316
 v51:=zeroValue316
 t53:=underlying256
 a53:=isAgg256
 z53:=sizeOf256
 v53:=zeroValue256
 t171:=underlying319
 a171:=isAgg319
 z171:=sizeOf319
 v171:=zeroValue319
 t173:=underlying321
 a173:=isAgg321
 z173:=sizeOf321
 v173:=zeroValue321
 t212:=underlying341
 a212:=isAgg341
 z212:=sizeOf341
 v212:=zeroValue341
 t213:=underlying342
 a213:=isAgg342
 z213:=sizeOf342
 t232:=underlying351
 a232:=isAgg351
 z232:=sizeOf351
 v232:=zeroValue351
 t233:=underlying352
 a233:=isAgg352
 z233:=sizeOf352
 v233:=zeroValue352
 g17:=wm
 g18:=wm
 g19:=wm
 i0:=wm
 i2:=wm
 i3:=wm
 i4:=wm
 i5:=wm
 i9:=wm
 i20:=wm
 i37:=wm
 i46:=wm
 i51:=wm
 i53:=wm
 i171:=wm
 i173:=wm
 i212:=wm
 i232:=wm
 i233:=wm
 m17:=wm
 m18:=wm
 m19:=by kernel_rfl }
open Go.RowKit Go.Sort Go.Lib in
theorem strconv_Itoa(n:Int)(h0 : -9223372036854775808<=n)(h1:n<=9223372036854775807)(w:World)(htab:Lib.TabIs prog w "internal/strconv.uint64pow10" .u64 j7):
  Calls prog 228 #[.int .i64 n] w λe w'=>e = .returned (.string ⟨(Lib.itoa n).toArray⟩)/\∃k os,w'=grow (w.drewN k) os:=Any.strconv_Itoa yW n h0 h1 w htab
def FP:ar:=⟨λ| 145=>151 | 220=>199 | 219=>239 | 217=>265 | 225=>266 | 224=>267 | 267=>268 | 266=>292 | 314=>293 | n=>n,λ| 9=>9 | 4=>4 | 59=>204 | 3=>3 | 5=>5 | 46=>284 | 146=>323 | 51=>316 | n=>n,λ| 1=>0 | n=>n⟩
theorem pB:iK prog FP:={
 mixed:=wm
 f145:=func151.trans tH
 f217:=func265.trans tH
 f219:=func239.trans tH
 f220:=func199.trans tH
 f224:=func267.trans tH
 f225:=func266.trans tH
 f266:=func292.trans tH
 f267:=func268.trans tH
 f314:=func293.trans tH
 t3:=underlying3
 a3:=isAgg3
 z3:=sizeOf3
 v3:=zeroValue3
 t4:=underlying4
 a4:=isAgg4
 z4:=sizeOf4
 v4:=zeroValue4
 t5:=underlying5
 a5:=isAgg5
 z5:=sizeOf5
 v5:=zeroValue5
 t9:=underlying9
 a9:=isAgg9
 z9:=sizeOf9
 v9:=zeroValue9
 t46:=underlying284
 a46:=isAgg284
 z46:=sizeOf284
 v46:=zeroValue284
 t51:=underlying316
 a51:=isAgg316
 z51:=sizeOf316
 v51:=zeroValue316
 t59:=underlying204
 a59:=isAgg204
 z59:=sizeOf204
 v59:=zeroValue204
 t146:=underlying323
 a146:=isAgg323
 z146:=sizeOf323
 v146:=zeroValue323
 g1:=by kernel_rfl }
open Go.RowKit Go.Lib in
theorem strings_Cut(s sep:ByteArray)(m:Int)(w:World)(hs:s.size<4294967281)(hm:w.cell? ⟨0,0,none⟩=some (.int .i64 m)):
  Calls prog 151 #[.string s,.string sep] w λe w'=>e = .returned (.tuple #[.string ⟨(j8 s.data.toList sep.data.toList).1.toArray⟩,.string ⟨(j8 s.data.toList sep.data.toList).2.1.toArray⟩,.bool (j8 s.data.toList sep.data.toList).2.2])/\∃n,w'=w.drewN n:=Any.strings_Cut pB s sep m w hs hm
def Lz:ar:=⟨λ| 99=>204 | 206=>240 | n=>n,λ| 9=>9 | 4=>4 | 3=>3 | n=>n,λ| n=>n⟩
theorem QBS:iE prog Lz:={
 mixed:=wm
 f99:=func204.trans tH
 f206:=func240.trans tH
 t3:=underlying3
 a3:=isAgg3
 z3:=sizeOf3
 v3:=zeroValue3
 t4:=underlying4
 a4:=isAgg4
 z4:=sizeOf4
 v4:=zeroValue4
 t9:=underlying9
 a9:=isAgg9
 z9:=sizeOf9
 v9:=zeroValue9 }
open Go.RowKit Go.Lib in
theorem strings_HasPrefix(s p:ByteArray)(w:World):
  Calls prog 204 #[.string s,.string p] w λe w'=>e = .returned (.bool (iT s.data.toList p.data.toList))/\w'=w:=Any.strings_HasPrefix QBS s p w
def FW:ar:=⟨λ| 101=>205 | 208=>241 | 206=>240 | n=>n,λ| 9=>9 | 4=>4 | 3=>3 | n=>n,λ| n=>n⟩
theorem pI:iR prog FW:={
 mixed:=wm
 f101:=func205.trans tH
 f206:=func240.trans tH
 f208:=func241.trans tH
 t3:=underlying3
 a3:=isAgg3
 z3:=sizeOf3
 v3:=zeroValue3
 t4:=underlying4
 a4:=isAgg4
 z4:=sizeOf4
 v4:=zeroValue4
 t9:=underlying9
 a9:=isAgg9
 z9:=sizeOf9
 v9:=zeroValue9 }
open Go.RowKit Go.Lib in
theorem strings_TrimPrefix(s p:ByteArray)(w:World):
  Calls prog 205 #[.string s,.string p] w λe w'=>e = .returned (.string ⟨(iB s.data.toList p.data.toList).toArray⟩)/\w'=w:=Any.strings_TrimPrefix pI s p w
def FN:ar:=⟨λ| 264=>209 | n=>n,λ| 53=>256 | 46=>284 | n=>n,λ| n=>n⟩
theorem dx:iH prog FN:={
 mixed:=wm
 f264:=func209.trans tH
 t46:=underlying284
 a46:=isAgg284
 z46:=sizeOf284
 v46:=zeroValue284
 t53:=underlying256
 a53:=isAgg256
 z53:=sizeOf256
 v53:=zeroValue256 }
open Go.RowKit Go.Lib in
theorem bits_Mul64(x y:Nat)(hx:x<18446744073709551616)(hy:y<18446744073709551616)(w:World):
  Calls prog 209 #[.int .u64 x,.int .u64 y] w λe w'=>e = .returned (.tuple #[.int .u64 ((x*y/18446744073709551616:Nat):Int),.int .u64 ((x*y%18446744073709551616:Nat):Int)])/\w'=w:=Any.bits_Mul64 dx x y hx hy w
def M5:ar:=⟨λ| 105=>231 | 212=>261 | 99=>204 | 165=>262 | 166=>232 | 170=>263 | 169=>233 | 263=>289 | 264=>209 | 206=>240 | 240=>264 | 241=>290 | 276=>291 | 277=>306 | n=>n,λ| 9=>9 | 3=>3 | 4=>4 | 20=>20 | 0=>0 | 46=>284 | 109=>296 | 5=>5 | 72=>279 | 76=>254 | 51=>316 | 146=>323 | 53=>256 | 148=>257 | 70=>276 | 37=>277 | 75=>253 | 127=>299 | 164=>325 | 80=>233 | n=>n,λ| n=>n⟩
theorem pG:iP prog M5:={
 mixed:=wm
 f99:=func204.trans tH
 f105:=func231.trans tH
 f165:=func262.trans tH
 f166:=func232.trans tH
 f169:=func233.trans tH
 f170:=func263.trans tH
 f206:=func240.trans tH
 f212:=func261.trans tH
 f240:=func264.trans tH
 f241:=func290.trans tH
 f263:=func289.trans tH
 f264:=func209.trans tH
 f276:=func291.trans tH
 f277:=func306.trans tH
 t0:=underlying0
 a0:=isAgg0
 z0:=sizeOf0
 v0:=zeroValue0
 t3:=underlying3
 a3:=isAgg3
 z3:=sizeOf3
 v3:=zeroValue3
 t4:=underlying4
 a4:=isAgg4
 z4:=sizeOf4
 v4:=zeroValue4
 t5:=underlying5
 a5:=isAgg5
 z5:=sizeOf5
 v5:=zeroValue5
 t9:=underlying9
 a9:=isAgg9
 z9:=sizeOf9
 v9:=zeroValue9
 t20:=underlying20
 a20:=isAgg20
 z20:=sizeOf20
 v20:=zeroValue20
 t37:=underlying277
 a37:=isAgg277
 z37:=sizeOf277
 v37:=zeroValue277
 t46:=underlying284
 a46:=isAgg284
 z46:=sizeOf284
 v46:=zeroValue284
 t51:=underlying316
 a51:=isAgg316
 z51:=sizeOf316
 v51:=zeroValue316
 t53:=underlying256
 a53:=isAgg256
 z53:=sizeOf256
 v53:=zeroValue256
 t70:=underlying276
 a70:=isAgg276
 z70:=sizeOf276
 v70:=zeroValue276
 t72:=underlying279
 a72:=isAgg279
 z72:=sizeOf279
 v72:=zeroValue279
 t75:=underlying253
 a75:=isAgg253
 z75:=sizeOf253
 v75:=zeroValue253
 t76:=underlying254
 a76:=isAgg254
 z76:=sizeOf254
 v76:=zeroValue254
 t109:=underlying296
 a109:=isAgg296
 z109:=sizeOf296
 v109:=zeroValue296
 t127:=underlying299
 a127:=isAgg299
 z127:=sizeOf299
 v127:=zeroValue299
 t146:=underlying323
 a146:=isAgg323
 z146:=sizeOf323
 v146:=zeroValue323
 t148:=underlying257
 a148:=isAgg257
 z148:=sizeOf257
 v148:=zeroValue257
 t164:=underlying325
 a164:=isAgg325
 z164:=sizeOf325
 v164:=zeroValue325 }
theorem Ey:fZ prog M5:={
 sizeBuilder:=wm
 liesBuilder:=wm
 t5:=underlying5
 a5:=isAgg5
 z5:=sizeOf5
 v5:=zeroValue5
 infoByte:=wm
 cellsByte:=wm
 sizeByte:=wm
 neB5:=by decide }
open Go.RowKit Go.Lib in
theorem strings_Repeat(s:ByteArray)(c:Nat)(w:World)(hc:c<=9223372036854775807)(hlen:s.size*c<=140737488355328):
  Calls prog 231 #[.string s,.int .i64 c] w λe w'=>e = .returned (.string ⟨(Lib.repeatL s.data.toList c).toArray⟩)/\Below w.heap.size w w':=Any.strings_Repeat pG Ey s c w hc hlen
end Go.Proofs
namespace Go.Proofs.YtbpmnjieoncbcaaGreatDoor
variable{w w' w0:World}{E N b bytes i k n off:Nat}{a:Act}{c cs l l' news z:List Value}{o:Obj}{u v1 v3 v4 v5 x2 x3 x4 x5 x6 x7 x8:Value}{A0 A1 A2 A3 A4 A5 A6 A7 A8 A9 α γ ι:Type}{T T' yT:TypeId}{ops:Array Oper}{Q Q':Exit->Act->World->Prop}{tl:List Oper}{K:Act->World->Prop}{g:Bool}{x y:Operand}{bs bs' bs0 ob:List (Nat×Obj)}{fr:Nat×Nat}{P:Program}{f:Obj->List (Nat×Obj)}{fn:Func}{aft:Array Edge}{gd:Option (Nat×Bool)}{x1:Nat×Obj}{ps:List (Nat×Value)}{s:ByteArray}{pl:List (Nat×Nat)}{ds:List Int}{h:Int}{F F0:Gs}{G:Gs->Prop}{m:Sl}
open Go.RowKit
section
variable{P:Program}{N:Nat}{m:Sl}{S:World->Prop}{ty:TypeId}{T yT:TypeId}{x y:Operand}{a b:Nat}{k:IntKind}
def AJ(n:Int):IntKind.u64.wrap n=n%18446744073709551616:=IntKind.wrap_u64 n
theorem Le(hx:ev m x=some (.int .u64 (a:Int)))(hy:ev m y=some (.int k (b:Int)))(z:Nat)(h:b<=64/\a*2^b%18446744073709551616=z):Qt P N m S (.binOp .shl T x y yT) ty (.int .u64 (z:Int)):=λs w _ _ _ _ ha _=>by
 have h1:min b 64=b:=O;have h2:¬((b:Int)<0):=O;have h3:IntKind.u64.wrap ((a:Int)*2^b)=(z:Int):=by
  rw[AJ,<-h.2,bW,aV,aU];rfl
 simp[execOp,ha.ev hx,ha.ev hy,eqGuard,binOp,iS,bJ,h1,h2,h3]
theorem T9(hx:ev m x=some (.int .u64 (a:Int)))(hy:ev m y=some (.int k (b:Int)))(z:Nat)(h:b<=64/\a/2^b=z):Qt P N m S (.binOp .shr T x y yT) ty (.int .u64 (z:Int)):=λs w _ _ _ _ ha _=>by
 have h1:min b 64=b:=O;have h2:¬((b:Int)<0):=O;have h3:(a:Int)/2^b=(z:Int):=by
  rw[<-h.2,bX,aU];rfl
 simp[execOp,ha.ev hx,ha.ev hy,eqGuard,binOp,iS,bJ,h1,h2];exact h3
def Wk(n:Nat)(h:n<18446744073709551616):(aP 64 (n:Int)).toNat=n:=by
 rw[fz];have h3:(((2^64:Nat):Int))=18446744073709551616:=wu;rw[h3];omega
theorem zS(hx:ev m x=some (.int .u64 (a:Int)))(hy:ev m y=some (.int .u64 ((4294967295:Nat):Int)))(z:Nat)(h:a<18446744073709551616/\a%4294967296=z):Qt P N m S (.binOp .and T x y yT) ty (.int .u64 (z:Int)):=λs w _ _ _ _ ha _=>by
 have e:IntKind.u64.wrap (((aP 64 (a:Int) &&& aP 64 ((4294967295:Nat):Int)).toNat:Nat):Int)=(z:Int):=by
  rw[fK,Wk a h.1,Wk _ wu,show(4294967295:Nat)=2^32-1 by decide,Nat.and_two_pow_sub_one_eq_mod,AJ];have:=h.2;omega
 have e2:(do eqGuard .and T x y (.int .u64 (a:Int)) (.int .u64 ((4294967295:Nat):Int));binOp .and T (.int .u64 (a:Int)) (.int .u64 ((4294967295:Nat):Int)):Sem Value).run P w = .ok (.int .u64 (z:Int)) w:=by
  simp only[eqGuard,binOp,hJ,aj,aG,ak];rw[<-e];rfl
 simp only[execOp,ha.ev hx,ha.ev hy];simp only[aj]at e2 ⊢;rw[e2];rfl
theorem QD3(hx:ev m x=some (.int .u64 (a:Int)))(hy:ev m y=some (.int .u64 (b:Int)))(z:Nat)(h:a<18446744073709551616/\(∃c k,a=c*2^k/\b<2^k)/\b<18446744073709551616/\a+b=z):Qt P N m S (.binOp .or T x y yT) ty (.int .u64 (z:Int)):=λs w _ _ _ _ ha _=>by
 obtain⟨h1,⟨c,k,h2,h3⟩,h4,h5⟩:=h;have e:IntKind.u64.wrap (((aP 64 (a:Int) ||| aP 64 (b:Int)).toNat:Nat):Int)=(z:Int):=by
  have h7:a ||| b=a+b:=by rw[h2,aB,eU h3]
  have h8:a ||| b<2^64:=Nat.or_lt_two_pow h1 h4
  rw[BitVec.toNat_or,Wk a h1,Wk b h4,AJ];omega
 have e2:(do eqGuard .or T x y (.int .u64 (a:Int)) (.int .u64 (b:Int));binOp .or T (.int .u64 (a:Int)) (.int .u64 (b:Int)):Sem Value).run P w = .ok (.int .u64 (z:Int)) w:=by
  simp only[eqGuard,binOp,hJ,aj,aG,ak];rw[<-e];rfl
 simp only[execOp,ha.ev hx,ha.ev hy];simp only[aj]at e2 ⊢;rw[e2];rfl
def Gn(hx:ev m x=some (.int .u64 (a:Int)))(hy:ev m y=some (.int .u64 (b:Int)))(z:Nat)(h:(a+b)%18446744073709551616=z):Qt P N m S (.binOp .add T x y yT) ty (.int .u64 (z:Int)) :=
 QT hx hy (by show some (aK .u64 (IntKind.u64.wrap ((a:Int)+b)))=_;rw[AJ];congr 2;omega)
def WH(hx:ev m x=some (.int .u64 (a:Int)))(hy:ev m y=some (.int .u64 (b:Int)))(z:Nat)(h:a*b%18446744073709551616=z):Qt P N m S (.binOp .mul T x y yT) ty (.int .u64 (z:Int)) :=
 QT hx hy (by show some (aK .u64 (IntKind.u64.wrap ((a:Int)*b)))=_;rw[AJ,<-aV];congr 2;omega)
def Gm(hx:ev m x=some (.int .u64 (a:Int)))(hy:ev m y=some (.int .u64 (b:Int)))(z:Nat)(h:b<18446744073709551616/\(a+18446744073709551616-b)%18446744073709551616=z):Qt P N m S (.binOp .sub T x y yT) ty (.int .u64 (z:Int)) :=
 QT hx hy (by show some (aK .u64 (IntKind.u64.wrap ((a:Int)-b)))=_;rw[AJ];congr 2;omega)
def Lf(hx:ev m x=some (.int .u64 (a:Int)))(hy:ev m y=some (.int .u64 (b:Int)))(z:Nat)(h:0<b/\a<18446744073709551616/\a/b=z):Qt P N m S (.binOp .quo T x y yT) ty (.int .u64 (z:Int)):=by
 have:=vp (P:=P) (N:=N) (m:=m) (S:=S) (ty:=ty) (T:=T) (yT:=yT) hx hy O;have e:IntKind.u64.wrap ((a:Int).tdiv b)=(z:Int):=by
  have h1:a/b<=a:=Nat.div_le_self a b;rw[Int.tdiv_eq_ediv_of_nonneg O,<-bX,AJ,h.2.2];omega
 rw[e]at this;exact this
def QAy(hx:ev m x=some (.int .u64 (a:Int)))(hy:ev m y=some (.int .u64 (b:Int)))(z:Nat)(h:0<b/\a%b=z):Qt P N m S (.binOp .rem T x y yT) ty (.int .u64 (z:Int)):=by
 have:=Hi (P:=P) (N:=N) (m:=m) (S:=S) (ty:=ty) (T:=T) (yT:=yT) hx hy O O;rw[<-bW,h.2]at this;exact this
end
section
variable{D yn1 yn0 u un q r:Nat}
def yt(hD:D=4294967296)(h:q*yn1+r=u)(hc:q*yn0<=D*r+un):q*(yn1*D+yn0)<=u*D+un:=by
 subst hD;rw[lf,<-iD,<-h];generalize q*yn1=A at *
 generalize q*yn0=B at *
 omega
def pW(hy:0<yn1*D+yn0)(hq:(u*D+un)/(yn1*D+yn0)<=q)(h:q*(yn1*D+yn0)<=u*D+un):q=(u*D+un)/(yn1*D+yn0) :=
 Nat.le_antisymm ((Nat.le_div_iff_mul_le hy).2 h) hq
def MS(hD:D=4294967296)(hy:0<yn1*D+yn0)(h:q*yn1+r=u)(hq:(u*D+un)/(yn1*D+yn0)<=q)(hc:q*yn0<=D*r+un):q=(u*D+un)/(yn1*D+yn0):=pW hy hq (yt hD h hc)
def ES(hD:D=4294967296)(hy:0<yn1*D+yn0)(h0:yn0<D)(h:q*yn1+r=u)(hq:(u*D+un)/(yn1*D+yn0)<=q)(hqD:q<=D)(hr:D<=r):q=(u*D+un)/(yn1*D+yn0):=by
 refine MS hD hy h hq ?_;have h1:q*yn0<=D*D:=iw hqD O;have h2:D*D<=D*r:=fG D hr;omega
def KK(hD:D=4294967296)(hy:0<yn1*D+yn0)(hu:u<yn1*D+yn0)(hun:un<D)(h:q*yn1+r=u)(hc:D<=q\/D*r+un<q*yn0):(u*D+un)/(yn1*D+yn0)<q:=by
 rw[aW hy];rcases hc with hc | hc
 ·have h1:D*(yn1*D+yn0)<=q*(yn1*D+yn0):=aZ _ hc;have h2:(u+1)*D<=(yn1*D+yn0)*D:=aZ _ hu;rw[aE]at h2;rw[aB D]at h1;omega
 subst hD;rw[lf,<-iD,<-h];generalize q*yn1=A at *
 generalize q*yn0=B at *
 omega
def RZ(hD:D=4294967296)(h1:2147483648<=yn1)(hun:un<D):(u*D+un)/(yn1*D+yn0)<=u/yn1:=by
 have h2:0<yn1*D:=by subst hD;omega
 refine eH (Nat.div_le_div_left (Nat.le_add_right _ yn0) h2) ?_;rw[aB yn1,<-Nat.div_div_eq_div_mul];have:(u*D+un)/D=u:=by subst hD;omega
 rw[this];exact au _
def M6(hD:D=4294967296)(h1:2147483648<=yn1)(h0:yn0<D)(hu:u<yn1*D+yn0):u/yn1<=D+1:=by
 have:u/yn1<D+2:=by
  rw[aW O];subst hD;omega
 omega
end
structure Th(yn1 yn0 u un:Nat) where
 q:Nat
 r:Nat
 h:q*yn1+r=u
 le:(u*4294967296+un)/(yn1*4294967296+yn0)<=q
 up:q<=4294967297
 lo:r<4294967296
theorem KJ{q yn1 r u:Nat}(h:q*yn1+r=u)(hq:1<=q):(q-1)*yn1+(r+yn1)=u:=by
 obtain⟨k,rfl⟩:∃k,q=k+1:=⟨q-1,O⟩;rw[aE]at h;rw[Nat.add_sub_cancel];omega
def CP{q a:Nat}(hq:q<4294967296)(ha:a<4294967296):q*a<18446744073709551616:=by
 have:q*a<=4294967295*4294967295:=iw O O;omega
def O7{S:World->Prop}{ty:TypeId}{src dst:TypeId}{k':IntKind}{n:Nat}(hx:ev m x=some (.int k' (n:Int)))(hs:(P.underlying src).isSome=true)(hk:Nk P dst=some .u64)(h:n<18446744073709551616):Qt P N m S (.convert src dst x) ty (.int .u64 (n:Int)):=by
 have:=Ir (P:=P) (N:=N) (m:=m) (S:=S) (ty:=ty) hx hs hk;rw[AJ,bT O O]at this;exact this
def QV.same[Dr]{P:Program}{f:FuncId}{args:List Value}{w:World}{F:Gs}{v:Value}(he:Enters P f)(hF:Fits F w)(h:Calls P f args.toArray w λe w'=>e = .returned v/\w'=w):QV P f args w F (λ(_:Unit)=>v) (λ_ _=>True) :=
 ⟨he,h.mono λe w' ⟨h1,h2⟩=>⟨(),F,h1,by rw[h2];exact Se.refl _,Gs.le_refl F,λ_ _=>rfl,by rw[h2];exact hF,λ_ _=>trivial⟩⟩
theorem CH{y:Nat}(h0:0<y)(h1:y<18446744073709551616):∃s:Nat,(64-(ba y:Int))=s/\s<64/\y*2^s<18446744073709551616/\9223372036854775808<=y*2^s:=by
 obtain⟨g1,g2,g3⟩:=Lib.bitLenAux_bounds 64 y h1 O;have g4:ba y<=64:=Lib.bitLen_le y 64 O h1;change 1<=ba y at g1;change 2^(ba y-1)<=y at g2;change y<2^ba y at g3;generalize ba y=n at *
 refine⟨64-n,O,O,?_,?_⟩
 ·have e:2^n*2^(64-n)=18446744073709551616:=by rw[<-eM,show n+(64-n)=64 by omega]
  rw[<-e];exact eV g3 (eQ _)
 have e:2^(n-1)*2^(64-n)=9223372036854775808:=by rw[<-eM,show n-1+(64-n)=63 by omega]
 rw[<-e];exact aZ _ g2
theorem QBO{y s:Nat}(hF:Fits F w)(h1:y<18446744073709551616)(hs:(64-(ba y:Int))=s):QV prog 257 [.int .u64 (y:Int)] w F (λ(_:Unit)=>.int .i64 (s:Int)) (λ_ _=>True) :=
 QV.same (enters_of func257 wy rfl) hF ((bits_LeadingZeros64 (y:Int) w O O).mono λe w' ⟨h2,h3⟩=>⟨by rw[h2,eI,hs],h3⟩)
def qc{A B R1 R0 u v v1 v0:Nat}(h1:A+R1=u*4294967296+v1)(h2:B+R0=R1*4294967296+v0)(h3:v=v1*4294967296+v0):A*4294967296+B+R0=u*18446744073709551616+v:=by
 subst h3;omega
def Fh{q a r:Nat}(h:((q*a:Nat):Int)>(r:Int)):1<=q:=by
 rcases fN q with h0 | h0
 ·subst h0;simp at h;omega
 exact h0
def QBo{q:Nat}(h:q<4294967296):q*4294967296%18446744073709551616=q*4294967296:=O
def QBp{q p:Nat}(h:q<4294967296)(k:p<4294967296):(q*4294967296+p)%18446744073709551616=q*4294967296+p:=O
theorem uA{h l y:Nat}(hF:Fits F w)(hh:h<y)(hl:l<18446744073709551616)(hy:y<18446744073709551616):
  QV prog 256 [.int .u64 (h:Int),.int .u64 (l:Int),.int .u64 (y:Int)] w F (λ(_:Unit)=>.tuple #[.int .u64 (((h*18446744073709551616+l)/y:Nat):Int),.int .u64 (((h*18446744073709551616+l)%y:Nat):Int)]) (λ_ _=>True):=by
 obtain⟨s,hs,hs64,hY1,hY2⟩:=CH O hy;obtain⟨Y,hYe⟩:∃Y,Y=y*2^s:=⟨_,rfl⟩;obtain⟨a1,ha1⟩:∃a1,a1=Y/4294967296:=⟨_,rfl⟩;obtain⟨a0,ha0⟩:∃a0,a0=Y%4294967296:=⟨_,rfl⟩;obtain⟨u,hu⟩:∃u,u=h*2^s+l/2^(64-s):=⟨_,rfl⟩;obtain⟨v,hv⟩:∃v,v=l*2^s%18446744073709551616:=⟨_,rfl⟩;obtain⟨v1,hv1⟩:∃v1,v1=v/4294967296:=⟨_,rfl⟩;obtain⟨v0,hv0⟩:∃v0,v0=v%4294967296:=⟨_,rfl⟩;rw[<-hYe]at hY1 hY2;have hA1:2147483648<=a1:=O;have ha0l:a0<4294967296:=O;have hv1l:v1<4294967296:=O;have hv0l:v0<4294967296:=O;have hYa:a1*4294967296+a0=Y:=O;have e64:2^(64-s)*2^s=18446744073709551616:=by rw[<-eM,show 64-s+s=64 by omega]
 have hp:=eQ s;have hlow:l/2^(64-s)<2^s:=by rw[aW (eQ _),aB,e64];exact hl
 have hhs:h*2^s+2^s<=Y:=by have:=aZ (2^s) hh;rw[Nat.succ_mul]at this;omega
 have huY:u<Y:=O;have hNv:u*18446744073709551616+v=(h*18446744073709551616+l)*2^s:=by
  have h1:l*2^s/18446744073709551616=l/2^(64-s):=by rw[<-e64,fl _ _ hp]
  have h2:=aT (l*2^s) 18446744073709551616;rw[h1,<-hv]at h2;rw[hu,aE,aE,fL];omega
 obtain⟨Q1,hQ1⟩:∃Q1,Q1=(u*4294967296+v1)/(a1*4294967296+a0):=⟨_,rfl⟩;obtain⟨R1,hR1⟩:∃R1,R1=(u*4294967296+v1)%(a1*4294967296+a0):=⟨_,rfl⟩;have hY0:0<a1*4294967296+a0:=O;have hR1l:R1<Y:=by rw[hR1,<-hYa];exact eF _ hY0
 have hD1:Q1*Y+R1=u*4294967296+v1:=by rw[hQ1,hR1,<-hYa,aB];exact aT _ _
 have hQ1l:Q1<4294967296:=by rw[hQ1,aW hY0,hYa];omega
 obtain⟨Q0,hQ0⟩:∃Q0,Q0=(R1*4294967296+v0)/(a1*4294967296+a0):=⟨_,rfl⟩;obtain⟨R0,hR0⟩:∃R0,R0=(R1*4294967296+v0)%(a1*4294967296+a0):=⟨_,rfl⟩;have hR0l:R0<Y:=by rw[hR0,<-hYa];exact eF _ hY0
 have hD0:Q0*Y+R0=R1*4294967296+v0:=by rw[hQ0,hR0,<-hYa,aB];exact aT _ _
 have hQ0l:Q0<4294967296:=by rw[hQ0,aW hY0,hYa];omega
 have hall:(Q1*4294967296+Q0)*Y+R0=(h*18446744073709551616+l)*2^s:=by
  rw[<-hNv,aE,fL];exact qc hD1 hD0 O
 have hq:(h*18446744073709551616+l)/y=Q1*4294967296+Q0:=by
  have:=fl (h*18446744073709551616+l) y hp;rw[<-this,<-hall,<-hYe,aB _ Y,Nat.mul_add_div O,Nat.div_eq_of_lt hR0l,ff]
 have hr:(h*18446744073709551616+l)%y=R0/2^s:=by
  have:=Nat.mul_mod_mul_right (2^s) (h*18446744073709551616+l) y;rw[<-hall,<-hYe,aB _ Y,Nat.mul_add_mod,bH hR0l]at this;rw[this,Nat.mul_div_cancel _ hp]
 refine QV.intro (G:=λ_=>True) func256 rfl wy rfl rfl hF w8<|QI7<|QH1 rfl<|wQ rfl<|QG<|wR rfl<|QA (QT rfl rfl rfl)<|QE<|QC ?_
 refine QR I (λhc=>?_) λhc=>?_
 ·exact absurd hc (by simp at hc;omega)
 refine QJL 10 I ?_;refine QR I (λhc=>?_) λhc=>?_
 ·exact absurd hc (by simp at hc;omega)
 refine QJL 9 I ?_;refine QR I (λhc=>?_) λhc=>?_
 ·refine QG<|JH QIM mixed wm<|QK (QD I)<|QK (QD I)<|QK (Lf I I (l/y) (⟨O,O,rfl⟩))<|QK (QD I)<|QK (QD I)<|QK (QAy I I (l%y) (⟨O,rfl⟩))<|QK (QF I)<|QK (QF I)<|Q7<|QC<|QY ?_
  exact Jd () I (wO I I) (by have h0:h=0:=(by simp at hc;omega);subst h0;simp) w8
 refine QJL 5 I<|QI I (λ_ _ f k=>QBO (s:=s) f O hs) λc35=>QA (O7 I QDY cS O)<|QJK 7 I<|QA (Le I I (Y) (⟨O,by rw[<-hYe];omega⟩))<|QJK 6 I<|QA (T9 (b:=32) rfl rfl (a1) (⟨wu,ha1.symm⟩))<|QJK 3 I ?_
 refine wR I<|QA (zS I I (a0) (⟨O,ha0.symm⟩))<|QJK 7 I<|QA (Le I I (h*2^s) (⟨O,bH O⟩))<|wB 2 I<|QA (Gm (a:=64) rfl rfl (64-s) (⟨O,O⟩))<|QA (T9 I I (l/2^(64-s)) (⟨O,rfl⟩))<|QA (QD3 I I (u) (⟨O,⟨h,s,rfl,hlow⟩,O,hu.symm⟩))<|QJK 7 I<|QA (Le I I (v) (⟨O,hv.symm⟩)) ?_
 refine QJK 6 I<|QA (T9 (b:=32) rfl rfl (v1) (⟨wu,hv1.symm⟩))<|QJK 6 I<|QA (zS I I (v0) (⟨O,hv0.symm⟩))<|QJK 7 I<|QA (Lf I I (u/a1) (⟨O,O,rfl⟩))<|QJK 3 I ?_
 refine wA 5 I<|QA (WH I I (u/a1*a1) (wk<|bM u a1))<|QA (Gm I I (u%a1) (by have:=aT u a1;rw[aB]at this;have:=bM u a1;omega))<|QJK 3 I ?_
 refine BU (ι:=Unit) (λ_=>[(2,.int .u64 ((Y:Nat):Int)),(8,.int .u64 ((s:Nat):Int)),(9,.int .u64 ((a1:Nat):Int)),(10,.int .u64 ((a0:Nat):Int)),(11,.int .u64 ((u:Nat):Int)),(13,.int .u64 ((v1:Nat):Int)),(14,.int .u64 ((v0:Nat):Int)),(15,.int .u64 ((Q1:Nat):Int))]) (λ_=>[]) (λ_ _=>True) ?_ ?_
 ·refine QW<|YA (ι:=Th a1 a0 u v1) (λi=>[(2,.int .u64 ((Y:Nat):Int)),(8,.int .u64 ((s:Nat):Int)),(9,.int .u64 ((a1:Nat):Int)),(10,.int .u64 ((a0:Nat):Int)),(11,.int .u64 ((u:Nat):Int)),(13,.int .u64 ((v1:Nat):Int)),(14,.int .u64 ((v0:Nat):Int)),(15,.int .u64 ((i.q:Nat):Int)),(16,.int .u64 ((i.r:Nat):Int))]) (λ_=>[]) (λ_ _=>True) (λi=>i.q) ⟨u/a1,u%a1,by rw[aB];exact aT u a1,RZ I hA1 hv1l,M6 I hA1 ha0l O,by have:=eF u (show a1>0 by omega);omega⟩ we QIM w8 λi=>wA 6 I ?_
  refine Ql (t:=69) rfl (λhb69=>?_) λhb69=>?_
  ·refine QJK 11 I ?_;refine QR I (λhc=>?_) λhc=>?_
   ·refine QJL 6 I<|QA (Gm (b:=1) rfl rfl (i.q-1) (⟨wu,by have:=i.up;have:=QJG hb69;omega⟩))<|QJK 7 I<|QA (Gn I I (i.r+a1) (wk i.lo))<|QJK 9 I ?_
    refine QR I (λhc=>?_) λhc=>?_
    ·refine Qz ?_
     repeat first|refine QZ ?_|refine QQ wy ?_
     refine Qa ?_;simp only[decide_eq_true_eq]at *;have more:=KK (un:=v1) (D:=4294967296) rfl O O O i.h (.inl O);exact Zd () ⟨rfl,rfl,rfl,rfl,rfl,rfl,rfl,congrArg (λn:Nat=>some (aK .u64 (n:Int))) ((ES I O ha0l (KJ i.h O) (by rw[<-hQ1];rw[<-hQ1]at more;omega) (wk i.up) O).trans hQ1.symm),trivial⟩ QIM w8
    refine QO<|Qk ?_
    simp only[decide_eq_true_eq,decide_eq_false_iff_not]at *;have more:=KK (un:=v1) (D:=4294967296) rfl O O O i.h (.inl O);exact Qm (⟨i.q-1,i.r+a1,KJ i.h O,O,wk i.up,O⟩:Th a1 a0 u v1) (by show i.q-1<i.q;omega) we QIM w8
   refine Qz ?_
   repeat first|refine QZ ?_|refine QQ wy ?_
   refine Qa ?_;cases hc
  refine wB 5 I<|QA (WH I I (i.q*a0) (bH (CP (wk<|QJH hb69) ha0l)))<|wB 3 I<|QA (WH (a:=4294967296) rfl rfl (4294967296*i.r) (wk i.lo))<|wB 3 I<|QA (Gn I I (4294967296*i.r+v1) (wk i.lo))<|QJK 5 I ?_
  refine QR I (λhc=>?_) λhc=>?_
  ·refine QJL 6 I<|QA (Gm (b:=1) rfl rfl (i.q-1) (⟨wu,by have:=i.up;have:=Fh (QJG hc);omega⟩))<|QJK 7 I<|QA (Gn I I (i.r+a1) (wk i.lo))<|QJK 9 I ?_
   refine QR I (λhc=>?_) λhc=>?_
   ·refine Qz ?_
    repeat first|refine QZ ?_|refine QQ wy ?_
    refine Qa ?_;simp only[decide_eq_true_eq]at *;have more:=KK (un:=v1) (D:=4294967296) rfl O O O i.h (.inr O);exact Zd () ⟨rfl,rfl,rfl,rfl,rfl,rfl,rfl,congrArg (λn:Nat=>some (aK .u64 (n:Int))) ((ES I O ha0l (KJ i.h O) (by rw[<-hQ1];rw[<-hQ1]at more;omega) (wk i.up) O).trans hQ1.symm),trivial⟩ QIM w8
   refine QO<|Qk ?_
   simp only[decide_eq_true_eq,decide_eq_false_iff_not]at *;have more:=KK (un:=v1) (D:=4294967296) rfl O O O i.h (.inr O);exact Qm (⟨i.q-1,i.r+a1,KJ i.h O,O,wk i.up,O⟩:Th a1 a0 u v1) (by show i.q-1<i.q;omega) we QIM w8
  refine Qz ?_
  repeat first|refine QZ ?_|refine QQ wy ?_
  refine Qa ?_;simp only[decide_eq_false_iff_not]at *;exact Zd () ⟨rfl,rfl,rfl,rfl,rfl,rfl,rfl,congrArg (λn:Nat=>some (aK .u64 (n:Int))) ((MS I O i.h i.le O).trans hQ1.symm),trivial⟩ QIM w8
 intro i;refine wR I<|QA (WH (b:=4294967296) rfl rfl (u*4294967296%18446744073709551616) (rfl))<|QH0 I<|QA (Gn I I ((u*4294967296+v1)%18446744073709551616) O)<|wB 2 I<|QA (WH I I (Q1*Y%18446744073709551616) (rfl))<|QA (Gm I I (R1) (⟨O,by generalize Q1*Y=B at *;omega⟩))<|QJK 7 I<|QA (Lf I I (R1/a1) (⟨O,O,rfl⟩))<|QJK 7 I ?_
 refine QH0 I<|QA (WH I I (R1/a1*a1) (wk<|bM R1 a1))<|QA (Gm I I (R1%a1) (by have:=aT R1 a1;rw[aB]at this;have:=bM R1 a1;omega))<|QJK 3 I ?_
 refine BU (ι:=Unit) (λ_=>[(2,.int .u64 ((Y:Nat):Int)),(8,.int .u64 ((s:Nat):Int)),(14,.int .u64 ((v0:Nat):Int)),(15,.int .u64 ((Q1:Nat):Int)),(17,.int .u64 ((R1:Nat):Int)),(18,.int .u64 ((Q0:Nat):Int))]) (λ_=>[]) (λ_ _=>True) ?_ ?_
 ·refine QW<|YA (ι:=Th a1 a0 R1 v0) (λi=>[(2,.int .u64 ((Y:Nat):Int)),(8,.int .u64 ((s:Nat):Int)),(9,.int .u64 ((a1:Nat):Int)),(10,.int .u64 ((a0:Nat):Int)),(14,.int .u64 ((v0:Nat):Int)),(15,.int .u64 ((Q1:Nat):Int)),(17,.int .u64 ((R1:Nat):Int)),(18,.int .u64 ((i.q:Nat):Int)),(16,.int .u64 ((i.r:Nat):Int))]) (λ_=>[]) (λ_ _=>True) (λi=>i.q) ⟨R1/a1,R1%a1,by rw[aB];exact aT R1 a1,RZ I hA1 hv0l,M6 I hA1 ha0l O,by have:=eF R1 (show a1>0 by omega);omega⟩ we QIM w8 λi=>wA 6 I ?_
  refine Ql (t:=104) rfl (λhb104=>?_) λhb104=>?_
  ·refine QJK 11 I ?_;refine QR I (λhc=>?_) λhc=>?_
   ·refine QJL 6 I<|QA (Gm (b:=1) rfl rfl (i.q-1) (⟨wu,by have:=i.up;have:=QJG hb104;omega⟩))<|QJK 7 I<|QA (Gn I I (i.r+a1) (wk i.lo))<|QJK 9 I ?_
    refine QR I (λhc=>?_) λhc=>?_
    ·refine Qz ?_
     repeat first|refine QZ ?_|refine QQ wy ?_
     refine Qa ?_;simp only[decide_eq_true_eq]at *;have more:=KK (un:=v0) (D:=4294967296) rfl O O O i.h (.inl O);exact Zd () ⟨rfl,rfl,rfl,rfl,rfl,congrArg (λn:Nat=>some (aK .u64 (n:Int))) ((ES I O ha0l (KJ i.h O) (by rw[<-hQ0];rw[<-hQ0]at more;omega) (wk i.up) O).trans hQ0.symm),trivial⟩ QIM w8
    refine QO<|Qk ?_
    simp only[decide_eq_true_eq,decide_eq_false_iff_not]at *;have more:=KK (un:=v0) (D:=4294967296) rfl O O O i.h (.inl O);exact Qm (⟨i.q-1,i.r+a1,KJ i.h O,O,wk i.up,O⟩:Th a1 a0 R1 v0) (by show i.q-1<i.q;omega) we QIM w8
   refine Qz ?_
   repeat first|refine QZ ?_|refine QQ wy ?_
   refine Qa ?_;cases hc
  refine wB 5 I<|QA (WH I I (i.q*a0) (bH (CP (wk<|QJH hb104) ha0l)))<|wB 3 I<|QA (WH (a:=4294967296) rfl rfl (4294967296*i.r) (wk i.lo))<|wB 3 I<|QA (Gn I I (4294967296*i.r+v0) (wk i.lo))<|QJK 5 I ?_
  refine QR I (λhc=>?_) λhc=>?_
  ·refine QJL 6 I<|QA (Gm (b:=1) rfl rfl (i.q-1) (⟨wu,by have:=i.up;have:=Fh (QJG hc);omega⟩))<|QJK 7 I<|QA (Gn I I (i.r+a1) (wk i.lo))<|QJK 9 I ?_
   refine QR I (λhc=>?_) λhc=>?_
   ·refine Qz ?_
    repeat first|refine QZ ?_|refine QQ wy ?_
    refine Qa ?_;simp only[decide_eq_true_eq]at *;have more:=KK (un:=v0) (D:=4294967296) rfl O O O i.h (.inr O);exact Zd () ⟨rfl,rfl,rfl,rfl,rfl,congrArg (λn:Nat=>some (aK .u64 (n:Int))) ((ES I O ha0l (KJ i.h O) (by rw[<-hQ0];rw[<-hQ0]at more;omega) (wk i.up) O).trans hQ0.symm),trivial⟩ QIM w8
   refine QO<|Qk ?_
   simp only[decide_eq_true_eq,decide_eq_false_iff_not]at *;have more:=KK (un:=v0) (D:=4294967296) rfl O O O i.h (.inr O);exact Qm (⟨i.q-1,i.r+a1,KJ i.h O,O,wk i.up,O⟩:Th a1 a0 R1 v0) (by show i.q-1<i.q;omega) we QIM w8
  refine Qz ?_
  repeat first|refine QZ ?_|refine QQ wy ?_
  refine Qa ?_;simp only[decide_eq_false_iff_not]at *;exact Zd () ⟨rfl,rfl,rfl,rfl,rfl,congrArg (λn:Nat=>some (aK .u64 (n:Int))) ((MS I O i.h i.le O).trans hQ0.symm),trivial⟩ QIM w8
 intro i;refine wR I<|QA (WH (b:=4294967296) rfl rfl (Q1*4294967296) (QBo hQ1l))<|QH0 I<|QA (Gn I I (Q1*4294967296+Q0) (QBp hQ1l hQ0l))<|QH0 I<|QA (WH (b:=4294967296) rfl rfl (R1*4294967296%18446744073709551616) (rfl))<|QH0 I<|QA (Gn I I ((R1*4294967296+v0)%18446744073709551616) O)<|wB 2 I<|QA (WH I I (Q0*Y%18446744073709551616) (rfl))<|QA (Gm I I (R0) (⟨O,by generalize Q0*Y=B at *;omega⟩))<|QH0 I<|QA (T9 I I (R0/2^s) (⟨O,rfl⟩))<|QJK 5 I ?_
 exact Jd () I (wO I I) (by rw[hq,hr]) w8
open Go.RowKit Ig
def X4(x y:Int):Int:=x*y/W
def XC(x y:Int):Int:=x*y%W
theorem KI(x y:Int)(w:World)(hx:0<=x/\x<W)(hy:0<=y/\y<W):
  Calls prog 209 #[.int .u64 x,.int .u64 y] w λe w'=>e = .returned (.tuple #[.int .u64 (X4 x y),.int .u64 (XC x y)])/\w=w':=by
 obtain⟨a,rfl⟩:=ag hx.1;obtain⟨b,rfl⟩:=ag hy.1;have hW:W=18446744073709551616:=rfl;refine(bits_Mul64 a b O O w).mono ?_;rintro e w' ⟨rfl,rfl⟩;refine⟨?_,rfl⟩;unfold X4 XC;rw[hW];simp only[bX,bW,aV];rfl
def OE(h l y:Int):Int:=(h*W+l)/y
def qp(h l y:Int):Int:=(h*W+l)%y
def LX(w:World):Gs:=λb=>match w.heap[b]? with | some (.cells c T _)=>some (c,T) | _=>none
theorem Ah(w:World):Fits (LX w) w:=by
 refine⟨λb c T h=>?_,λb c fr h=>?_⟩
 ·unfold LX at h;split at h
  ·rename_i c' T' fr e;cases h;exact⟨fr,e⟩
  cases h
 unfold LX;rw[h]
theorem TV(h l y:Int)(w:World)(hh:0<=h/\h<y)(hl:0<=l/\l<W)(hy:y<W):
  Calls prog 256 #[.int .u64 h,.int .u64 l,.int .u64 y] w λe w'=>e = .returned (.tuple #[.int .u64 (OE h l y),.int .u64 (qp h l y)])/\Ext w w':=by
 obtain⟨a,rfl⟩:=ag hh.1;obtain⟨b,rfl⟩:=ag hl.1;obtain⟨c,rfl⟩:=ag (show 0<=y by omega);have hW:W=18446744073709551616:=rfl;refine(uA (Ah w) (h:=a) (l:=b) (y:=c) O O O).2.mono ?_;rintro e w' ⟨_,F',rfl,hx,_⟩;refine⟨?_,hx.toBelow⟩;unfold OE qp;rw[hW];simp only[bX,bW,aV,Int.natCast_add];rfl
theorem yS(x:Int)(w:World)(hx:0<x/\x<W):
  Calls prog 257 #[.int .u64 x] w λe w'=>(∃s:Nat,e = .returned (.int .i64 s)/\s<64/\x*2^s<W/\9223372036854775808<=x*2^s)/\w=w':=by
 obtain⟨a,rfl⟩:=ag (show 0<=x by omega);have hW:W=18446744073709551616:=rfl;obtain⟨s,h1,h2,h3,h4⟩:=CH (y:=a) O O;refine(bits_LeadingZeros64 (a:Int) w O O).mono ?_;rintro e w' ⟨rfl,rfl⟩;refine⟨⟨s,?_,h2,?_,?_⟩,rfl⟩
 ·rw[eI,h1]
 ·rw[hW];have:((a*2^s:Nat):Int)<18446744073709551616:=O;simpa[aV,aU]using this
 have:(9223372036854775808:Int)<=((a*2^s:Nat):Int):=O;simpa[aV,aU]using this
theorem Ny{x y o c:Int}(hx:0<=x/\x<W)(hy:0<=y/\y<W)(ho:0<=o/\o<W)(hc:0<=c/\c<W):
  (0<=X4 x y/\X4 x y<W)/\(0<=XC x y/\XC x y<W) /\
  (0<=XV (XC x y) o 0/\XV (XC x y) o 0<W) /\
  (0<=X4 x y+Xx (XC x y) o 0/\X4 x y+Xx (XC x y) o 0<W) /\
  (0<=XV (XV (XC x y) o 0) c 0/\XV (XV (XC x y) o 0) c 0<W) /\
  (0<=X4 x y+Xx (XC x y) o 0+Xx (XV (XC x y) o 0) c 0/\X4 x y+Xx (XC x y) o 0+Xx (XV (XC x y) o 0) c 0<W) /\
  XV (XV (XC x y) o 0) c 0+W*(X4 x y+Xx (XC x y) o 0+Xx (XV (XC x y) o 0) c 0)=x*y+o+c:=by
 have hm0:0<=x*y:=aJ hx.1 hy.1;have hm1:x*y<=(W-1)*(W-1):=ix O O hy.1 (by simp only[G5];omega);have e1:XC x y+W*X4 x y=x*y:=by unfold XC X4;rw[iY];exact fq _ _
 have l0:0<=XC x y:=eR _ wu;have l1:XC x y<W:=fP _ Ju;have h0:0<=X4 x y:=ir hm0 wu;generalize x*y=m at *
 generalize XC x y=lo at *
 generalize X4 x y=hi at *
 have a:=G4 (x:=lo) (y:=o) (c:=0) ⟨l0,l1⟩ ho wu;generalize XV lo o 0=lo1 at *
 generalize Xx lo o 0=c1 at *
 have a':=G4 (x:=lo1) (y:=c) (c:=0) a.2.1 hc wu;generalize XV lo1 c 0=lo2 at *
 generalize Xx lo1 c 0=c2 at *
 simp only[G5]at *
 omega
def Ko(la lb:List Int)(i j:Nat)(x:Int)(o:List Int)(c:Int):Prop :=
 o.length=la.length+lb.length/\DG W o/\(∀p,i+lb.length<=p->Qn o p=0)/\(0<=c/\c<W) /\
  dv W o+W^(i+j)*c=dv W (la.take i)*dv W lb+W^i*(x*dv W (lb.take j))
theorem Ko.step{la lb o:List Int}{j:Nat}{x c:Int}(h:Ko la lb i j x o c)(hx:0<=x/\x<W)(hb:DG W lb)(hj:j<lb.length)(hi:i<la.length):
  Ko la lb i (j+1) x (o.set (i+j) (XV (XV (XC x (Qn lb j)) (Qn o (i+j)) 0) c 0))
   (X4 x (Qn lb j)+Xx (XC x (Qn lb j)) (Qn o (i+j)) 0+Xx (XV (XC x (Qn lb j)) (Qn o (i+j)) 0) c 0):=by
 obtain⟨h1,h2,h3,h4,h5⟩:=h;obtain⟨_,_,_,_,m1,m2,m3⟩:=Ny hx (Jf hb j) (Jf h2 (i+j)) h4;refine⟨by simpa using h1,h2.set _ m1.1 m1.2,?_,m2,?_⟩
 ·intro p hp;rw[Ee O,if_neg O];exact h3 p hp
 rw[Rq W O,XQ,<-Nat.add_assoc,aC];generalize XV (XV (XC x (Qn lb j)) (Qn o (i+j)) 0) c 0=lo at *
 generalize X4 x (Qn lb j)+Xx (XC x (Qn lb j)) (Qn o (i+j)) 0+Xx (XV (XC x (Qn lb j)) (Qn o (i+j)) 0) c 0=hi at *
 have e:W^(i+j)*(lo+W*hi)=W^(i+j)*(x*Qn lb j+Qn o (i+j)+c):=by rw[m3]
 rw[fB]at *
 grind
theorem Ko.row{la lb o:List Int}{x c:Int}(h:Ko la lb i lb.length x o c)(hi:i<la.length)(hx:x=Qn la i):
  Ko la lb (i+1) 0 0 (o.set (i+lb.length) c) 0:=by
 obtain⟨h1,h2,h3,h4,h5⟩:=h;refine⟨by simpa using h1,h2.set _ h4.1 h4.2,?_,⟨bI _,Ju⟩,?_⟩
 ·intro p hp;rw[Ee O,if_neg O];exact h3 p O
 rw[Rq W O,h3 _ (au _),XQ,<-hx];rw[bD]at h5;simp only[Int.mul_zero,Int.add_zero,Int.zero_mul,Int.sub_zero];rw[h5];grind
def Ko.start(la lb:List Int):Ko la lb 0 0 0 (ah (la.length+lb.length) 0) 0:=by
 refine⟨wz,DG.replicate Ju _,?_,⟨bI _,Ju⟩,by rw[TU];simp⟩;intro p _;unfold Qn;split<;>simp
def Ko.next{la lb o:List Int}{c y:Int}(h:Ko la lb i 0 0 o c)(x:Int)(hc:c=0)(hy:y=0):Ko la lb i 0 x o y:=by
 obtain⟨h1,h2,h3,h4,h5⟩:=h;subst hc hy;exact⟨h1,h2,h3,h4,by simpa using h5⟩
theorem EJ(v v':Value)(la lb:List Int)(w:World)(ha:DG W la)(hb:DG W lb)(hs:SL w v Jj la)(hs':SL w v' Jj lb)(h1:la.length<=100000000000)(h2:lb.length<=100000000000):
  Calls prog 213 #[v,v'] w λe w'=>Zh w (λv w'=>∃l,SL w' v Jj l/\DG W l/\NZ l/\dv W l=dv W la*dv W lb) e w':=by
 obtain⟨q,cap,rfl,hcap,hmax,hca⟩:=hs;obtain⟨q',cap',rfl,hcap',hmax',hcb⟩:=hs';have HA:=aa hca;clear hca;have HB:=aa hcb;clear hcb;have hmk:=λw=>Yh (la.length+lb.length) O w;have ec:((la.length+lb.length:Nat):Int)=(la.length:Int)+lb.length:=O;simp only[ec]at hmk;clear ec;go_enter func213,ntmps213
 go_wp2
 go_loopw [22] (λi wr=>∃(k:Nat) (o:List Int),k<=la.length/\i = .int .i64 k/\Ko la lb k 0 0 o 0/\Y5 wr w.heap.size 256 Jj o/\Ext w wr)
  (λi _=>la.length-(intOf i).toNat)
 case atStart=>exact⟨0,_,bR _,rfl,Ko.start la lb,Y5.made w _ Jj 0 _ _ rfl,(Ext.refl _).alloc _⟩
 case round =>
  obtain⟨k,o,hk,rfl,hI,hBl,hE⟩:=hrel;rename_i wr _;obtain⟨wo,rfl⟩:∃wo:World,wo=wr:=⟨_,rfl⟩;clear hmk;by_cases hlt:k<la.length
  ·obtain⟨b,off,rfl,hbl,hc⟩:=HA.out k hlt;rw[Z8 hlt]at hc;have hc:=hE.cell hc;simp only[Jj]at hc;have hx:=Jf ha k;have HI:=aa hI;clear hI;have HBl:=aa hBl;clear hBl;go_wp2
   go_loopw [29,8] (λj c wr=>∃(m:Nat) (o:List Int) (cc:Int),m<=lb.length/\j = .int .i64 m/\c = .int .u64 cc/\Ko la lb k m (Qn la k) o cc/\Y5 wr w.heap.size 256 Jj o/\Ext w wr)
    (λj _ _=>lb.length-(intOf j).toNat)
   case atStart=>exact⟨0,o,0,bR _,rfl,rfl,HI.out.next _ rfl rfl,HBl.out,hE⟩
   case round =>
    clear HI HBl hE hc;obtain⟨m,o,cc,hm,rfl,rfl,hI,hBl,hE⟩:=hrel;by_cases hlt2:m<lb.length
    ·obtain⟨b2,off2,rfl,hb2,hc2⟩:=HB.out m hlt2;rw[Z8 hlt2]at hc2;have hc2:=hE.cell hc2;simp only[Jj]at hc2;have hst:=hI.step hx hb hlt2 hlt;obtain⟨hd1,hd2,hd3,hd4,hd5⟩:=hI;clear hd3 hd5;have hd1':=aa hd1;have hol:k+m<o.length:=O;clear hd1;have hy:=Jf hb m;have ho:=Jf hd2 (k+m);have hcell:=hBl.cell (i:=k+m) hol;rw[Z8 hol]at hcell;simp only[Jj]at hcell;have hfr:=hBl.frozen (k+m);have HBs:=aa (hBl.set (k+m) (XV (XV (XC (Qn la k) (Qn lb m)) (Qn o (k+m)) 0) cc 0));have HS:=aa hst;clear hst hBl;obtain⟨g1,g2,g3,g4,g5,g6,_⟩:=Ny hx hy ho hd4;generalize hmy:X4 (Qn la k) (Qn lb m)=mh at *
     generalize hml:XC (Qn la k) (Qn lb m)=ml at *
     have HMH:=aa hmy;have HML:=aa hml;clear hmy hml;have ha1:=λw=>KG ml (Qn o (k+m)) 0 g2.1 ho.1 wu wu w;have ha2:=λw=>KG (XV ml (Qn o (k+m)) 0) cc 0 g3.1 hd4.1 wu wu w;have b1:0<=mh+Xx ml (Qn o (k+m)) 0:=g4.1;have b2:mh+Xx ml (Qn o (k+m)) 0<=18446744073709551615:=by have:=g4.2;simp only[G5]at this;omega
     have b3:0<=mh+Xx ml (Qn o (k+m)) 0+Xx (XV ml (Qn o (k+m)) 0) cc 0:=g6.1;have b4:mh+Xx ml (Qn o (k+m)) 0+Xx (XV ml (Qn o (k+m)) 0) cc 0<=18446744073709551615:=by have:=g6.2;simp only[G5]at this;omega
     go_wp2_with (go_at_call 209;refine(KI _ _ _ hx hy).mono ?_;rw[HMH.out,HML.out];rintro e w' ⟨rfl,rfl⟩)
     go_roundw
     case rel=>exact⟨m+1,_,_,O,by go_num,rfl,HS.out,HBs.out,aR hE wz _⟩
     case measure=>simp[intOf];omega
    have hk':m=lb.length:=O;subst hk';have hst:=hI.row hlt rfl;obtain⟨hd1,hd2,hd3,hd4,hd5⟩:=hI;clear hd3 hd5;have hol:k+lb.length<o.length:=O;clear hd1;have hcell:=hBl.cell (i:=k+lb.length) hol;rw[Z8 hol]at hcell;simp only[Jj]at hcell;have hfr:=hBl.frozen (k+lb.length);have HBs:=aa (hBl.set (k+lb.length) cc);have HS:=aa hst;clear hst hBl;go_wp2
    go_roundw
    case rel=>exact⟨k+1,_,O,by go_num,HS.out,HBs.out,aR hE wz _⟩
    case measure=>simp[intOf];omega
  have hk':k=la.length:=O;subst hk';obtain⟨hd1,hd2,hd3,hd4,hd5⟩:=hI;have hSL:=SL.BG hBl (la.length+lb.length) O O;rw[ae O,hd1]at hSL;have HSL:=aa hSL;rw[bD]at hd5;have HF:=aa hd5;clear hd5 hSL hd1 hBl;go_wp2_with (go_at_call 245;refine(VH _ _ _ HSL.out).mono ?_;rintro e w' ⟨⟨v',rfl,hv⟩,rfl⟩)
  go_ret
  exact⟨_,rfl,⟨_,hv,hd2.Je,Zv _,by rw[ZE];have:=HF.out;simpa using this⟩,hE⟩
def p2(s:Nat):Int:=2^s
def YX(s:Nat):0<p2 s:=lk wu
def Gp{s:Nat}(h:s<64):p2 (64-s)*p2 s=W:=by
 unfold p2;rw[<-fB,show 64-s+s=64 from by omega];rfl
def UD:p2 0=1:=rfl
def cG{s:Nat}(h:s<64):2*p2 s<=W:=by
 have h1:=Gp h;have h2:2<=p2 (64-s):=by
  unfold p2;rw[show 64-s=(63-s)+1 from by omega,aC];have:=YX (63-s);unfold p2 at this;omega
 have h3:2*p2 s<=p2 (64-s)*p2 s:=ax h2 (bh (YX s));omega
def Oq{x:Int}{s:Nat}(hs:s<64):x*p2 s%W=p2 s*(x%p2 (64-s)):=by
 rw[<-Gp hs,bP (p2 (64-s)) (p2 s),bP x (p2 s),Int.mul_emod_mul_of_pos _ _ (YX s)]
def xo{x:Int}{s:Nat}(hs:s<64):x*p2 s/W=x/p2 (64-s):=by
 rw[<-Gp hs];exact Int.mul_ediv_mul_of_pos_left x _ (YX s)
theorem UE{x:Int}{s:Nat}(hs:s<64)(h0:0<=h)(h1:h<p2 s):bits .or .u64 h (x*p2 s%W)=h+x*p2 s%W/\h+x*p2 s%W<W:=by
 have e:=Oq (x:=x) hs;have k0:=YX (64-s);have b0:0<=x%p2 (64-s):=eR _ O;have b1:x%p2 (64-s)<p2 (64-s):=fP _ k0;have hb:p2 s*(x%p2 (64-s))+h<W:=by
  have:p2 s*(x%p2 (64-s)+1)<=p2 s*p2 (64-s):=af O (bh (YX s));rw[bP (p2 s) (p2 (64-s)),Gp hs,fC]at this;omega
 have hb0:0<=p2 s*(x%p2 (64-s)):=aJ (bh (YX s)) b0;rw[e];refine⟨?_,O⟩;obtain⟨a,ha⟩:=ag b0;obtain⟨c,rfl⟩:=ag h0;rw[ha]at *
 have e2:p2 s*(a:Int)=((2^s*a:Nat):Int):=by simp[p2]
 have h1':c<2^s:=by
  have:(c:Int)<((2^s:Nat):Int):=(by simpa[p2]using h1);omega
 rw[e2]at hb ⊢;have hW:=G5;rw[u64_or_nat _ _ O O,Nat.or_comm,<-eU h1'];omega
def Mh(l:List Int)(s k:Nat)(ds:List Int)(h:Int):Prop :=
 ds.length=k/\DG W ds/\(0<=h/\h<p2 s)/\dv W ds+W^k*h=dv W (l.take k)*p2 s
theorem Mh.step{l:List Int}{s:Nat}(hi:Mh l s k ds h)(hs:s<64)(hl:DG W l):
  Mh l s (k+1) (ds++[h+Qn l k*p2 s%W]) (Qn l k/p2 (64-s)):=by
 obtain⟨h1,h2,h3,h4⟩:=hi;obtain⟨_,b⟩:=UE (x:=Qn l k) hs h3.1 h3.2;have hd:=Jf hl k;have l0:0<=Qn l k*p2 s%W:=eR _ wu;have q:=fq (Qn l k*p2 s) W;have hk:0<=Qn l k/p2 (64-s)/\Qn l k/p2 (64-s)<p2 s:=by
  refine⟨ir hd.1 (bh (YX _)),?_⟩;refine Int.ediv_lt_of_lt_mul (YX _) ?_;rw[bP,Gp hs];exact hd.2
 refine⟨by simp[h1],h2.append (DG.cons O b (DG.nil _)),hk,?_⟩;rw[X6,h1,XQ,aC,<-xo hs];generalize Qn l k*p2 s/W=a at *
 generalize Qn l k*p2 s%W=c at *
 have e:W^k*(W*a+c)=W^k*(Qn l k*p2 s):=by rw[q]
 grind
def Mh.zero{l:List Int}(hi:Mh l 0 k ds h):h=0:=by
 have:=hi.2.2.1;rw[UD]at this;omega
def Pj(x:Int)(s:Nat):IntKind.u64.wrap (x*2^s)=x*p2 s%W:=by
 simp[ig,fQ,bJ,p2,G5]
def Gk(ds:List α)(x y:α)(r:List α)(k:Nat)(h:ds.length=k):(ds++x::r).set k y=ds++y::r:=by
 subst h;rw[fh _ _ (au _),ee,fH]
def xw(ds:List α)(x y z:α)(r:List α)(k:Nat)(h:ds.length=k):(ds++z::x::r).set (k+1) y=(ds++[z])++y::r:=by
 have:=Gk (ds++[z]) x y r (k+1) (by simp[h]);rw[bz]at this;exact this
set_option maxRecDepth 100000 in
theorem Tt(s:Nat)(q:Option Addr)(cap:Nat)(l:List Int)(w:World)(hs:s<64)(hl:DG W l)(hc:Cells w q Jj l)(hlen:l.length<=100000000000):
  Calls prog 258 #[.slice q l.length cap,.int .i64 s] w λe w' =>
   Zh w (λv w'=>∃l':List Int,v = .slice (some ⟨w.heap.size,0,none⟩) (l.length+1) (l.length+1)/\Y5 w' w.heap.size 256 Jj l'/\l'.length=l.length+1/\DG W l'/\dv W l'=dv W l*p2 s) e w':=by
 have HC:=aa hc;clear hc;have hmk:=λw=>Yh (l.length+1) O w;have ec:((l.length+1:Nat):Int)=(l.length:Int)+1:=O;simp only[ec]at hmk;clear ec;go_enter func258,ntmps258
 go_wp2
 go_loopw [14] (λi wr=>∃(k:Nat) (ds:List Int) (h:Int),k<=l.length/\i = .int .i64 k/\Mh l s k ds h/\Y5 wr w.heap.size 256 Jj (ds++h::ah (l.length-k) 0)/\Ext w wr)
  (λi _=>l.length-(intOf i).toNat)
 case atStart=>exact⟨0,[],0,bR _,rfl,⟨rfl,DG.nil _,⟨bI _,YX _⟩,wz⟩,Y5.made w _ Jj 0 _ _ rfl,(Ext.refl _).alloc _⟩
 case round =>
  obtain⟨k,ds,h,hk,rfl,hI,hB,hE⟩:=hrel;clear hmk;by_cases hlt:k<l.length
  ·obtain⟨b,off,rfl,hb,hc⟩:=HC.out k hlt;rw[Z8 hlt]at hc;have hc:=hE.cell hc;simp only[Jj]at hc;have hst:=hI.step hs hl;obtain⟨hd1,hd2,hd3,hd4⟩:=hI;have hor:=(UE (x:=Qn l k) hs hd3.1 hd3.2).1;have HO:=aa hor;clear hor hd4;have hlen1:k<(ds++h::ah (l.length-k) 0).length:=by simp[hd1]
   have hlen2:k+1<(ds++h::ah (l.length-k) 0).length:=by simp[hd1];omega
   have hcell:=hB.cell hlen1;have hcell2:=hB.cell hlen2;have hg:(ds++h::ah (l.length-k) 0).getD k default=h:=by subst hd1;simp[bF]
   rw[hg]at hcell;simp only[Jj]at hcell hcell2;have hfr:=hB.frozen k;have hfr2:=hB.frozen (k+1);have hx0:(0:Int)<=(k:Int):=O;have hx1:(k:Int)<(l.length:Int)+1:=O;generalize (ds++h::ah (l.length-k) 0).getD (k+1) default=z at hcell2;have HD1:=aa hd1;have HB:=aa hB;clear hg hd1 hB hlen1 hlen2;by_cases hs0:0<s
   ·go_wp2
    go_still_tail 9,wm
    go_wp2
    go_roundw
    case rel =>
     refine⟨k+1,ds++[h+Qn l k*p2 s%W],Qn l k/p2 (64-s),O,by go_num,hst,?_,((hE.X1 wz _).X1 wz _).drew⟩;rw[Pj,HO.out];have h1:=HB.out.set k (h+Qn l k*p2 s%W);rw[Gk _ _ _ _ _ HD1.out,show l.length-k=(l.length-(k+1))+1 from by omega,bj]at h1;have h2:=h1.set (k+1) (Qn l k/p2 (64-s));rw[xw _ _ _ _ _ _ HD1.out]at h2;exact h2.drew
    case measure=>simp[intOf];omega
   have hz:Hid (Qn l k/p2 (64-s)=0):=by
    have e:s=0:=O;subst e;exact hst.zero
   go_wp2
   go_still_tail 9,wm
   go_wp2
   go_roundw
   case rel =>
    refine⟨k+1,ds++[h+Qn l k*p2 s%W],Qn l k/p2 (64-s),O,by go_num,hst,?_,(hE.X1 wz _).drew⟩;rw[Pj,HO.out,hz.out];have h1:=HB.out.set k (h+Qn l k*p2 s%W);rw[Gk _ _ _ _ _ HD1.out,show l.length-k=(l.length-(k+1))+1 from by omega,bj]at h1;rw[bz];exact h1.drew
   case measure=>simp[intOf];omega
  have hk':k=l.length:=O;subst hk';obtain⟨hd1,hd2,hd3,hd4⟩:=hI;have HF:Hid (dv W ds+W^l.length*h=dv W l*p2 s):=by rw[bD]at hd4;exact hd4
  have HD1:=aa hd1;rw[ee,ew]at hB;have HB:=aa hB;have hh:h<W:=by have:=cG hs;have:=YX s;omega
  clear hd1 hd4 hB;go_wp2
  go_ret
  exact⟨_,rfl,⟨_,rfl,HB.out,by simp[HD1.out],hd2.append (DG.cons hd3.1 hh (DG.nil _)),by rw[X6,HD1.out,HF.out]⟩,hE⟩
theorem Mv(s:Nat)(v:Value)(l:List Int)(w:World)(hs:s<64)(hl:DG W l)(hv:SL w v Jj l)(hlen:l.length<=100000000000):
  Calls prog 258 #[v,.int .i64 s] w λe w' =>
   Zh w (λv w'=>∃l':List Int,v = .slice (some ⟨w.heap.size,0,none⟩) (l.length+1) (l.length+1)/\Y5 w' w.heap.size 256 Jj l'/\l'.length=l.length+1/\DG W l'/\dv W l'=dv W l*p2 s) e w':=by
 obtain⟨q,cap,rfl,_,_,hc⟩:=hv;exact Tt s q cap l w hs hl hc hlen
end Go.Proofs.YtbpmnjieoncbcaaGreatDoor
