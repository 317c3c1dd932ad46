/- Steps of the proof of the theorem in the last file. -/
import Derived.WalkKit
import Derived.WalkSpells
import Derived.WalkLawsBesides
import Derived.Lib.Hide
import Derived.Deep.RegionHeld3
import Derived.StillTail
import Derived.Deep.LoopGhost
import Derived.IntWalk
import Derived.Test.YtjcphjpkimmmjaaGreatDoorProg
import Derived.KernelRfl
import Derived.Deep.QuietTactic
import Derived.BigQuiet
import Derived.Laws.Externs
import Derived.Shelf.Strings.Builder1
import Derived.Shelf.Strings.Builder2
import Derived.Shelf.Small.Bits
import Derived.Shelf.Small.Wraps
import Derived.Shelf.Strconv.Atoi
import Derived.Shelf.Strconv.Itoa0
import Derived.Shelf.Strconv.Itoa1
import Derived.Shelf.LaysM
import Derived.Shelf.Strconv.Itoa2
import Derived.Shelf.Strconv.Itoa3
import Derived.Shelf.Strings.Search1
import Derived.Shelf.Strings.Search2
import Derived.Shelf.Strings.Cut
import Derived.Shelf.Strings.Prefix
import Derived.Shelf.Bits.Mul64
import Derived.Shelf.Strings.Repeat
import Derived.Ground.Names2Prog
import Derived.Shelf.Slices.Clone
import Derived.Shelf.Slices.SearchI
import Derived.Ground.SlgnProg
import Derived.Shelf.SlicesE.Clone
import Derived.Laws.BitsAllLaws
import Derived.StillTailTactics
set_option linter.all false
set_option maxHeartbeats 4000000
open Go.Proofs.Tryz
open Go.Lib renaming hid → aa,bitLen → ba,run_eql_slice_nil → eu,trimPrefix → iB,hasPrefix → iT,pow10Tab → je,cut → jf
open Array renaming getElem?_eq_none → ab,getElem?_setIfInBounds_ne → aM,getElem?_modify → bB,replicate → bJ,ext' → bY,foldl_toList → eD,ext_getElem? → eE,range → fl,ext → lk
open List renaming take_of_length_le → ae,replicate → ah,length_take → aq,length_append → aH,getElem?_eq_none → aI,length_cons → aO,replicate_succ → bj,map_append → bp,append_assoc → bw,take_length → bC,getD → bD,Sublist → bM,drop_eq_getElem_cons → bP,map_cons → bR,nil_sublist → bT,nil_append → ee,getElem?_append → ew,replicate_zero → ey,getElem?_drop → eF,foldl_cons → eN,dropLast_concat_getLast → eO,range → eW,mapM_cons → eX,sublist_cons_self → fe,drop_eq_nil_of_le → ff,take_append_drop → fi,set_append_right → fj,erase_cons_head → fu,mem_map_of_mem → fB,set_cons_zero → fI,nodup_append → fP,zipIdx_cons → fV,getElem_mem → fW,cons_append → fX,append_nil → ig,take_zero → im,drop_zero → iq,range' → iX
open Int renaming mul_le_mul_of_nonneg_left → af,eq_ofNat_of_zero_le → ag,mul_le_mul_of_nonneg_right → ax,pow_succ → aC,mul_nonneg → aJ,natCast_pow → aU,natCast_mul → aV,le_of_lt → bh,le_refl → bH,mul_comm → bO,emod_eq_of_lt → bS,natCast_emod → bV,natCast_ediv → bW,toNat_natCast → eK,emod_nonneg → eR,add_mul_emod_self_left → fa,mul_ediv_add_emod → fw,pow_add → fC,mul_add → fD,emod_lt_of_pos → fQ,lt_trichotomy → fY,ediv_nonneg → ir,mul_le_mul → ix,add_comm → iY,pow_pos → ji,one_mul → jj
open Option.some renaming injEq → ai,inj → ay
open Go.Sem renaming run_bind → aj,run_pure → aG
open Go.Result renaming andThen_ok → ak,ok → iZ
open Go.Region renaming wanted → ao,ready → aA,binds → aF,Mode → aY,waitsFor → bm,chainB → eY,sinkB → fc,waitsFor_spec → fg,seqB → iy
open Go.Shelf renaming Ren → ar
open Nat renaming le_refl → au,lt_or_ge → av,mul_comm → aB,add_mul → aE,min_eq_left → aS,div_add_mod → aT,div_lt_iff_lt_mul → aW,beq → aX,mul_le_mul_right → aZ,zero_add → bz,mod_eq_of_lt → bG,div_mul_le_self → bL,zero_le → bQ,sub_self → bZ,mod_lt → eG,add_right_comm → eH,le_trans → eI,pow_add → eM,two_pow_pos → eQ,two_pow_add_eq_or_of_lt → eU,mul_lt_mul_of_pos_right → eV,add_zero → fh,mul_div_mul_right → fp,le_of_ble_eq_true → fq,mul_le_mul_left → fH,mul_right_comm → fM,lt_of_lt_of_le → fN,eq_zero_or_pos → fO,lt_trichotomy → fU,strongRecOn → il,testBit_or → iu,mul_le_mul → iw,mul_assoc → iD,sub_zero → iV,ble → iW,one_mul → jg,mul_add → jh
open Go.Builtin renaming zeroCells → aD,append_ → bU,lenOf → eT,firstCells → fk,len_ → ik
open Go.Value renaming int → aK
open Go.Oper renaming upon → aL,wp → bN,apart_spec → eP
open Go.Instr renaming sureAddr → aN,loadAt → bK,fill → bX,buildSlice → fS,makeSlice → ic,slice → iU
open BitVec renaming ofInt → aP,toNat_ofInt → fA,toNat_and → fL
open Option renaming map_some → aQ
open Go.RowKit.Below renaming setCell → aR,heap_alloc → eL,heap_setCell → fF
open Go.Exit renaming inBlock → bc
open Go.Act renaming put_comm → bA,eval → fG,put → ie
open Bool renaming and_eq_true → bF,false_or → iC
open Go.IntKind renaming bits → bI,signed → fR,wrap → ij
open Go.IntWalk renaming i64_in → ei
open Go.Extern.MathBitsCarry renaming m64 → ep,three → fJ,pair → fK
open Go.World renaming cell? → er,setCell → eB,frozen? → fb
open Go.Calls renaming mono → eC
open List.Sublist renaming refl → eZ
open Ne renaming symm → fm
open Go.Code renaming region → fy
open Go.Addr renaming add → fz
open Go.Ending renaming returned → fT
open Go.Rows renaming mono → fZ
open Go.Proofs.Builder renaming Extra → ia
open Go.Op renaming intBits → ib,shift → iS
open Go.Proofs.LaysM renaming n284 → iz,n171 → iA
open Go.Proofs.Lays renaming n99 → iE,n285 → iF,n283 → iG,n264 → iH,n172 → iI,n169 → iJ,n145 → iK,n134 → iL,n129 → iM,n125 → iN,n122 → iO,n105 → iP,n103 → iQ,n101 → iR
open Go.Next renaming value → lf
def I{α:Sort _}{a:α}:a=a:=.refl a
def O{p:Prop}(h:p:=by omega):p:=h
def tE{p:Prop}(h:p:=by kernel_rfl):p:=h
def tD{p q:Prop}(h:p)(k:p→q:=by intro;omega):q:=k h
def tF{p:Prop}(h:p:=by decide):p:=h
def tG{p:Prop}(h:p:=by decide +kernel):p:=h
def tH{p:Prop}(h:p:=by rfl):p:=h
def tJ{p:Prop}(h:p:=by simp):p:=h
def tK{p:Prop}(h:p:=by simp;omega):p:=h
def tL{α:Sort _}{G:α→Prop}(a:α)(_:G a):True:=trivial
def tM{α:Sort _}{G:α→Prop}(a:α)(h:G a):G a:=h
def tN{α:Sort _}{G H:α→Prop}(a:α)(h:G a∧H a):G a:=h.1
def tO{α:Sort _}{G H:α→Prop}(a:α)(h:G a∧H a):H a:=h.2
def tP{α:Type _}{l:List α}:bM l l:=.refl l
def tQ{α:Type _}{l:List α}:bM [] l:=bT l
def tR{α:Type _}{a:α}{l:List α}:bM [a] (a::l):=.cons_cons _ (bT _)
def tS{α:Type _}{a b:α}{l:List α}:bM [a,b] (a::b::l):=.cons_cons _ (.cons_cons _ (bT _))
def tT{α:Type _}{a b c:α}{l:List α}:bM [a,b,c] (a::b::c::l):=.cons_cons _ (.cons_cons _ (.cons_cons _ (bT _)))
def tU{α:Type _}{a b:α}(h:a=b:=by kernel_rfl):some a=some b:=congrArg some h
namespace Go.Proofs.YtjcphjpkimmmjaaGreatDoor
variable{w w' w0:World}{E N b bytes i k n off:Nat}{a:Act}{c cs l l' news z:List Value}{o:Obj}{u v1 v3 v4 v5 x2 x3 x4 x5 x6 x7 x8:Value}{A0 A1 A2 A3 A4 A5 A6 A7 A8 A9 α γ ι:Type}{T T' yT:TypeId}{ops:Array Oper}{Q Q':Exit->Act->World->Prop}{tl:List Oper}{K:Act->World->Prop}{g:Bool}{x y:Operand}{bs bs' bs0 ob:List (Nat×Obj)}{fr:Nat×Nat}{P:Program}{f:Obj->List (Nat×Obj)}{fn:Func}{aft:Array Edge}{gd:Option (Nat×Bool)}{x1:Nat×Obj}{ps:List (Nat×Value)}{s:ByteArray}{pl:List (Nat×Nat)}{ds:List Int}{h:Int}
open Go.RowKit
structure E5(α:Type) where
 val:α->Value
 ty:TypeId
instance{α:Type}:CoeFun (E5 α) (λ_=>α->Value):=⟨E5.val⟩
def Jm:E5 Int:=⟨λx=>.int .u64 x,297⟩
def Ve(w:World)(b:Nat)(E:TypeId):Prop:=∃c fr,w.heap[b]?=some (.cells c E fr)
theorem Ve.lt(h:Ve w b E):b<w.heap.size:=by
 obtain⟨c,fr,h⟩:=h;rcases av b w.heap.size with g | g
 ·exact g
 rw[ab g]at h;cases h
theorem Ve.uniq{E':Nat}(h:Ve w b E)(a:Ve w b E'):E=E':=by
 obtain⟨c,fr,h⟩:=h;obtain⟨g,f,a⟩:=a;rw[h]at a;cases a;rfl
def Row{α:Type}[Inhabited α](w:World)(b off:Nat)(enc:E5 α)(l:List α):Prop:=∀i,i<l.length->w.cell? ⟨b,off+i,none⟩=some (enc (l.getD i default))
abbrev Ext(w w':World):Prop:=Below w.heap.size w w'
def Ext.refl(w:World):Ext w w:=Below.refl _ _
def Ext.trans{a b c:World}(h:Ext a b)(k:Ext b c):Ext a c:=Below.trans h (Below.mono k h.size)
def Ext.QAo{a:World}(h:Ext a w)(h1:w'.os=w.os)(h2:w'.tape=w.tape)(h3:w'.output=w.output)(h4:w.heap.size<=w'.heap.size)(h5:∀i,i<a.heap.size->w'.heap[i]?=w.heap[i]?):Ext a w' :=
 ⟨h1.trans h.os,h2.trans h.tape,h3.trans h.output,eI h.size h4,λi hi=>(h5 i hi).trans (h.block i hi)⟩
def Ext.alloc{a:World}(h:Ext a w)(o:Obj):Ext a (w.alloc o):=Below.alloc h h.size o
def Ext.drew{a:World}(h:Ext a w):Ext a w.drew:=Below.drew h
def Ext.drewN{a:World}(h:Ext a w)(n:Nat):Ext a (w.drewN n):=⟨h.os,h.tape,h.output,h.size,h.block⟩
def Ext.cell(h:Ext w w'){p:Addr}{v:Value}(a:w.cell? p=some v):w'.cell? p=some v:=by
 rw[Below.cell h (World.block_lt_of_cell? w p a)];exact a
def Ext.X5{a:World}(h:Ext a w){p:Addr}(hp:a.heap.size<=p.block)(u:Value):Ext a (w.setCell p u):=aR h hp u
theorem Ve.ext(h:Ve w b E)(k:Below w.heap.size w w'):Ve w' b E:=by
 obtain⟨c,fr,e⟩:=id h;exact⟨c,fr,by rw[k.block b h.lt];exact e⟩
def Cells{α:Type}[Inhabited α](w:World)(q:Option Addr)(enc:E5 α)(l:List α):Prop :=
 ∀i,i<l.length->∃b off,q=some ⟨b,off,none⟩/\Ve w b enc.ty/\w.cell? ⟨b,off+i,none⟩=some (enc (l.getD i default))
def Xx{o b' a:Nat}{v:Value}(h:b≠b')(hc:w.cell? ⟨b,o,none⟩=some u):(w.setCell ⟨b',a,none⟩ v).cell? ⟨b,o,none⟩=some u:=by
 rw[World.cell?_setCell_other _ _ _ _ (λe=>h (congrArg Addr.block e).symm)];exact hc
def SL{α:Type}[Inhabited α](w:World)(v:Value)(enc:E5 α)(l:List α):Prop :=
 ∃q cap,v = .slice q l.length cap/\l.length<=cap/\(cap:Int)<=9223372036854775807/\Cells w q enc l
theorem Cells.ext[Inhabited α]{w w':World}(h:Ext w w'){q:Option Addr}{enc:E5 α}{l:List α}(hr:Cells w q enc l):Cells w' q enc l:=by
 intro i hi;obtain⟨b,off,h1,h2,h3⟩:=hr i hi;exact⟨b,off,h1,h2.ext h,h.cell h3⟩
def SL.ext[Inhabited α]{w w':World}(h:Ext w w'){v:Value}{enc:E5 α}{l:List α}(a:SL w v enc l):SL w' v enc l:=by
 obtain⟨q,cap,h1,h2,h3,h4⟩:=a;exact⟨q,cap,h1,h2,h3,h4.ext h⟩
def SL.nil[Inhabited α](w:World)(enc:E5 α):SL w (.slice none 0 0) enc ([]:List α) :=
 ⟨none,0,rfl,au _,tF,λi hi=>by cases hi⟩
theorem Cells.take[Inhabited α]{w:World}{q:Option Addr}{enc:E5 α}{l:List α}(hr:Cells w q enc l)(n:Nat):Cells w q enc (l.take n):=by
 intro i hi;have h1:i<l.length:=by rw[aq]at hi;omega
 have h2:i<n:=by rw[aq]at hi;omega
 have e:(l.take n).getD i default=l.getD i default:=by simp[bD,h2]
 rw[e];exact hr i h1
theorem Row.cells[Inhabited α]{w:World}{b off:Nat}{enc:E5 α}{l:List α}(hr:Row w b off enc l)(hb:Ve w b enc.ty):Cells w (some ⟨b,off,none⟩) enc l :=
 λi hi=>⟨b,off,rfl,hb,hr i hi⟩
def Y7{α:Type}(w:World)(b:Nat)(E:TypeId)(enc:E5 α)(l:List α):Prop:=w.heap[b]?=some (.cells (l.map enc.val).toArray E (0,0))
def Y7.cell[Inhabited α]{w:World}{b E:Nat}{enc:E5 α}{l:List α}(h:Y7 w b E enc l){i:Nat}(hi:i<l.length):w.cell? ⟨b,i,none⟩=some (enc (l.getD i default)):=by
 have a:w.heap[b]?=some (.cells (l.map enc.val).toArray E (0,0)):=h;simp[er,a,hi,bD]
def Y7.frozen{enc:E5 α}{l:List α}(h:Y7 w b E enc l)(i:Nat):w.frozen? ⟨b,i,none⟩=false:=by
 have a:w.heap[b]?=some (.cells (l.map enc.val).toArray E (0,0)):=h;simp[fb,a]
theorem Y7.lt{enc:E5 α}{l:List α}(h:Y7 w b E enc l):b<w.heap.size:=by
 have a:w.heap[b]?=some (.cells (l.map enc.val).toArray E (0,0)):=h;rcases av b w.heap.size with g | g
 ·exact g
 rw[ab g]at a;cases a
def Y7.set{enc:E5 α}{l:List α}(h:Y7 w b E enc l)(i:Nat)(x:α):Y7 (w.setCell ⟨b,i,none⟩ (enc x)) b E enc (l.set i x):=by
 have c:w.heap[b]?=some (.cells (l.map enc.val).toArray E (0,0)):=h;have a:(l.set i x).map enc.val=(l.map enc.val).set i (enc x):=List.map_set;unfold Y7 eB;simp[bB,c,a]
def Y7.ext{enc:E5 α}{l:List α}(h:Y7 w b E enc l)(k:Ext w w'):Y7 w' b E enc l:=by
 have:=k.block b h.lt;unfold Y7;rw[this];exact h
theorem Y7.row[Inhabited α]{w:World}{b E:Nat}{enc:E5 α}{l:List α}(h:Y7 w b E enc l):Row w b 0 enc l:=by
 intro i hi;rw[bz];exact h.cell hi
def Y7.new(w:World)(E:Nat)(enc:E5 α)(l:List α)(c:Array Value)(hc:c=(l.map enc.val).toArray):Y7 (w.alloc (.cells c E)) w.heap.size E enc l:=by
 subst hc;show(w.heap.push _)[w.heap.size]?=_;simp
def Y7.QHc(w:World)(b E:Nat)(enc:E5 α)(l:List α)(c:Array Value)(hc:c=(l.map enc.val).toArray)(hb:b=w.heap.size):Y7 (w.alloc (.cells c E)) b E enc l:=by
 subst hb;exact Y7.new w E enc l c hc
def Y7.drew{enc:E5 α}{l:List α}(h:Y7 w b E enc l):Y7 w.drew b E enc l:=h
theorem Y7.made(w:World)(E:Nat)(enc:E5 α)(x:α)(n:Nat)(z:Value)(hz:z=enc x):Y7 (w.alloc (.cells (madeCells #[z] n) E)) w.heap.size E enc (ah n x):=by
 refine Y7.new w E enc _ _ ?_;subst hz;apply lk
 ·simp[madeCells]
 intro i h1 h2;simp[madeCells,Nat.mod_one]
def Y7.RW{enc:E5 α}{l:List α}(h:Y7 w b E enc l):Ve w b E:=⟨_,_,h⟩
def SL.BE[Inhabited α]{w:World}{b:Nat}{enc:E5 α}{l:List α}(h:Y7 w b enc.ty enc l)(n:Nat)(a:n<=l.length)(hm:(l.length:Int)<=9223372036854775807):
  SL w (.slice (some ⟨b,0,none⟩) n l.length) enc (l.take n) :=
 ⟨_,l.length,by rw[aq,aS a],by rw[aq];omega,hm,(h.row.cells h.RW).take n⟩
def Bx(w:World)(b:Nat)(T:TypeId)(cs:List Value):Prop:=w.heap[b]?=some (.cells cs.toArray T (0,0))
def Bx.new(w:World)(T:TypeId)(c:Array Value):Bx (w.alloc (.cells c T)) w.heap.size T c.toList:=by
 show(w.heap.push _)[w.heap.size]?=_;simp
theorem Bx.lt{T:Nat}(h:Bx w b T cs):b<w.heap.size:=by
 have a:w.heap[b]?=some (.cells cs.toArray T (0,0)):=h;rcases av b w.heap.size with g | g
 ·exact g
 rw[ab g]at a;cases a
def Bx.ext{T:Nat}(h:Bx w b T cs)(k:Ext w w'):Bx w' b T cs:=by
 unfold Bx;rw[k.block b h.lt];exact h
def Bx.alloc{T:Nat}(h:Bx w b T cs)(o:Obj):Bx (w.alloc o) b T cs:=h.ext ((Ext.refl w).alloc o)
def Bx.drew{T:Nat}(h:Bx w b T cs):Bx w.drew b T cs:=h
def Bx.at{T:Nat}(h:Bx w b T cs)(i:Nat)(c:Value)(hi:cs[i]?=some c):w.cell? ⟨b,i,none⟩=some c:=by
 have a:w.heap[b]?=some (.cells cs.toArray T (0,0)):=h;simp[er,a,hi]
def Bx.free{T:Nat}(h:Bx w b T cs)(i:Nat):w.frozen? ⟨b,i,none⟩=false:=by
 have a:w.heap[b]?=some (.cells cs.toArray T (0,0)):=h;simp[fb,a]
def Bx.two{T:Nat}{a c1:Value}(h:Bx w b T [a,c1]):w.cell? ⟨b,0,none⟩=some a/\w.cell? ⟨b,1,none⟩=some c1/\w.frozen? ⟨b,0,none⟩=false/\w.frozen? ⟨b,1,none⟩=false :=
 ⟨h.at 0 a rfl,h.at 1 c1 rfl,h.free 0,h.free 1⟩
def Bx.RW{T:Nat}(h:Bx w b T cs):Ve w b T:=⟨_,_,h⟩
def DT(E:TypeId):Prop:=E=297\/E=3
instance(E:TypeId):Decidable (DT E):=by unfold DT;infer_instance
structure Kp(w w':World):Prop where
 size:w.heap.size<=w'.heap.size
 block:∀b E,Ve w b E->DT E->w'.heap[b]?=w.heap[b]?
def Kp.refl(w:World):Kp w w:=⟨au _,λ_ _ _ _=>rfl⟩
theorem Kp.trans{a b c:World}(h:Kp a b)(k:Kp b c):Kp a c :=
 ⟨eI h.size k.size,λi E hi g=>by
  have e:=h.block i E hi g;have f:Ve b i E:=by obtain⟨x,fr,hx⟩:=hi;exact⟨x,fr,by rw[e];exact hx⟩
  exact(k.block i E f g).trans e⟩
theorem Kp.set{a:World}(h:Kp a w){R T:Nat}(c:Ve w R T)(g:¬DT T)(i:Nat)(v:Value):Kp a (w.setCell ⟨R,i,none⟩ v) :=
 h.trans ⟨by simp[eB],λb E hb f=>fF _ _ _ _ (by rintro rfl;exact g ((hb.uniq c) ▸ f))⟩
theorem Ve.set{T:Nat}(h:Ve w b T)(R i:Nat)(v:Value):Ve (w.setCell ⟨R,i,none⟩ v) b T:=by
 obtain⟨c,fr,h⟩:=h;by_cases e:b=R
 ·subst e;exact⟨_,_,by unfold eB;simp[bB,h];exact⟨rfl,rfl⟩⟩
 exact⟨c,fr,by rw[fF _ _ _ _ e];exact h⟩
theorem Ve.kp(h:Ve w b E)(k:Kp w w')(a:DT E):Ve w' b E:=by
 obtain⟨c,fr,e⟩:=id h;exact⟨c,fr,by rw[k.block b E h a];exact e⟩
theorem Cells.kp[Inhabited α]{w w':World}(k:Kp w w'){q:Option Addr}{enc:E5 α}(a:DT enc.ty){l:List α}(hr:Cells w q enc l):Cells w' q enc l:=by
 intro i hi;obtain⟨b,off,h1,h2,h3⟩:=hr i hi;exact⟨b,off,h1,h2.kp k a,by rw[World.cell?_of_block (w:=w) (k.block b _ h2 a)];exact h3⟩
open Go
section
variable{P:Program}{md:aY}
def WZ(md:aY)(a:Array Oper)(n:Nat):Bool :=
 (eW n).all λi=>match a[i]? with
  |some o=>o.after.all λe=>!Region.binds md e||decide (e.on<i)
  |none=>false
def ZD(h:WZ md ops n=true){i:Nat}(hi:i<n):∃o,ops[i]?=some o/\∀e∈o.after,aF md e=true->e.on<i:=by
 have h1:=List.all_eq_true.1 h i (List.mem_range.2 hi);cases a:ops[i]? with
 |none=>rw[a]at h1;cases h1
 |some o =>
  rw[a]at h1;refine⟨o,rfl,λe he hb=>?_⟩;have h2:=Array.all_eq_true_iff_forall_mem.1 h1 e he;simpa[hb]using h2
def VW(n m:Nat):Array Bool:=(fl m).map λi=>decide (i<n)
theorem FZ{m:Nat}{a:Array Bool}(c:a.size=m)(h1:∀i,i<n->i<m->a.getD i false=true)(h2:∀i,n<=i->i<m->a.getD i false=false):a=VW n m:=by
 apply lk
 ·simp[VW,c]
 intro i hi f;have b:i<m:=O;by_cases h:i<n
 ·have:=h1 i h b;simp[hi]at this;simp[VW,h,this]
 have:=h2 i O b;simp[hi]at this;simp[VW,h,this]
def AO(P:Program)(b:Array Oper)(Q:Exit->Act->World->Prop)(c:List Oper):Exit->Act->World->Prop
 |.normal,a,w=>wpList P b Q c a w
 |e,a,w=>Q e a w
theorem U8{o:Oper}{K':Act->World->Prop}(h:∀a w,K a w->K' a w)
  (b:o.wp P a w K (AO P ops Q tl)):o.wp P a w K' Q:=by
 unfold bN at *
 generalize (execOp a.eval o).run P w=r at *
 cases r with
 |ok n w' =>
  cases n<;>simp only[aL]at b ⊢ <;>
   first
    |exact h _ _ b
    |exact eC b λe c he=>by cases e<;>first | exact h _ _ he | exact he
    |exact fZ b λ_ _ he=>h _ _ he
 |halt x w'=>cases x<;>simp only[aL]at b ⊢<;>exact b
def EU{l:List Oper}(hi:i<n):(l.take n).toArray[i]?=l.toArray[i]?:=by
 simp[hi]
theorem P5{l:List Oper}{a la:Array Bool}(F:n<l.length)(E:fc md l.toArray n=true)(hc:eY md l.toArray n=true)(B:WZ md l.toArray n=true)
  (m:HeadInv md l.toArray n la) (D:a.size=n) (b:∀i,i<n->la.getD i true=a.getD i true) {k:Nat} (hk:k<n) (s:a.getD k true=false) :
  (∀i,i∈aA md l.toArray la↔i∈aA md (l.take n).toArray a)/\aA md (l.take n).toArray a≠[]:=by
 have c:∀i,i<n->la.getD i false=a.getD i false:=by
  intro i hi;have h:=b i hi;have h1:i<la.size:=by rw[m.size];simp;omega
  have h2:i<a.size:=O;simp[h1,h2]at h ⊢;exact h
 have g:∀i,i<n->(i∈aA md l.toArray la↔i∈aA md (l.take n).toArray a):=by
  intro i hi;rw[mem_ready,mem_ready,b i hi,EU hi];refine and_congr_right λ_=>exists_congr λo=>and_congr_right λx=>?_;obtain⟨w,f,hed⟩:=ZD B hi;have:w=o:=ay (f.symm.trans x);subst this;refine forall_congr' λe=>forall_congr' λhe=>forall_congr' λhb=>?_;rw[c e.on (tD<|hed e he hb)]
 have A:∃i,i<n/\a.getD i true=false/\∀j,j<i->a.getD j true=true:=by
  clear g b c
  induction k using il with
  |_ k ih =>
   by_cases h:∃j,j<k/\a.getD j true=false
   ·obtain⟨j,z,y⟩:=h;exact ih j z O y
   exact⟨k,hk,s,λj z=>by
    cases C:a.getD j true with
    |true=>rfl
    |false=>exact absurd ⟨j,z,C⟩ h⟩
 refine⟨λi=>?_,?_⟩
 ·by_cases hi:i<n
  ·exact g i hi
  constructor
  ·intro h;exact absurd h (tail_waits E hc (by simpa using F) m _ k rfl hk (by rw[b k hk];exact s) i O)
  intro h;obtain⟨_,o,f,_⟩:=mem_ready.1 h;have:=(Array.getElem?_eq_some_iff.1 f).1;simp at this;omega
 obtain⟨i,hi,h1,h2⟩:=A;intro u;have:i∈aA md (l.take n).toArray a:=by
  rw[mem_ready];obtain⟨w,f,hed⟩:=ZD B hi;refine⟨h1,w,by rw[EU hi];exact f,λe he hb=>?_⟩;have h3:=h2 e.on (hed e he hb);have h4:e.on<a.size:=tD<|hed e he hb
  simp[h4]at h3 ⊢;exact h3
 rw[u]at this;cases this
theorem Pl:∀(f:Nat) (listed:Array Bool) (a:Act) (w:World),wpAny P md ops Q f listed a w->wpAny P md ops Q (f+1) listed a w
 |0,listed,a,w,h=>⟨λ_=>h.2,λi hi=>(by rw[h.1]at hi;cases hi)⟩
 |f+1,listed,a,w,h=>⟨h.1,λi hi=>wpOp_mono (λc w' b=>Pl f _ c w' b) (h.2 i hi)⟩
def AD(f:Nat)(b:Array Bool)(a:Act)(w:World)(g:Nat)(h:wpAny P md ops Q g b a w):wpAny P md ops Q (f+g) b a w:=by
 induction f with
 |zero=>rw[bz];exact h
 |succ f ih=>rw[show f+1+g=(f+g)+1 by omega];exact Pl _ _ _ _ ih
theorem SQ(h:LetsOut (AO P ops Q tl)):LetsOut Q:=by
 obtain⟨a,w,h⟩:=h;exact⟨a,w,h⟩
def UR(a:Array Oper)(n:Nat):Bool :=
 (eW n).all λi=>match a[i]? with
  |some o=>(match o.guard with | none=>true | some (g,_)=>decide (g<n))
  |none=>false
def Tj{l:List Oper}{g:Nat}(a:g<n)(t:Array Value):yielded (l.take n).toArray t g=yielded l.toArray t g:=by
 unfold yielded;rw[EU a]
theorem Cj{l:List Oper}(hi:i<n)(hgd:UR l.toArray n=true)
  (h:wpOp P (l.take n).toArray (AO P l.toArray Q tl) i K a w):wpOp P l.toArray Q i K a w:=by
 unfold wpOp at *
 rw[EU hi]at h;cases ho:l.toArray[i]? with
 |none=>simp only[ho]at h ⊢;exact h
 |some o =>
  simp only[ho]at h ⊢;have hw:ao o (yielded (l.take n).toArray a.tmps)=ao o (yielded l.toArray a.tmps):=by
   have h1:=List.all_eq_true.1 hgd i (List.mem_range.2 hi);rw[ho]at h1;unfold ao;cases hg:o.guard with
   |none=>rfl
   |some gw =>
    obtain⟨g,want⟩:=gw;simp only[hg]at h1;simp only[Tj (l:=l) (by simpa using h1)]
  rw[hw]at h;split
  ·rename_i hw2;rw[if_pos hw2]at h;rcases h with h | ⟨h1,h2⟩
   ·exact .inl (U8 (λ_ _ h=>h) h)
   exact .inr ⟨h1,SQ h2⟩
  rename_i hw2;rw[if_neg hw2]at h;exact h
theorem AB{l:List Oper}(K:n<l.length)(G:fc md l.toArray n=true)(hc:eY md l.toArray n=true)(H:WZ md l.toArray n=true)
  (F:UR l.toArray n=true) (y:iy md l.toArray (l.length-n) n (VW n l.length)=true) :
  ∀(f:Nat) (lh la:Array Bool) (a:Act) (w:World),HeadInv md l.toArray n la->lh.size=n->(∀i,i<n->la.getD i true=lh.getD i true) ->
   wpAny P md (l.take n).toArray (AO P l.toArray Q (l.drop n)) f lh a w->wpAny P md l.toArray Q (f+(l.length-n)) la a w:=by
 have fin:∀(f:Nat) (lh la:Array Bool) (a:Act) (w:World),HeadInv md l.toArray n la->lh.size=n->(∀i,i<n->la.getD i true=lh.getD i true) ->
   aA md (l.take n).toArray lh=[]->wpList P l.toArray Q (l.drop n) a w->wpAny P md l.toArray Q (f+(l.length-n)) la a w:=by
  intro f lh la a w c g b hr h;have C:∀i,i<n->lh.getD i true=true:=by
   intro i hi;cases L:lh.getD i true with
   |true=>rfl
   |false=>exact absurd hr (P5 K G hc H c g b hi L).2
  have D:la=VW n l.length:=by
   refine FZ (by simpa using c.size) (λi hi x=>?_) λi hi x=>?_
   ·have h1:=(b i hi).trans (C i hi);have h2:i<la.size:=by rw[c.size];simpa using x
    simp[h2]at h1 ⊢;exact h1
   exact getD_both (c.tail i hi (by simpa using x))
  subst D;refine AD f _ _ _ _ ?_;have:=wpAny_of_seq (P:=P) (Q':=Q) (l.drop n) n (VW n l.length) a w (λj=>by simp[eF]) (by simpa using y) h;simpa using this
 intro f
 induction f with
 |zero=>intro lh la a w c g b h;exact fin 0 lh la a w c g b h.1 h.2
 |succ f ih =>
  intro lh la a w c g b h;by_cases hr:aA md (l.take n).toArray lh=[]
  ·exact fin (f+1) lh la a w c g b hr (h.1 hr)
  obtain⟨k,hk⟩:=List.exists_mem_of_ne_nil _ hr;have z:=(mem_ready.1 hk);have E:k<n:=by
   obtain⟨_,o,s,_⟩:=z;have:=(Array.getElem?_eq_some_iff.1 s).1;simp at this;omega
  have m:=(P5 K G hc H c g b E z.1).1;rw[show f+1+(l.length-n)=(f+(l.length-n))+1 by omega];refine⟨λh0=>absurd ((m k).2 hk) (by rw[h0];simp),λi hi=>?_⟩;have B:=(m i).1 hi;have A:i<n:=by
   obtain⟨_,o,s,_⟩:=mem_ready.1 B;have:=(Array.getElem?_eq_some_iff.1 s).1;simp at this;omega
  have h2:=Cj A F (h.2 i B);refine wpOp_mono (λN w' h3=>ih _ _ N w' (c.set hi A) (by simpa using g) (λj M=>?_) h3) h2;by_cases u:i=j
  ·subst u;have h1:i<la.size:=by rw[c.size];simp;omega
   have h2:i<lh.size:=O;simp[h1,h2]
  rw[getD_set_ne true u,getD_set_ne true u];exact b j M
def Pz(l:List Oper)(n:Nat):Bool :=
 decide (n<l.length)&&fc .any l.toArray n&&eY .any l.toArray n&&WZ .any l.toArray n&&UR l.toArray n&&iy .any l.toArray (l.length-n) n (VW n l.length)
theorem NR{g:Nat}{l:List Oper}(n:Nat)(hm:P.follows .mixedOrders=true)(f:Pz l n=true)
  (h:wpAny P .any (l.take n).toArray (AO P l.toArray Q (l.drop n)) n (bJ n false) a { w with drawn:=w.drawn+1 }):(fy g l.toArray true).wp P Q a w:=by
 simp only[Pz,bF,decide_eq_true_eq]at f;obtain⟨⟨⟨⟨⟨o,k⟩,hc⟩,m⟩,s⟩,b⟩:=f;refine wp_region_any hm ?_;have QB5:HeadInv .any l.toArray n (bJ l.toArray.size false) :=
  ⟨tJ,λj u _ c=>(by rw[getD_replicate_false]at c;cases c),λt _ ht=>getD_in (by simpa using ht) (getD_replicate_false _ _)⟩
 have:=AB (P:=P) (md:=.any) (Q:=Q) o k hc m s b n (bJ n false) (bJ l.toArray.size false) a { w with drawn:=w.drawn+1 } QB5 tJ
  (λi hi=>by
   have h1:i<l.length:=O;simp[hi,h1]) h
 rw[show n+(l.length-n)=l.toArray.size by simp;omega]at this;exact this
def J2:Op->Bool
 |.move _ | .assign _ | .pick .. | .nilCheck _ | .binOp .. | .unOp .. | .convert .. | .fieldAddr .. | .field .. | .indexAddr .. | .index .. | .extract .. | .slice .. | .build .. | .load .. | .makeFunc .. | .lookup ..=>true
 |.call { callee:=.builtin b,.. }=>match b with | .len | .cap | .min | .max=>true | _=>false
 |_=>false
section
variable{ops:Array Oper}{Q:Exit->Act->World->Prop}{S:World->Prop}
def SP(P:Program)(b:Array Oper)(Q:Exit->Act->World->Prop)(S:World->Prop):List Nat->Act->World->Prop
  | [],a,w=>Q .normal a w
  | i::r,a,w=>∃o,b[i]?=some o /\
      ((J2 o.op=true/\∃v,YieldsIf P b S o v a/\SP P b Q S r (a.put o.dst v) w) \/
       (J2 o.op=false/\wpOp P b (λ_ _ _=>False) i (λa' w'=>S w'/\SP P b Q S r a' w') a w))
theorem vr{o:Oper}(hi:ops[i]?=some o)(h:wpOp P ops (λ_ _ _=>False) i K a w):
  ∃u w' d,K ({ a with defers:=d }.put o.dst u) w':=by
 unfold wpOp at h;simp only[hi]at h;split at h
 ·rcases h with h | ⟨_,_,_,h⟩
  ·unfold bN at h;generalize (execOp a.eval o).run P w=r at *
   cases r with
   |ok n w' =>
    cases n<;>simp only[aL]at h
    case value u=>exact⟨u,w',a.defers,h⟩
    case skip=>exact⟨undef,w',a.defers,h⟩
    case defer d=>exact⟨undef,w',d::a.defers,h⟩
    case enter f args =>
     obtain⟨e,b,fr,g,_⟩:=h [];cases e with
     |returned u=>exact⟨u,b,a.defers,g⟩
     |panicked c=>exact g.elim
     |outgrown=>obtain⟨_,_,h⟩:=g;exact h.elim
    case row row args =>
     obtain⟨u,b,g,_⟩:=h default [];exact⟨u,b,a.defers,g⟩
    all_goals exact h.elim
   |halt x w'=>cases x<;>simp only[aL]at h<;>exact h.elim
  exact h.elim
 exact⟨undef,w,a.defers,h⟩
theorem U9{j:Nat}{oi oj:Oper}{v:Value}(hj:ops[j]?=some oj)(hap:oi.apart ops oj=true)(hsj:∀cs b,oj.op≠.select cs b)
  {K:Act->World->Prop} {a:Act} {w:World} (h:wpOp P ops (λ_ _ _=>False) j (λa' w'=>K (a'.put oi.dst v) w') a w) :
  wpOp P ops (λ_ _ _=>False) j K (a.put oi.dst v) w:=by
 obtain⟨h1,h2,h3⟩:=eP hap;unfold wpOp at *
 simp only[hj]at *
 rw[wanted_put oj a oi.dst v h1];split
 ·rename_i hw;simp only[hw,if_true]at h;rcases h with h | ⟨hasks,hlets⟩
  case inr=>exact .inr ⟨by unfold Oper.asks at *;rw[execOp_put oj hsj a oi.dst v h1];exact hasks,hlets⟩
  refine .inl ?_;unfold bN at *
  rw[execOp_put oj hsj a oi.dst v h1];generalize (execOp a.eval oj).run P w=r at *
  cases r with
  |ok n w' =>
   cases n<;>simp only[aL]at h ⊢
   case value u=>rw[bA a v u h2];exact h
   case skip=>rw[bA a v undef h2];exact h
   case defer d=>rw[Act.put_defers,bA _ v undef h2];exact h
   case enter f args =>
    refine eC h λe w'' he=>?_;cases e with
    |returned u=>show K _ _;rw[bA a v u h2];exact he
    |panicked c=>exact he
    |outgrown=>exact he
   case row row args=>exact fZ h λu w'' he=>(by rw[bA a v u h2];exact he)
  |halt x w'=>cases x<;>simp only[aL]at h ⊢
 rename_i hw;simp only[hw]at h;rw[bA a v undef h2];exact h
def YieldsIf.uniq{o:Oper}{v f:Value}(g:S w)(h:YieldsIf P ops S o v a)(i:YieldsIf P ops S o f a):v=f:=by
 rcases h with ⟨h1,h2⟩ | ⟨h1,h2⟩<;>rcases i with ⟨b,c⟩ | ⟨b,c⟩
 ·have:=(h2 w g).symm.trans (c w g);simpa using this
 ·rw[h1]at b;cases b
 ·rw[h1]at b;cases b
 rw[h2,c]
def Ru{x y:Oper}(h:x.apart ops y=true):y.apart ops x=true:=by
 obtain⟨h1,h2,h3⟩:=eP h;unfold Oper.apart;cases hx:x.dst with
 |none=>cases hy:y.dst with
  |none=>rfl
  |some e=>simpa using h3 e hy
 |some d =>
  have b:=h1 d hx;have a:=h2 d hx;cases hy:y.dst with
  |none=>simpa using b
  |some e =>
   have c:=h3 e hy;rw[hy]at a;simp only[ne_eq,ai]at a;simp[c,b];exact λh=>a h.symm
theorem Da{j:Nat}{oj:Oper}{post:List Nat}(hoj:ops[j]?=some oj)(hq:J2 oj.op=true)(hsel:∀(j:Nat) (o:Oper) cs b,ops[j]?=some o->o.op≠.select cs b):
  ∀(pre:List Nat) (a:Act) (w:World),(∀k∈pre,∀ok,ops[k]?=some ok->oj.apart ops ok=true)->SP P ops Q S (pre++j::post) a w ->
   ∃v,YieldsIf P ops S oj v a/\SP P ops Q S (pre++post) (a.put oj.dst v) w
 |[],a,w,_,h=>by
  obtain⟨o,ho,h⟩:=h;have:o=oj:=ay (ho.symm.trans hoj);subst this;rcases h with ⟨_,v,h1,h2⟩ | ⟨h1,_⟩
  ·exact⟨v,h1,h2⟩
  rw[hq]at h1;cases h1
 |k::pre,a,w,hap,h=>by
  obtain⟨ok,hok,h⟩:=h;have hk:=hap k tJ ok hok;obtain⟨p1,p2,p3⟩:=eP hk;rcases h with ⟨hqk,vk,hyk,h⟩ | ⟨hqk,h⟩
  ·obtain⟨v,hy,h⟩:=Da hoj hq hsel pre _ w (λi hi=>hap i (by simp[hi])) h;have hy':YieldsIf P ops S oj v a:=by
    refine hy.of_same ?_ ?_
    ·exact(execOp_put oj (λcs b=>hsel j oj cs b hoj) a ok.dst vk p3).symm
    exact(wanted_put oj a ok.dst vk p3).symm
   refine⟨v,hy',ok,hok,.inl ⟨hqk,vk,?_,?_⟩⟩
   ·refine hyk.of_same ?_ ?_
    ·exact execOp_put ok (λcs b=>hsel k ok cs b hok) a oj.dst v p1
    exact wanted_put ok a oj.dst v p1
   rw[bA a v vk p2];exact h
  have h2:=wpOp_mono (λa' w' (h:S w'/\SP P ops Q S (pre++j::post) a' w')=>(⟨h.1,Da hoj hq hsel pre a' w' (λi hi=>hap i (by simp[hi])) h.2⟩ :
   S w'/\∃v,YieldsIf P ops S oj v a'/\SP P ops Q S (pre++post) (a'.put oj.dst v) w')) h
  obtain⟨u,w1,d,hS1,v0,hy0,_⟩:=vr hok h2;have back:∀(d:List Deferred) (u v:Value),YieldsIf P ops S oj v ({ a with defers:=d }.put ok.dst u)->YieldsIf P ops S oj v a:=λd u v hy=>by
   refine hy.of_same ?_ ?_
   ·rw[execOp_put oj (λcs b=>hsel j oj cs b hoj) _ ok.dst u p3];rfl
   rw[wanted_put oj _ ok.dst u p3]
  have hya:=back d u v0 hy0;refine⟨v0,hya,ok,hok,.inr ⟨hqk,?_⟩⟩;refine U9 hok hk (λcs b=>hsel k ok cs b hok) ?_;have h3:wpOp P ops (λ_ _ _=>False) k (λa' w'=>(YieldsIf P ops S oj v0 a')/\(S w'/\∃v,YieldsIf P ops S oj v a'/\SP P ops Q S (pre++post) (a'.put oj.dst v) w')) a w:=by
   have keep:∀(u:Value),YieldsIf P ops S oj v0 (a.put ok.dst u):=λu=>by
    refine hya.of_same ?_ ?_
    ·exact execOp_put oj (λcs b=>hsel j oj cs b hoj) a ok.dst u p3
    exact wanted_put oj a ok.dst u p3
   have keepd:∀(d:Deferred) (u:Value),YieldsIf P ops S oj v0 ({ a with defers:=d::a.defers }.put ok.dst u):=λd u=>by
    refine hya.of_same ?_ ?_
    ·rw[execOp_put oj (λcs b=>hsel j oj cs b hoj) _ ok.dst u p3];rfl
    rw[wanted_put oj _ ok.dst u p3]
   clear h;unfold wpOp at h2 ⊢;simp only[hok]at h2 ⊢;split
   ·rename_i hw;simp only[hw,if_true]at h2;rcases h2 with h2 | h2
    case inr=>exact .inr h2
    refine .inl ?_;unfold bN at *
    generalize (execOp a.eval ok).run P w=r at *
    cases r with
    |ok n w' =>
     cases n<;>simp only[aL]at h2 ⊢
     case value u=>exact⟨keep u,h2⟩
     case skip=>exact⟨keep _,h2⟩
     case defer d=>exact⟨keepd d _,h2⟩
     case enter f args =>
      refine eC h2 λe w'' he=>?_;cases e with
      |returned u=>exact⟨keep u,he⟩
      |panicked c=>exact he
      |outgrown=>exact he
     case row row args=>exact fZ h2 λu w'' he=>⟨keep u,he⟩
    |halt x w'=>cases x<;>simp only[aL]at h2 ⊢
   rename_i hw;simp only[hw]at h2;exact⟨keep _,h2⟩
  refine wpOp_mono (λa' w' h=>?_) h3;obtain⟨hy,hS,v,hy2,hl⟩:=h;have:v=v0:=YieldsIf.uniq hS hy2 hy;subst this;exact⟨hS,hl⟩
end
section
variable{ops:Array Oper}{Q:Exit->Act->World->Prop}{S:World->Prop}
theorem AA(h:wpOp P ops (λ_ _ _=>False) i K a w):wpOp P ops Q i K a w:=by
 unfold wpOp at *
 cases ho:ops[i]? with
 |none=>simp only[ho]at h ⊢;exact h
 |some o =>
  simp only[ho]at h ⊢;split
  ·rename_i hw;rw[if_pos hw]at h;rcases h with h | ⟨_,_,_,h⟩
   ·refine .inl ?_;unfold bN at *
    generalize (execOp a.eval o).run P w=r at *
    cases r with
    |ok n w' =>
     cases n<;>simp only[aL]at h ⊢
     all_goals first
      |exact h
      |exact eC h λe w'' he=>by
        cases e with
        |returned u=>exact he
        |panicked c=>exact he.elim
        |outgrown=>obtain⟨_,_,h⟩:=he;exact h.elim
    |halt x w'=>cases x<;>simp only[aL]at h ⊢
   exact h.elim
  rename_i hw;rw[if_neg hw]at h;exact h
def DY(md:aY)(acc:List Nat)(o:Oper):Nat:=o.after.foldl (λs e=>if aF md e then s ||| 2^e.on ||| acc.getD e.on 0 else s) 0
def RS(md:aY)(a:List Oper):List Nat:=a.foldl (λacc o=>acc++[DY md acc o]) []
theorem Ra{md:aY}{acc:List Nat}:∀(l:List Edge) (s:Nat),(l.foldl (λs e=>if aF md e then s ||| 2^e.on ||| acc.getD e.on 0 else s) s).testBit i=true ->
  s.testBit i=true\/∃e∈l,aF md e=true/\(i=e.on\/(acc.getD e.on 0).testBit i=true)
 |[],s,h=>.inl h
 |e::l,s,h=>by
  rw[eN]at h;rcases Ra l _ h with h | ⟨e',he',h⟩
  ·split at h
   ·rename_i hb;rw[iu,iu,Nat.testBit_two_pow]at h;simp only[Bool.or_eq_true,decide_eq_true_eq]at h;rcases h with (h | h) | h
    ·exact .inl h
    ·exact .inr ⟨e,tJ,hb,.inl h.symm⟩
    exact .inr ⟨e,tJ,hb,.inr h⟩
   exact .inl h
  exact .inr ⟨e',by simp[he'],h⟩
def FC{md:aY}{acc:List Nat}{o:Oper}(h:(DY md acc o).testBit i=true):∃e∈o.after,aF md e=true/\(i=e.on\/(acc.getD e.on 0).testBit i=true):=by
 unfold DY at h;rw[<-eD]at h;rcases Ra _ _ h with h | ⟨e,he,h⟩
 ·simp at h
 exact⟨e,by simpa using he,h⟩
theorem TG(md:aY):∀(l:List Oper) (acc:List Nat),∃r,l.foldl (λacc o=>acc++[DY md acc o]) acc=acc++r/\r.length=l.length /\
  ∀k o,l[k]?=some o->r[k]?=some (DY md (acc++r.take k) o)
 |[],acc=>⟨[],tJ,rfl,λk o h=>by simp at h⟩
 |o::l,acc=>by
  obtain⟨r,h1,h2,h3⟩:=TG md l (acc++[DY md acc o]);refine⟨DY md acc o::r,by simp[h1],by simp[h2],λk a h=>?_⟩;cases k with
  |zero=>simp at h;subst h;simp
  |succ k =>
   simp at h;have:=h3 k a h;simpa using this
theorem Lo{md:aY}{l:List Oper}{o:Oper}(c:l[k]?=some o)(a:∀e∈o.after,aF md e=true->e.on<k)(h:((RS md l).getD k 0).testBit i=true):
  ∃e∈o.after,aF md e=true/\(i=e.on\/((RS md l).getD e.on 0).testBit i=true):=by
 obtain⟨r,h1,h2,h3⟩:=TG md l [];have j:RS md l=r:=by unfold RS;rw[h1];simp
 rw[j]at h ⊢;have h4:=h3 k o c;rw[bD,h4]at h;obtain⟨e,he,hb,hi⟩:=FC h;refine⟨e,he,hb,hi.imp id λhi=>?_⟩;have b:=a e he hb;have hk:k<r.length:=by rcases av k r.length with g | g;exact g;rw[aI g]at h4;cases h4
 have f:([]++r.take k).getD e.on 0=r.getD e.on 0:=by simp[bD,b]
 rw[f]at hi;exact hi
def lexB(md:aY)(l:List Oper):Bool :=
 let ms:=RS md l
 Region.noSelect l.toArray&&WZ md l.toArray l.length&&(eW l.length).all λj=>match l[j]? with
  |none=>false
  |some a=>(eW j).all λi=>match l[i]? with
   |none=>false
   |some oi=>if J2 oi.op||J2 a.op then(bm md l.toArray j i||oi.apart l.toArray a)else(ms.getD j 0).testBit i
theorem MM{l:List Oper}(h:lexB md l=true){i j:Nat}(hij:i<j){oi oj:Oper}(hi:l[i]?=some oi)(hj:l[j]?=some oj):
  if J2 oi.op||J2 oj.op then(bm md l.toArray j i||oi.apart l.toArray oj)=true else((RS md l).getD j 0).testBit i=true:=by
 simp only[lexB,bF]at h;have hjl:j<l.length:=by rcases av j l.length with g | g;exact g;rw[aI g]at hj;cases hj
 have h1:=List.all_eq_true.1 h.2 j (List.mem_range.2 hjl);rw[hj]at h1;have h2:=List.all_eq_true.1 h1 i (List.mem_range.2 hij);rw[hi]at h2;simp only at h2;split
 ·rename_i g;rw[if_pos g]at h2;exact h2
 rename_i g;rw[if_neg g]at h2;exact h2
theorem FB{l:List Oper}{a:Array Bool}(b:WZ md l.toArray l.length=true)(s:∀j oj,l.toArray[j]?=some oj->a.getD j false=true->∀e∈oj.after,aF md e=true->a.getD e.on false=true):
  ∀(k:Nat) (o:Oper),l[k]?=some o->(∀e∈o.after,aF md e=true->a.getD e.on false=true)->∀i,((RS md l).getD k 0).testBit i=true->a.getD i false=true:=by
 intro k
 induction k using il with
 |_ k ih =>
  intro o m hd i hi;have hk:k<l.length:=by rcases av k l.length with g | g;exact g;rw[aI g]at m;cases m
  obtain⟨w,n,hed⟩:=ZD b hk;have:w=o:=ay (n.symm.trans (by simpa using m));subst this;obtain⟨e,he,hb,h⟩:=Lo m hed hi;have h1:=hd e he hb;rcases h with rfl | h
  ·exact h1
  have f:=hed e he hb;obtain⟨u,c,_⟩:=ZD b (Nat.lt_trans f hk);exact ih e.on f u (by simpa using c) (s e.on u c h1) i h
theorem dV{l:List Oper}(hB:lexB md l=true)(hQ:∀c a d v w,Q (.panic c) (ie a d v) w->Q (.panic c) a w):
  ∀(m:Nat) (r:List Nat) (listed:Array Bool) (a:Act) (w:World),r.length=m->r.Pairwise (·<·)->(∀i,i∈r↔i<l.length/\listed.getD i true=false)->listed.size=l.length ->
   (∀j oj,l.toArray[j]?=some oj->listed.getD j false=true->∀e∈oj.after,aF md e=true->listed.getD e.on false=true)->S w->SP P l.toArray Q S r a w->wpAnyH P md l.toArray Q S m listed a w:=by
 have hB':=hB;simp only[lexB,bF]at hB';obtain⟨⟨hns,A⟩,_⟩:=hB';have L:=Region.noSelect_spec hns;intro m
 induction m with
 |zero =>
  intro r listed a w hm x hr N U hS h;have:r=[]:=List.length_eq_zero_iff.1 hm;subst this;refine⟨?_,h⟩;rw[List.eq_nil_iff_forall_not_mem];intro i hi;obtain⟨h1,o,ho,_⟩:=mem_ready.1 hi;have C:i<l.length:=by have:=(Array.getElem?_eq_some_iff.1 ho).1;simpa using this
  have:=(hr i).2 ⟨C,h1⟩;cases this
 |succ m ih =>
  intro r listed a w hm x hr N U hS h
  match r,hm,x,hr,h with
  |i::r,hm,x,hr,h =>
  have T:=(hr i).1 tJ;have hmin:∀j,j<i->listed.getD j false=true:=by
   intro j n;cases E:listed.getD j false with
   |true=>rfl
   |false =>
    have D:j<l.length:=O;have:=(hr j).2 ⟨D,getD_in O E⟩;rcases List.mem_cons.1 this with e | e
    ·omega
    have:=(List.pairwise_cons.1 x).1 j e;omega
  obtain⟨oi,F,hed⟩:=ZD A T.1;have y:i∈aA md l.toArray listed:=mem_ready.2 ⟨T.2,oi,F,λe he hb=>hmin _ (hed e he hb)⟩;have next:∀j,j∈aA md l.toArray listed->j∈(i::r)->∀V w',S w'->SP P l.toArray Q S ((i::r).erase j) V w'->wpAnyH P md l.toArray Q S m (listed.setIfInBounds j true) V w':=by
   intro j n g V w' hS' h';have hjsz:j<listed.size:=by rw[N];exact((hr j).1 g).1
   refine ih ((i::r).erase j) _ V w' (by rw[List.length_erase_of_mem g];simp at hm ⊢;omega) (x.sublist List.erase_sublist) (λk=>?_) (by simpa using N) (λk ok hk hl e he hb=>?_) hS' h'
   ·rw[List.Nodup.mem_erase_iff (x.imp λh=>Nat.ne_of_lt h),hr k];by_cases u:j=k
    ·subst u;simp[hjsz]
    rw[getD_set_ne true u];simp[fm u]
   by_cases u:j=k
   ·subst u;obtain⟨_,oj,b,f⟩:=mem_ready.1 n;have:ok=oj:=ay (hk.symm.trans b);subst this;exact getD_set_true (f e he hb)
   rw[getD_set_ne false u]at hl;exact getD_set_true (U k ok hk hl e he hb)
  have take:∀j oj,j∈aA md l.toArray listed->l.toArray[j]?=some oj->J2 oj.op=true->j∈(i::r)->wpAnyH P md l.toArray Q S (m+1) listed a w:=by
   intro j oj n b hq g;obtain⟨pre,post,z⟩:=List.append_of_mem g;have hjs:=mem_ready.1 n;have M:∀k ok,l.toArray[k]?=some ok->k≠j->listed.getD k true=false->(∀e∈ok.after,aF md e=true->e.on≠j)->oj.apart l.toArray ok=true:=by
    intro k ok s hkj hun hno;have hnw:bm md l.toArray k j=false:=by
     cases E:bm md l.toArray k j with
     |false=>rfl
     |true =>
      obtain⟨X,B,e,he,hb,R⟩:=fg E;have:X=ok:=ay (B.symm.trans s);subst this;exact absurd R (hno e he hb)
    have Z:bm md l.toArray j k=false:=by
     cases E:bm md l.toArray j k with
     |false=>rfl
     |true =>
      obtain⟨X,B,e,he,hb,R⟩:=fg E;obtain⟨_,o2,ho2,f⟩:=hjs;have:X=o2:=ay (B.symm.trans ho2);subst this;have:=f e he hb;rw[R,getD_both hun]at this;cases this
    rcases Nat.lt_or_gt_of_ne hkj with C | hgt
    ·have:=MM hB C (by simpa using s) (by simpa using b);rw[if_pos (by simp[hq]),Z]at this;exact Ru (by simpa using this)
    have:=MM hB hgt (by simpa using b) (by simpa using s);rw[if_pos (by simp[hq]),hnw]at this;simpa using this
   have G:=Da (P:=P) (Q:=Q) (S:=S) b hq L pre a w (post:=post) (λk hk ok s=>by
    have hkr:k∈(i::r):=by rw[z];simp[hk]
    have hkj:k<j:=by
     rw[z]at x;exact(List.pairwise_append.1 x).2.2 k hk j tJ
    refine M k ok s O ((hr k).1 hkr).2 (λe he hb heq=>?_);obtain⟨X,B,hed'⟩:=ZD A ((hr k).1 hkr).1;have:X=ok:=ay (B.symm.trans s);subst this;have:=hed' e he hb;omega) (by rw[<-z];exact h)
   obtain⟨v,hy,h'⟩:=G;have K:(i::r).erase j=pre++post:=by
    rw[z,List.erase_append_right,fu];intro hmem;rw[z]at x;have:=(List.pairwise_append.1 x).2.2 j hmem j tJ;omega
   exact wpAnyH_first b L (λc a w h=>hQ c a _ v w h) m listed a w M n hy hS (next j n g _ w hS (by rw[K];exact h'))
  by_cases H:∃j oj,j∈aA md l.toArray listed/\l.toArray[j]?=some oj/\J2 oj.op=true
  ·obtain⟨j,oj,n,b,hq⟩:=H;have D:j<l.length:=by have:=(Array.getElem?_eq_some_iff.1 b).1;simpa using this
   exact take j oj n b hq ((hr j).2 ⟨D,(mem_ready.1 n).1⟩)
  have Y:∀j∈aA md l.toArray listed,j=i:=by
   intro j n;obtain⟨hjun,oj,b,f⟩:=mem_ready.1 n;have D:j<l.length:=by have:=(Array.getElem?_eq_some_iff.1 b).1;simpa using this
   have g:=(hr j).2 ⟨D,hjun⟩;rcases List.mem_cons.1 g with e | e
   ·exact e
   have C:=(List.pairwise_cons.1 x).1 j e;have hqj:J2 oj.op=false:=by
    cases E:J2 oj.op with
    |false=>rfl
    |true=>exact absurd ⟨j,oj,n,b,E⟩ H
   have hqi:J2 oi.op=false:=by
    cases E:J2 oi.op with
    |false=>rfl
    |true=>exact absurd ⟨i,oi,y,F,E⟩ H
   have:=MM hB C (by simpa using F) (by simpa using b);rw[if_neg (by simp[hqi,hqj])]at this;have:=FB A U j oj (by simpa using b) f i this;rw[getD_both T.2]at this;cases this
  refine⟨λh0=>(by rw[h0]at y;cases y),λj n=>?_⟩;have:=Y j n;subst this;obtain⟨o,ho,h⟩:=h;have:o=oi:=ay (ho.symm.trans F);subst this;rcases h with ⟨hq,_⟩ | ⟨_,h⟩
  ·exact absurd ⟨j,o,y,ho,hq⟩ H
  refine AA (wpOp_mono (λV w' h=>⟨h.1,?_⟩) h);exact next j y tJ V w' h.1 (by rw[fu];exact h.2)
end
section
variable{Q:Exit->Act->World->Prop}{S:World->Prop}
def FF(P:Program)(b:Array Oper)(Q:Exit->Act->World->Prop)(S:World->Prop):List Oper->Act->World->Prop
  | [],a,w=>Q .normal a w
  | o::r,a,w =>
      (J2 o.op=true/\∃v,YieldsIf P b S o v a/\FF P b Q S r (a.put o.dst v) w) \/
       (J2 o.op=false/\if ao o (yielded b a.tmps)then o.wp P a w (λa' w'=>S w'/\FF P b Q S r a' w') (λ_ _ _=>False)else S w/\FF P b Q S r (a.put o.dst undef) w)
theorem V4:∀(l:List Oper) (k:Nat) (a:Act) (w:World),(∀j,j<l.length->l[j]?=ops[k+j]?)->FF P ops Q S l a w->SP P ops Q S (iX k l.length) a w
 |[],k,a,w,_,h=>h
 |o::l,k,a,w,hl,h=>by
  have h0:ops[k]?=some o:=by simpa using(hl 0 tJ).symm
  have hl':∀j,j<l.length->l[j]?=ops[k+1+j]?:=λj hj=>by
   have:=hl (j+1) tK;rw[show k+1+j=k+(j+1) by omega,<-this];simp
  rw[aO,List.range'_succ];refine⟨o,h0,?_⟩;rcases h with ⟨h1,v,h2,h3⟩ | ⟨h1,h2⟩
  ·exact .inl ⟨h1,v,h2,V4 l (k+1) _ w hl' h3⟩
  refine .inr ⟨h1,?_⟩;unfold wpOp;simp only[h0];split
  ·rename_i hw;rw[if_pos hw]at h2;exact .inl (Oper.wp_mono (λa' w' h=>⟨h.1,V4 l (k+1) a' w' hl' h.2⟩) h2)
  rename_i hw;rw[if_neg hw]at h2;exact⟨h2.1,V4 l (k+1) _ w hl' h2.2⟩
theorem DA{l:List Oper}(k:lexB .any l=true)(g:∀c a w,¬Q' (.panic c) a w){a:Act}{w:World}(f:S w)(h:FF P l.toArray Q' S l a w):
  wpAny P .any l.toArray Q' l.length (bJ l.length false) a w:=by
 refine wpAny_of_held _ _ _ _ (dV k (λc a d v w h=>absurd h (g c _ w)) l.length (iX 0 l.length) _ a w tJ List.pairwise_lt_range' (λi=>?_) tJ (λj m _ b=>(by rw[getD_replicate_false]at b;cases b)) f (V4 l 0 a w (λj _=>tJ) h));rw[List.mem_range'_1];constructor
 ·intro h;have:i<l.length:=O;simp[this]
 intro h;omega
def ZV(K:Act->World->Prop):Exit->Act->World->Prop
 |.normal,a,w=>K a w
 |_,_,_=>False
theorem Oper.jl{o:Oper}{Q:Exit->Act->World->Prop}(hq:∀e a w,Q e a w->Q' e a w)(h:o.wp P a w K Q):o.wp P a w K Q':=by
 unfold bN at *
 generalize (execOp a.eval o).run P w=r at *
 cases r with
 |ok n w' =>
  cases n<;>simp only[aL]at h ⊢
  all_goals first
   |exact h
   |exact eC h λe b he=>by
     cases e with
     |returned u=>exact he
     |panicked c=>exact hq _ _ _ he
     |outgrown=>obtain⟨a,w,h⟩:=he;exact⟨a,w,hq _ _ _ h⟩
 |halt x w'=>cases x<;>simp only[aL]at h ⊢;exact hq _ _ _ h
theorem I2{Q:Exit->Act->World->Prop}(hq:∀e a w,Q e a w->Q' e a w)(h:wpOp P ops Q i K a w):wpOp P ops Q' i K a w:=by
 unfold wpOp at *
 cases ho:ops[i]? with
 |none=>simp only[ho]at h ⊢;exact h
 |some o =>
  simp only[ho]at h ⊢;split
  ·rename_i hw;rw[if_pos hw]at h;exact h.imp (Oper.jl hq) λ⟨h1,a,w,h2⟩=>⟨h1,a,w,hq _ _ _ h2⟩
  rename_i hw;rw[if_neg hw]at h;exact h
theorem Wu{Q:Exit->Act->World->Prop}(hq:∀e a w,Q e a w->Q' e a w):∀(f:Nat) (listed:Array Bool) (a:Act) (w:World),wpAny P md ops Q f listed a w->wpAny P md ops Q' f listed a w
 |0,_,_,_,h=>⟨h.1,hq _ _ _ h.2⟩
 |f+1,_,_,_,h=>⟨λh0=>hq _ _ _ (h.1 h0),λi hi=>I2 hq (wpOp_mono (λc w' b=>Wu hq f _ c w' b) (h.2 i hi))⟩
theorem SJ{b:Nat}{l:List Oper}(hm:P.follows .mixedOrders=true)(g:lexB .any l=true)(f:S { w with drawn:=w.drawn+1 })
  (h:FF P l.toArray (ZV (Q .normal)) S l a { w with drawn:=w.drawn+1 }):(fy b l.toArray true).wp P Q a w:=by
 refine wp_region_any hm ?_;have:=DA (P:=P) (Q':=ZV (Q .normal)) g (λc a w h=>h) f h;simpa using Wu (Q':=Q) (λe a w h=>by cases e<;>first | exact h | exact h.elim) _ _ _ _ this
def By{g:Nat}{l:List Oper}(n:Nat)(hm:P.follows .mixedOrders=true)(f:Pz l n=true)(b:lexB .any (l.take n)=true)(i:S { w with drawn:=w.drawn+1 })
  (h:FF P (l.take n).toArray (ZV λa w=>wpList P l.toArray Q (l.drop n) a w) S (l.take n) a { w with drawn:=w.drawn+1 }):(fy g l.toArray true).wp P Q a w:=by
 refine NR n hm f ?_;have j:n<l.length:=by simp only[Pz,bF,decide_eq_true_eq]at f;exact f.1.1.1.1.1
 have:=DA (P:=P) b (λc a w h=>h) i h;have e:(l.take n).length=n:=tK;rw[e]at this;exact Wu (λe a w h=>by cases e<;>first | exact h | exact h.elim) _ _ _ _ this
end
end
abbrev Gs:=Nat->Option (Array Value×TypeId)
variable{F F0:Gs}{G:Gs->Prop}
def Gs.le(F a:Gs):Prop:=∀b x,F b=some x->a b=some x
theorem Gs.le_refl(F:Gs):Gs.le F F:=λ_ _ h=>h
theorem Gs.le_trans{c a:Gs}(h:Gs.le F c)(k:Gs.le c a):Gs.le F a:=λb x hx=>k b x (h b x hx)
class Dr where
 on:Prop
instance(priority:=10) QJA:Dr:=⟨False⟩
class Df where
 ds:List Deferred
instance(priority:=10) DH:Df:=⟨[]⟩
structure SX[Dr](w w':World):Prop extends Below w.heap.size w w' where
 dr:Dr.on->w.drawn<=w'.drawn
section
variable[Dr]
theorem SX.refl(w:World):SX w w:=⟨Ext.refl w,λ_=>au _⟩
theorem SX.trans{a b c:World}(h:SX a b)(k:SX b c):SX a c:=⟨Ext.trans h.toBelow k.toBelow,λd=>eI (h.dr d) (k.dr d)⟩
theorem SX.alloc{a:World}(h:SX a w)(o:Obj):SX a (w.alloc o):=⟨Ext.alloc h.toBelow o,h.dr⟩
theorem SX.drew{a:World}(h:SX a w):SX a w.drew:=⟨Ext.drew h.toBelow,λd=>Nat.le_succ_of_le (h.dr d)⟩
end
def SX.of(h:Ext w w'):SX w w':=⟨h,λd=>d.elim⟩
section
variable[Dr][df:Df]
structure Fits(F:Gs)(w:World):Prop where
 row:∀b c T,F b=some (c,T)->∃fr,w.heap[b]?=some (.cells c T fr)
 all:∀b c fr,w.heap[b]?=some (.cells c 297 fr)->F b=some (c,297)
theorem Fits.drew(h:Fits F w):Fits F w.drew:=⟨h.row,h.all⟩
theorem Fits.lt(h:Fits F w){b:Nat}{x:Array Value×TypeId}(hb:F b=some x):b<w.heap.size:=by
 obtain⟨fr,h⟩:=h.row b x.1 x.2 hb;rcases av b w.heap.size with g | g
 ·exact g
 rw[ab g]at h;cases h
theorem Fits.none(h:Fits F w){b:Nat}(hb:w.heap.size<=b):F b=none:=by
 cases a:F b with
 |none=>rfl
 |some x=>have:=h.lt a;omega
abbrev Sl:=List (Nat×Value)
def look:Sl->Nat->Option Value
 |[],_=>none
 |(k,v)::r,t=>bif aX k t then some v else look r t
def upd(m:Sl):Option Tmp->Value->Sl
 |some d,v=>(d,v)::m
 |none,_=>m
def ev(m:Sl):Operand->Option Value
 |.tmp t=>look m t
 |.const v=>some v
 |.global g=>some (.pointer (some ⟨g,0,none⟩))
 |.func f=>some (.func (.func f) #[] #[])
def E3(m:Sl):List Operand->Option (List Value)
 |[]=>some []
 |x::r=>match ev m x,E3 m r with
  |some v,some l=>some (v::l)
  |_,_=>none
def J5(N:Nat)(d:Option Tmp):Bool:=match d with | some d=>Nat.blt d N | none=>true
structure Ja(N:Nat)(m:Sl)(a:Act):Prop where
 size:a.tmps.size=N
 df:a.defers=Df.ds
 get:∀t v,look m t=some v->a.tmps[t]?=some v
theorem Ja.ev{m:Sl}(h:Ja N m a){x:Operand}{v:Value}(hx:ev m x=some v):a.eval x=v:=by
 cases x with
 |tmp t=>have:=h.get t v hx;simp[fG,this]
 |const b=>simpa[YtjcphjpkimmmjaaGreatDoor.ev,fG]using hx
 |global g=>simpa[YtjcphjpkimmmjaaGreatDoor.ev,fG]using hx
 |func f=>simpa[YtjcphjpkimmmjaaGreatDoor.ev,fG]using hx
theorem Ja.E3{m:Sl}(h:Ja N m a):∀ {l:List Operand} {vs:List Value},E3 m l=some vs->l.map a.eval=vs
 |[],vs,e=>by simpa[YtjcphjpkimmmjaaGreatDoor.E3]using e
 |x::l,vs,e=>by
  unfold YtjcphjpkimmmjaaGreatDoor.E3 at e;cases hx:YtjcphjpkimmmjaaGreatDoor.ev m x with
  |none=>rw[hx]at e;simp at e
  |some v =>
   cases b:YtjcphjpkimmmjaaGreatDoor.E3 m l with
   |none=>rw[hx,b]at e;simp at e
   |some r =>
    rw[hx,b]at e;simp only[ai]at e;subst e;rw[bR,h.ev hx,h.E3 b]
theorem Ja.put{m:Sl}(h:Ja N m a){d:Option Tmp}(hd:J5 N d=true)(v:Value):Ja N (upd m d v) (a.put d v):=by
 cases d with
 |none=>exact h
 |some d =>
  have c:d<N:=by simpa[J5]using hd
  refine⟨by simp[ie,h.size],h.df,λt u ht=>?_⟩;simp only[upd,look]at ht;cases hb:aX d t with
  |true =>
   rw[hb]at ht;have:d=t:=by simpa using hb
   subst this;have:v=u:=by simpa using ht
   subst this;simp[ie,h.size,c]
  |false =>
   rw[hb]at ht;have b:d≠t:=by intro e;subst e;simp at hb
   have:=h.get t u (by simpa using ht);simp[ie,aM b,this]
def KN(m:Sl):Sl->Prop
 |[]=>True
 |(t,v)::r=>look m t=some v/\KN m r
theorem Ja.sub{m:Sl}(h:Ja N m a):∀ {m':Sl},KN m m'->Ja N m' a
 |[],_=>⟨h.size,h.df,λt v e=>by simp[look]at e⟩
 |(k,u)::r,⟨h1,h2⟩=>by
  refine⟨h.size,h.df,λt v e=>?_⟩;simp only[look]at e;cases hb:aX k t with
  |true =>
   rw[hb]at e;have:k=t:=by simpa using hb
   subst this;have:u=v:=by simpa using e
   subst this;exact h.get _ _ h1
  |false=>rw[hb]at e;exact(h.sub h2).get t v (by simpa using e)
structure Env where
 w0:World
 F0:Gs
 bs:List (Nat×Obj)
 G:Gs->Prop
structure jS(E:Env)(w:World)(F:Gs):Prop where
 le:Gs.le E.F0 F
 old:∀b,b<E.w0.heap.size->F b=E.F0 b
 fits:Fits F w
 ext:SX E.w0 w
 bx:∀k∈E.bs,w.heap[k.1]?=some k.2/\E.w0.heap.size<=k.1/\F k.1=none
 nd:(E.bs.map (·.1)).Nodup
 g:∀F',Gs.le F F'->E.G F'
def St(E:Env)(w:World):Prop:=∃F,jS E w F
theorem jS.drew{E:Env}(h:jS E w F):jS E w.drew F:=⟨h.le,h.old,h.fits.drew,h.ext.drew,h.bx,h.nd,h.g⟩
theorem St.drew{E:Env}(h:St E w):St E w.drew:=h.imp λ_ h=>h.drew
theorem jS.hG{E:Env}(h:jS E w F):E.G F:=h.g F (Gs.le_refl F)
theorem St.start(b:Fits F w){G:Gs->Prop}(a:∀F',Gs.le F F'->G F'):St ⟨w,F,[],G⟩ w :=
 ⟨F,Gs.le_refl F,λ_ _=>rfl,b,SX.refl w,λ_ h=>(by cases h),List.nodup_nil,a⟩
theorem St.imp{G':Gs->Prop}(h:St ⟨w0,F0,bs,G⟩ w)(hb:bs'.Sublist bs)(b:∀F,G F->G' F):St ⟨w0,F0,bs',G'⟩ w:=by
 obtain⟨F,h⟩:=h;exact⟨F,h.le,h.old,h.fits,h.ext,λk hk=>h.bx k (hb.subset hk),(hb.map _).nodup h.nd,λF' a=>b F' (h.g F' a)⟩
theorem St.B5{G':Gs->Prop}(h:St ⟨w0,F0,bs,G⟩ w)(a:∀F,G F->G' F):St ⟨w0,F0,bs,G'⟩ w:=h.imp (eZ _) a
theorem TA{x:α}{l r:List α}(h:(l++x::r).Nodup):x∉l++r/\(l++r).Nodup:=by
 have h1:=h;rw[fP]at h1;obtain⟨a,b,c⟩:=h1;obtain⟨d,e⟩:=List.nodup_cons.1 b;refine⟨λhx=>?_,?_⟩
 ·rcases List.mem_append.1 hx with hx | hx
  ·exact c x hx x tJ rfl
  exact d hx
 rw[fP];exact⟨a,e,λy hy z hz=>c y hy z (by simp[hz])⟩
theorem St.alloc(h:St ⟨w0,F0,bs,G⟩ w)(o:Obj)(j:∀c fr,o≠.cells c 297 fr):St ⟨w0,F0,(w.heap.size,o)::bs,G⟩ (w.alloc o):=by
 obtain⟨F,h⟩:=h;have f:∀k∈bs,k.1≠w.heap.size:=λk hk e=>by
  have:=(h.bx k hk).1;rw[e,ab (au _)]at this;cases this
 refine⟨F,⟨h.le,h.old,⟨λb c T hb=>?_,λb c fr hb=>?_⟩,h.ext.alloc o,λk hk=>?_,?_,h.g⟩⟩
 ·obtain⟨fr,e⟩:=h.fits.row b c T hb;exact⟨fr,by rw[eL _ _ _ (h.fits.lt hb)];exact e⟩
 ·rcases av b w.heap.size with g | g
  ·rw[eL _ _ _ g]at hb;exact h.fits.all b c fr hb
  have a:(w.heap.push o)[b]?=some (.cells c 297 fr):=hb;rw[Array.getElem?_push]at a;split at a
  ·exact absurd (ay a) (j c fr)
  rw[ab g]at a;cases a
 ·rcases List.mem_cons.1 hk with rfl | hk
  ·exact⟨by show(w.heap.push o)[w.heap.size]?=_;simp,h.ext.size,h.fits.none (au _)⟩
  obtain⟨h1,h2,h3⟩:=h.bx k hk;have i:k.1<w.heap.size:=by
   rcases av k.1 w.heap.size with g | g
   ·exact g
   rw[ab g]at h1;cases h1
  exact⟨by rw[eL _ _ _ i];exact h1,h2,h3⟩
 show(w.heap.size::bs.map (·.1)).Nodup;refine List.nodup_cons.2 ⟨λhm=>?_,h.nd⟩;obtain⟨k,hk,e⟩:=List.mem_map.1 hm;exact f k hk e
theorem jS.freeze{pre post:List (Nat×Obj)}{c:Array Value}(h:jS ⟨w0,F0,pre++(b,.cells c T fr)::post,G⟩ w F):
  jS ⟨w0,F0,pre++post,G⟩ w (λi=>if i=b then some (c,T)else F i)/\Gs.le F (λi=>if i=b then some (c,T)else F i):=by
 obtain⟨h1,h2,h3⟩:=h.bx (b,.cells c T fr) tJ;have f:Gs.le F (λi=>if i=b then some (c,T)else F i):=λi x hx=>by
  by_cases e:i=b
  ·subst e;rw[h3]at hx;cases hx
  show(if i=b then _ else _)=_;rw[if_neg e];exact hx
 have j:=h.nd;simp only[bp,bR]at j;have a:=(TA j);refine⟨⟨Gs.le_trans h.le f,λi hi=>?_,⟨λi o T' hi=>?_,λi o n hi=>?_⟩,h.ext,λk hk=>?_,?_,λF' m=>h.g F' (Gs.le_trans f m)⟩,f⟩
 ·have:i≠b:=by rintro rfl;exact absurd hi (Nat.not_lt.2 h2)
  rw[if_neg this];exact h.old i hi
 ·by_cases e:i=b
  ·subst e;rw[if_pos rfl]at hi;cases hi;exact⟨fr,h1⟩
  rw[if_neg e]at hi;exact h.fits.row i o T' hi
 ·by_cases e:i=b
  ·subst e;have:=h1.symm.trans hi;cases this;rw[if_pos rfl]
  rw[if_neg e];exact h.fits.all i o n hi
 ·obtain⟨y,u,s⟩:=h.bx k (by
   rcases List.mem_append.1 hk with h | h
   ·simp[h]
   simp[h])
  refine⟨y,u,?_⟩;have l:k.1≠b:=by
   rintro rfl;refine a.1 ?_;rw[<-bp];exact fB hk
  rw[if_neg l];exact s
 show((pre++post).map (·.1)).Nodup;rw[bp];exact a.2
theorem St.freeze(pre:List (Nat×Obj)){post:List (Nat×Obj)}{b:Nat}{c:Array Value}{T:TypeId}{fr:Nat×Nat}{G:Gs->Prop}{w:World}(h:St ⟨w0,F0,pre++(b,.cells c T fr)::post,G⟩ w):
  St ⟨w0,F0,pre++post,λF=>G F/\F b=some (c,T)⟩ w:=by
 obtain⟨F,h⟩:=h;obtain⟨h1,f⟩:=h.freeze;exact⟨_,h1.le,h1.old,h1.fits,h1.ext,h1.bx,h1.nd,λF' a=>⟨h1.g F' a,a b _ (by show(if b=b then _ else _)=_;rw[if_pos rfl])⟩⟩
theorem St.write(pre:List (Nat×Obj)){post:List (Nat×Obj)}{b:Nat}{o l:Obj}{G:Gs->Prop}{w w':World}(h:St ⟨w0,F0,pre++(b,o)::post,G⟩ w)
  (f:w'.heap=w.heap.setIfInBounds b l/\w'.os=w.os/\w'.tape=w.tape/\w'.output=w.output/\w'.drawn=w.drawn) (A:∀c fr,l≠.cells c 297 fr):St ⟨w0,F0,pre++(b,l)::post,G⟩ w':=by
 obtain⟨F,h⟩:=h;obtain⟨h1,h2,h3⟩:=h.bx (b,o) tJ;have x:b<w.heap.size:=by
  rcases av b w.heap.size with g | g
  ·exact g
  rw[ab g]at h1;cases h1
 have a:∀i,i≠b->w'.heap[i]?=w.heap[i]?:=λi hi=>by rw[f.1,aM (fm hi)]
 have s:w'.heap[b]?=some l:=by rw[f.1];simp[x]
 have z:w'.heap.size=w.heap.size:=by rw[f.1];simp
 have j:=h.nd;simp only[bp,bR]at j;have m:=(TA j);refine⟨F,⟨h.le,h.old,⟨λi c T hi=>?_,λi c fr hi=>?_⟩,⟨Ext.QAo h.ext.toBelow ?_ ?_ ?_ ?_ ?_,λd=>by rw[f.2.2.2.2];exact h.ext.dr d⟩,λk hk=>?_,?_,h.g⟩⟩
 ·have:i≠b:=by rintro rfl;rw[h3]at hi;cases hi
  rw[a i this];exact h.fits.row i c T hi
 ·by_cases e:i=b
  ·subst e;rw[s]at hi;exact absurd (ay hi) (A c fr)
  rw[a i e]at hi;exact h.fits.all i c fr hi
 ·exact f.2.1
 ·exact f.2.2.1
 ·exact f.2.2.2.1
 ·omega
 ·intro i hi;exact a i (by rintro rfl;exact absurd hi (Nat.not_lt.2 h2))
 ·have u:k=(b,l)\/k∈pre++post:=by
   rcases List.mem_append.1 hk with h | h
   ·exact .inr (by simp[h])
   rcases List.mem_cons.1 h with h | h
   ·exact .inl h
   exact .inr (by simp[h])
  rcases u with rfl | n
  ·exact⟨s,h2,h3⟩
  obtain⟨D,C,B⟩:=h.bx k (by
   rcases List.mem_append.1 n with h | h
   ·simp[h]
   simp[h])
  have y:k.1≠b:=by
   rintro rfl;refine m.1 ?_;rw[<-bp];exact fB n
  exact⟨by rw[a _ y];exact D,C,B⟩
 show((pre++(b,l)::post).map (·.1)).Nodup;simp only[bp,bR];exact j
end
variable{m:Sl}
section
variable[Dr][df:Df]
section
variable{P:Program}{Q:Exit->Act->World->Prop}{N:Nat}{m:Sl}{E:Env}
def Fin(Q:Exit->Act->World->Prop)(e:Exit)(N:Nat)(m:Sl)(E:Env):Prop:=∀a w,Ja N m a->St E w->Q e a w
def J(P:Program)(c:Code)(Q:Exit->Act->World->Prop)(N:Nat)(m:Sl)(E:Env):Prop:=∀a w,Ja N m a->St E w->c.wp P Q a w
def JS(P:Program)(b:Array Oper)(Q:Exit->Act->World->Prop)(l:List Oper)(N:Nat)(m:Sl)(E:Env):Prop:=∀a w,Ja N m a->St E w->wpList P b Q l a w
def JD(P:Program)(b:Array Oper)(Q:Exit->Act->World->Prop)(E0:Env)(l:List Oper)(N:Nat)(m:Sl)(E:Env):Prop:=(∀w,St E w->St E0 w)->∀a w,Ja N m a->St E w->FF P b Q (St E0) l a w
theorem QG{x y:Code}(h:J P x (Exit.then (y.wp P Q) Q) N m E):J P (.seq x y) Q N m E:=λa w ha b=>wp_seq (h a w ha b)
theorem QV{b:Nat}{c:Code}(h:J P c (bc b Q) N m E):J P (.block b c) Q N m E:=λa w ha f=>wp_block (h a w ha f)
theorem QN(h:Fin Q .normal N m E):J P .skip Q N m E:=λa w ha b=>wp_skip (h a w ha b)
theorem Qx{b:Nat}(h:Fin Q (.exit b) N m E):J P (.exit b) Q N m E:=λa w ha c=>wp_exit (h a w ha c)
theorem QX(h:Fin Q .ret N m E):J P .ret Q N m E:=λa w ha b=>wp_ret (h a w ha b)
theorem QQ{c:Operand}{x y:Code}{t:Bool}(hc:ev m c=some (.bool t))(ht:t=true->J P x Q N m E)(f:t=false->J P y Q N m E):J P (.cond c x y) Q N m E :=
 λa w ha b=>wp_cond_split (ha.ev hc) (λh=>ht h a w ha b) λh=>f h a w ha b
theorem Yj{c:Operand}{x y:Code}(hc:ev m c=some (.bool false))(h:J P y Q N m E):J P (.cond c x y) Q N m E:=QQ hc (λh=>by cases h) λ_=>h
theorem QC{y:Code}(h:J P y Q N m E):Fin (Exit.then (y.wp P Q) Q) .normal N m E:=h
theorem QY{a:Nat}(h:Fin Q (.exit a) N m E):Fin (Exit.then K Q) (.exit a) N m E:=h
theorem Q6(h:Fin Q .ret N m E):Fin (Exit.then K Q) .ret N m E:=h
theorem Qj{a:Nat}(h:Fin Q .normal N m E):Fin (bc a Q) .normal N m E:=h
theorem Qv{a:Nat}(h:Fin Q .ret N m E):Fin (bc a Q) .ret N m E:=h
theorem QZ{b:Nat}(h:Fin Q .normal N m E):Fin (bc b Q) (.exit b) N m E:=λa w ha c=>by simp only[bc,if_true];exact h a w ha c
theorem QO{c b:Nat}(f:aX b c=false)(h:Fin Q (.exit b) N m E):Fin (bc c Q) (.exit b) N m E:=λa w ha g=>by
 have:b≠c:=by rintro rfl;simp at f
 simp only[bc,if_neg this];exact h a w ha g
def Cg{ι:Type}(N:Nat)(w0:World)(F0:Gs)(M:ι->Sl)(B:ι->List (Nat×Obj))(H:ι->Gs->Prop)(μ:ι->Nat)(i:ι)(a:Act)(w:World):Prop :=
 ∃j,μ j<μ i/\Ja N (M j) a/\St ⟨w0,F0,B j,H j⟩ w
theorem YB{c:Code}(M:ι->Sl)(B:ι->List (Nat×Obj))(H:ι->Gs->Prop)(μ:ι->Nat)(f:ι)
  (hm:KN m (M f)) (hb:(B f).Sublist bs) (k:∀F,G F->H f F)
  (b:∀i,J P c (Exit.then (Cg N w0 F0 M B H μ i) Q) N (M i) ⟨w0,F0,B i,H i⟩):J P (.loop c) Q N m ⟨w0,F0,bs,G⟩:=by
 intro a w ha g;refine wp_loop_ghost (λn a w=>∃i,μ i=n/\Ja N (M i) a/\St ⟨w0,F0,B i,H i⟩ w) (μ f) ⟨f,rfl,ha.sub hm,g.imp hb k⟩ ?_;rintro n a w ⟨i,rfl,ha,g⟩;refine wp_mono (b i a w ha g) ?_;intro e l w' h;cases e with
 |normal=>obtain⟨j,h1,h2,h3⟩:=h;exact⟨μ j,h1,j,rfl,h2,h3⟩
 |_=>exact h
theorem Ql{M:ι->Sl}{B:ι->List (Nat×Obj)}{H:ι->Gs->Prop}{μ:ι->Nat}{i:ι}(j:ι)(b:μ j<μ i)
  (hm:KN m (M j)) (hb:(B j).Sublist bs) (f:∀F,G F->H j F):Fin (Exit.then (Cg N w0 F0 M B H μ i) Q) .normal N m ⟨w0,F0,bs,G⟩ :=
 λa w ha c=>⟨j,b,ha.sub hm,c.imp hb f⟩
theorem QB{b:Nat}{l:List Oper}(h:JS P l.toArray Q l N m E):J P (.region b l.toArray false) Q N m E:=λa w ha c=>wp_region_lit (h a w ha c)
variable{ops:Array Oper}{l:List Oper}{E0:Env}
theorem QE(h:Fin Q .normal N m E):JS P ops Q [] N m E:=h
theorem OI(h:∀a w,Ja N m a->St E w->K a w):JD P ops (ZV K) E0 [] N m E:=λ_=>h
def Qt(P:Program)(N:Nat)(m:Sl)(S:World->Prop)(o:Op)(ty:TypeId)(v:Value):Prop:=∀a w d pos aft g,Ja N m a->S w->(execOp a.eval ⟨d,o,ty,pos,aft,g⟩).run P w = .ok (.value v) w
variable{d:Nat}{o:Op}{ty:TypeId}{pos:String}{aft:Array Edge}{v:Value}
theorem QA(h:Qt P N m (St E) o ty v)(k:JS P ops Q l N ((d,v)::m) E)(hd:J5 N (some d)=true:=by rfl):JS P ops Q (⟨some d,o,ty,pos,aft,none⟩::l) N m E:=by
 intro a w ha b;refine wpList_plain rfl λK c=>?_;unfold bN;rw[h a w _ _ _ _ ha b];exact c _ _ (k _ w (ha.put hd v) b)
theorem QK(h:Qt P N m (St E0) o ty v)(k:JD P ops Q E0 l N ((d,v)::m) E)(hq:J2 o=true:=by rfl)(hd:J5 N (some d)=true:=by rfl):JD P ops Q E0 (⟨some d,o,ty,pos,aft,none⟩::l) N m E:=by
 intro f a w ha c;exact .inl ⟨hq,v,.inl ⟨rfl,λw' b=>h a w' _ _ _ _ ha b⟩,k f _ w (ha.put hd v) c⟩
theorem Dw(ha:Ja N m a){g t:Nat}{b:Bool}(c:(ops[g]?).bind (·.dst)=some t)(hb:look m t=some (.bool b)):yielded ops a.tmps g=some b:=by
 unfold yielded;rw[c];have:=ha.get t _ hb;simp[this]
theorem QCY{d:Option Tmp}{g t:Nat}{b c:Bool}(h:(ops[g]?).bind (·.dst)=some t)(hb:look m t=some (.bool b))(ht:b=c->JS P ops Q (⟨d,o,ty,pos,aft,none⟩::l) N m E)(i:b=!c->JS P ops Q l N (upd m d undef) E)
  (hd:J5 N d=true:=by rfl):JS P ops Q (⟨d,o,ty,pos,aft,some (g,c)⟩::l) N m E:=by
 intro a w ha f;unfold wpList;have hy:=Dw ha h hb;by_cases e:b=c
 ·have:=ht e a w ha f;unfold wpList at this;rw[if_pos (by simp[ao])]at this;rw[if_pos (by simp[ao,hy,e])];exact this
 rw[if_neg (by simp[ao,hy,e])];exact i (by cases b<;>cases c<;>simp_all) _ w (ha.put hd undef) f
theorem QFy{d:Option Tmp}{g t:Nat}{b c:Bool}(i:(ops[g]?).bind (·.dst)=some t)(hb:look m t=some (.bool b))(ht:b=c->JD P ops Q E0 (⟨d,o,ty,pos,aft,none⟩::l) N m E)(j:b=!c->JD P ops Q E0 l N (upd m d undef) E)
  (hd:J5 N d=true:=by rfl):JD P ops Q E0 (⟨d,o,ty,pos,aft,some (g,c)⟩::l) N m E:=by
 intro h a w ha f;have hy:=Dw ha i hb;by_cases e:b=c
 ·rcases ht e h a w ha f with ⟨h1,v,h2,h3⟩ | ⟨h1,h2⟩
  ·refine .inl ⟨h1,v,?_,h3⟩;rcases h2 with ⟨_,h2⟩ | ⟨h2,_⟩
   ·exact .inl ⟨by simp[ao,hy,e],h2⟩
   simp[ao]at h2
  refine .inr ⟨h1,?_⟩;rw[if_pos (by simp[ao])]at h2;rw[if_pos (by simp[ao,hy,e])];exact h2
 have hr:=j (by cases b<;>cases c<;>simp_all) h _ w (ha.put hd undef) f;cases hq:J2 o with
 |true=>exact .inl ⟨hq,undef,.inr ⟨by simp[ao,hy,e],rfl⟩,hr⟩
 |false =>
  refine .inr ⟨hq,?_⟩;rw[if_neg (by simp[ao,hy,e])];exact⟨h w f,hr⟩
end
end
section
variable[Dr][df:Df]
def QHv(d:TypeDesc):Bool:=match d with | .struct _ | .array _ _=>true | _=>false
def Z5(P:Program)(T:TypeId):Option (Bool×Nat):=match P.underlying T,P.info? T with
 |some d,some i=>some (QHv d,i.size)
 |_,_=>none
theorem Tl(h:Z5 P T=some (g,n))(w:World):(isAgg T).run P w = .ok g w:=by
 unfold Z5 at h;split at h
 ·rename_i d i hd hi;cases h;unfold isAgg;rw[aj,run_underlying hd w];cases d<;>rfl
 cases h
theorem K4(h:Z5 P T=some (g,n))(w:World):(sizeOf T).run P w = .ok n w:=by
 unfold Z5 at h;split at h
 ·rename_i d i hd hi;cases h;simp[sizeOf,typeInfo,hi]
 cases h
def Yv(P:Program)(T:TypeId)(f:Nat):Option (Nat×TypeId):=match P.underlying T with
 |some (.struct a)=>match a[f]? with
  |some x=>some (x.offset,x.type)
  |none=>none
 |_=>none
inductive R7:List Value->Nat->List Value->Prop
 |nil {l:List Value}:R7 l 0 []
 |here {x:Value} {l vs:List Value}:R7 l 0 vs->R7 (x::l) 0 (x::vs)
 |skip {x:Value} {l vs:List Value} {n:Nat}:R7 l n vs->R7 (x::l) (n+1) vs
theorem R7.at{vs:List Value}(h:R7 l n vs):∀(j:Nat) (v:Value),vs[j]?=some v->l[n+j]?=some v:=by
 induction h with
 |nil=>intro j v a;simp at a
 |here h ih =>
  intro j v a;cases j with
  |zero=>simpa using a
  |succ j =>
   have:=ih j v (by simpa using a);rw[show 0+(j+1)=(0+j)+1 by omega];simpa using this
 |skip h ih =>
  intro j v a;have:=ih j v a;rw[eH];simpa using this
inductive VG:List Value->Nat->List Value->List Value->Prop
 |nil {l:List Value}:VG l 0 [] l
 |here {x v:Value} {l vs l':List Value}:VG l 0 vs l'->VG (x::l) 0 (v::vs) (v::l')
 |skip {x:Value} {l vs l':List Value} {n:Nat}:VG l n vs l'->VG (x::l) (n+1) vs (x::l')
theorem VG.le{vs:List Value}(h:VG l n vs l'):n+vs.length<=l.length:=by
 induction h<;>simp_all<;>omega
theorem VG.eq{vs:List Value}(h:VG l n vs l'):l'=l.take n++vs++l.drop (n+vs.length):=by
 induction h with
 |nil=>simp
 |here h ih=>simp at ih ⊢;exact ih
 |skip h ih =>
  rw[eH];simpa using ih
inductive Own:List (Nat×Obj)->Nat->Obj->(Obj->List (Nat×Obj))->Prop
 |here {b:Nat} {o:Obj} {r:List (Nat×Obj)}:Own ((b,o)::r) b o λo'=>(b,o')::r
 |there {x:Nat×Obj} {l:List (Nat×Obj)} {b:Nat} {o:Obj} {f:Obj->List (Nat×Obj)}:Own l b o f->Own (x::l) b o λo'=>x::f o'
theorem Own.split{l:List (Nat×Obj)}(h:Own l b o f):∃pre post,l=pre++(b,o)::post/\∀o',f o'=pre++(b,o')::post:=by
 induction h with
 |here=>exact⟨[],_,rfl,λ_=>rfl⟩
 |there h ih =>
  obtain⟨pre,post,h1,h2⟩:=ih;exact⟨_::pre,post,by rw[h1];rfl,λo'=>by show _::_=_;rw[h2];rfl⟩
theorem Own.mem{l:List (Nat×Obj)}(h:Own l b o f):(b,o)∈l:=by
 obtain⟨pre,post,h1,_⟩:=h.split;rw[h1];simp
inductive qx:List (Nat×Obj)->Nat->Obj->List (Nat×Obj)->Prop
 |here {b:Nat} {o:Obj} {r:List (Nat×Obj)}:qx ((b,o)::r) b o r
 |there {x:Nat×Obj} {l l':List (Nat×Obj)} {b:Nat} {o:Obj}:qx l b o l'->qx (x::l) b o (x::l')
theorem qx.split{l a:List (Nat×Obj)}(h:qx l b o a):∃pre post,l=pre++(b,o)::post/\a=pre++post:=by
 induction h with
 |here=>exact⟨[],_,rfl,rfl⟩
 |there h ih =>
  obtain⟨pre,post,h1,h2⟩:=ih;exact⟨_::pre,post,by rw[h1];rfl,by rw[h2];rfl⟩
section
variable{P:Program}{Q:Exit->Act->World->Prop}{N:Nat}{m:Sl}{E E0:Env}{ops:Array Oper}{l:List Oper}{w0:World}{F0:Gs}{bs:List (Nat×Obj)}{G:Gs->Prop}
theorem St.own(h:St ⟨w0,F0,bs,G⟩ w){b:Nat}{o:Obj}{f:Obj->List (Nat×Obj)}(a:Own bs b o f):w.heap[b]?=some o:=by
 obtain⟨F,h⟩:=h;exact(h.bx (b,o) a.mem).1
section
variable{ty:TypeId}{v:Value}{S:World->Prop}
theorem QD(h:ev m x=some v):Qt P N m S (.move x) ty v:=λa w _ _ _ _ ha _=>by
 show(iZ (lf (a.eval x)) w)=_;rw[ha.ev h]
theorem QF(h:ev m x=some v):Qt P N m S (.assign x) ty v:=λa w _ _ _ _ ha _=>by
 show(iZ (lf (a.eval x)) w)=_;rw[ha.ev h]
theorem xa{c:Operand}{b:Bool}(hc:ev m c=some (.bool b))(hx:ev m x=some v)(hy:ev m y=some u):Qt P N m S (.pick c x y) ty (if b then v else u):=λa w _ _ _ _ ha _=>by
 simp only[execOp,ha.ev hc,ha.ev hx,ha.ev hy,asBool,pure_bind,aG]
theorem Qa{vs:Array Value}(h:ev m x=some (.tuple vs))(hi:vs[i]?=some v):Qt P N m S (.extract x i) ty v:=λa w _ _ _ _ ha _=>by
 simp[execOp,ha.ev h,Instr.extract,hi]
theorem Zd{p:Addr}(h:ev m x=some (.pointer (some p))):Qt P N m S (.nilCheck x) ty (.pointer (some p)):=λa w _ _ _ _ ha _=>by
 simp[execOp,ha.ev h]
theorem QH{f:Nat}{fo:Nat}{ft:TypeId}(h:ev m x=some (.pointer (some ⟨b,off,none⟩)))(hf:Yv P T f=some (fo,ft))(hs:Z5 P ft=some (g,n+1)):
  Qt P N m S (.fieldAddr T x f) ty (.pointer (some ⟨b,off+fo,none⟩)):=λa w _ _ _ _ ha _=>by
 unfold Yv at hf;split at hf
 ·rename_i fs hu;split at hf
  ·rename_i fx hx;simp only[ai,Prod.mk.injEq]at hf;obtain⟨rfl,rfl⟩:=hf;have hadd:(⟨b,off,none⟩:Addr).add fx.offset=⟨b,off+fx.offset,none⟩:=by unfold fz;split<;>simp_all
   simp[execOp,ha.ev h,Instr.fieldAt,run_underlying hu,hx,aN,fieldPlace,K4 hs,hadd]
  cases hf
 cases hf
theorem Z1(ht:Z5 P T=some (false,n)){w:World}{a:Addr}{v:Value}(h:w.cell? a=some v):(loadVar T a).run P w = .ok v w:=by
 simp[loadVar,Tl ht,h]
theorem KZ{vs:List Value}(ht:Z5 P T=some (true,n))(f:vs.length=n){w:World}{b off:Nat}(h:∀j v,vs[j]?=some v->w.cell? ⟨b,off+j,none⟩=some v):(loadVar T ⟨b,off,none⟩).run P w = .ok (.agg vs.toArray) w:=by
 have g:=run_loadCells_list (P:=P) w ⟨b,off,none⟩ vs (λj v c=>by
  have a:(⟨b,off,none⟩:Addr).add j=⟨b,off+j,none⟩:=by unfold fz;split<;>simp_all
  rw[a];exact h j v c)
 subst f;simp[loadVar,Tl ht,K4 ht,g]
theorem ZI{o:Nat}(h:w.heap[b]?=some (.cells c.toArray T fr)):w.cell? ⟨b,o,none⟩=c[o]?:=by
 simp[er,h]
theorem Qe(h:ev m x=some (.pointer (some ⟨b,off,none⟩)))(ht:Z5 P T=some (false,n))(i:Own bs b (.cells c.toArray T' fr) f)(j:R7 c off [v]):
  Qt P N m (St ⟨w0,F0,bs,G⟩) (.load T x) ty v:=λa w _ _ _ _ ha g=>by
 have hc:w.cell? ⟨b,off,none⟩=some v:=by rw[ZI (g.own i)];exact j.at 0 v I
 simp[execOp,ha.ev h,bK,aN,Z1 ht hc]
theorem QJ{vs:List Value}(h:ev m x=some (.pointer (some ⟨b,off,none⟩)))(ht:Z5 P T=some (true,n))(k:Own bs b (.cells c.toArray T' fr) f)(o:R7 c off vs)(l:vs.length=n):
  Qt P N m (St ⟨w0,F0,bs,G⟩) (.load T x) ty (.agg vs.toArray):=λa w _ _ _ _ ha g=>by
 have:=KZ ht l (w:=w) (b:=b) (off:=off) (λj v i=>by rw[ZI (g.own k)];exact o.at j v i);simp[execOp,ha.ev h,bK,aN,this]
theorem cell_of_row(h:St ⟨w0,F0,bs,G⟩ w){b o:Nat}{c:Array Value}{T:TypeId}{v:Value}(hr:∀F,G F->F b=some (c,T))(a:c[o]?=some v):w.cell? ⟨b,o,none⟩=some v:=by
 obtain⟨F,h⟩:=h;obtain⟨fr,e⟩:=h.fits.row b c T (hr F h.hG);simp[er,e,a]
theorem Zq{c:Array Value}(h:ev m x=some (.pointer (some ⟨b,off,none⟩)))(ht:Z5 P T=some (false,n))(hr:∀F,G F->F b=some (c,T'))(g:c[off]?=some v):
  Qt P N m (St ⟨w0,F0,bs,G⟩) (.load T x) ty v:=λa w _ _ _ _ ha f=>by
 simp[execOp,ha.ev h,bK,aN,Z1 ht (cell_of_row f hr g)]
theorem Aj{c:Array Value}{vs:List Value}(h:ev m x=some (.pointer (some ⟨b,off,none⟩)))(ht:Z5 P T=some (true,n))(hr:∀F,G F->F b=some (c,T'))(i:vs.length=n)(g:∀j v,vs[j]?=some v->c[off+j]?=some v):
  Qt P N m (St ⟨w0,F0,bs,G⟩) (.load T x) ty (.agg vs.toArray):=λa w _ _ _ _ ha f=>by
 have:=KZ ht i (w:=w) (b:=b) (off:=off) (λj v h=>cell_of_row f hr (g j v h));simp[execOp,ha.ev h,bK,aN,this]
end
def Enters(P:Program)(f:FuncId):Prop:=∀(args:Array Value) (w:World),(callFunc f args).run P w = .ok (.enter f args) w
theorem enters_of{f:FuncId}(h:P.funcs[f]?=some fn)(b:(fn.name == "runtime.NumGoroutine")=false)(hb:fn.body.isNone=false):Enters P f:=λargs w=>by
 have a:fn.body≠none:=by intro e;rw[e]at hb;cases hb
 simp[callFunc,h,a,beq_eq_false_iff_ne.1 b]
def SH(w:World)(F:Gs){γ:Type}(val:γ->Value)(a:γ->Gs->Prop)(e:Ending)(w':World):Prop :=
 ∃c F',e = .returned (val c)/\SX w w'/\Gs.le F F'/\(∀b,b<w.heap.size->F' b=F b)/\Fits F' w'/\∀F'',Gs.le F' F''->a c F''
def QU(P:Program)(f:FuncId)(args:List Value)(w:World)(F:Gs){γ:Type}(val:γ->Value)(a:γ->Gs->Prop):Prop :=
 Enters P f/\Calls P f args.toArray w (SH w F val a)
theorem QU.imp{f:FuncId}{args:List Value}{γ':Type}{val:γ->Value}{g:γ->Gs->Prop}{b:γ'->Value}{a:γ'->Gs->Prop}(h:QU P f args w F val g)
  (k:∀c F',g c F'->∃c',val c=b c'/\∀F'',Gs.le F' F''->a c' F''):QU P f args w F b a:=by
 refine⟨h.1,h.2.mono ?_⟩;rintro e w' ⟨c,F',rfl,h1,h2,h3,h4,h5⟩;obtain⟨c',e,i⟩:=k c F' (h5 F' (Gs.le_refl _));exact⟨c',F',by rw[e],h1,h2,h3,h4,i⟩
theorem jS.call{c:Gs}(h:jS ⟨w0,F0,bs,G⟩ w F){f:Gs->Prop}(h1:SX w w')(h2:Gs.le F c)(h3:∀b,b<w.heap.size->c b=F b)(h4:Fits c w')(h5:∀F'',Gs.le c F''->f F''):jS ⟨w0,F0,bs,λF=>G F/\f F⟩ w' c:=by
 refine⟨Gs.le_trans h.le h2,λb hb=>?_,h4,h.ext.trans h1,λk hk=>?_,h.nd,λF'' j=>⟨h.g F'' (Gs.le_trans h2 j),h5 F'' j⟩⟩
 ·rw[h3 b (fN hb h.ext.size)];exact h.old b hb
 obtain⟨i,m,l⟩:=h.bx k hk;have a:k.1<w.heap.size:=by
  rcases av k.1 w.heap.size with g | g
  ·exact g
  rw[ab g]at i;cases i
 exact⟨by rw[h1.block _ a];exact i,m,by rw[h3 _ a];exact l⟩
theorem Gr{d:Option Tmp}{args:Array Operand}{b:Array TypeId}{ty:TypeId}{pos:String}{f:FuncId}{c1 c2:Array Value}(he:Enters P f)(hx:a.eval x = .func (.func f) c1 c2):
  (execOp a.eval ⟨d,.call ⟨.value x,args,b⟩,ty,pos,aft,gd⟩).run P w = .ok (.enter f (c1++args.map a.eval++c2)) w:=by
 simp only[execOp,resolve,hx,Deferred.ofValue,aj,aG,ak,invoke];exact he _ w
section
variable{d:Nat}{ty:TypeId}{pos:String}{aft:Array Edge}{f:FuncId}{args:Array Operand}{tys:Array TypeId}{vs:List Value}{γ:Type}{val:γ->Value}{fact:γ->Gs->Prop}
theorem Ge{c1 c2:List Value}(hx:ev m x=some (.func (.func f) c1.toArray c2.toArray))(i:E3 m args.toList=some vs)(hc:∀w F,Fits F w->G F->QU P f (c1++vs++c2) w F val fact)
  (k:∀c,JS P ops Q l N ((d,val c)::m) ⟨w0,F0,bs,λF=>G F/\fact c F⟩) (hd:J5 N (some d)=true:=by rfl):JS P ops Q (⟨some d,.call ⟨.value x,args,tys⟩,ty,pos,aft,none⟩::l) N m ⟨w0,F0,bs,G⟩:=by
 intro a w ha h;obtain⟨F,g⟩:=h;have b:=hc w F g.fits g.hG;refine wpList_plain rfl λK j=>?_;unfold bN;rw[Gr b.1 (ha.ev hx)];have e:c1.toArray++args.map a.eval++c2.toArray=(c1++vs++c2).toArray:=by
  have:=ha.E3 i;have n:args.map a.eval=vs.toArray:=by rw[<-this];apply bY ;simp
  rw[n];apply bY;simp
 simp only[aL];rw[e];refine b.2.mono ?_;rintro e w' ⟨c,F',rfl,h1,h2,h3,h4,h5⟩;exact j _ _ (k c _ w' (ha.put hd (val c)) ⟨F',g.call h1 h2 h3 h4 h5⟩)
theorem QI(a:E3 m args.toList=some vs)(hc:∀w F,Fits F w->G F->QU P f vs w F val fact)
  (k:∀c,JS P ops Q l N ((d,val c)::m) ⟨w0,F0,bs,λF=>G F/\fact c F⟩) (hd:J5 N (some d)=true:=by rfl):JS P ops Q (⟨some d,.call ⟨.value (.func f),args,tys⟩,ty,pos,aft,none⟩::l) N m ⟨w0,F0,bs,G⟩ :=
 Ge (x:=.func f) (c1:=[]) (c2:=[]) I a (by simpa using hc) k hd
theorem IN{c1 c2:List Value}(hx:ev m x=some (.func (.func f) c1.toArray c2.toArray))(o:E3 m args.toList=some vs)(hc:∀w F,Fits F w->G F->QU P f (c1++vs++c2) w F val fact)
  (k:∀c,JD P ops Q E0 l N ((d,val c)::m) ⟨w0,F0,bs,λF=>G F/\fact c F⟩) (hd:J5 N (some d)=true:=by rfl):JD P ops Q E0 (⟨some d,.call ⟨.value x,args,tys⟩,ty,pos,aft,none⟩::l) N m ⟨w0,F0,bs,G⟩:=by
 intro j a w ha n;obtain⟨F,g⟩:=n;have b:=hc w F g.fits g.hG;refine .inr ⟨rfl,?_⟩;rw[if_pos (by simp[ao])];unfold bN;rw[Gr b.1 (ha.ev hx)];have e:c1.toArray++args.map a.eval++c2.toArray=(c1++vs++c2).toArray:=by
  have:=ha.E3 o;have s:args.map a.eval=vs.toArray:=by rw[<-this];apply bY ;simp
  rw[s];apply bY;simp
 simp only[aL];rw[e];refine b.2.mono ?_;rintro e w' ⟨c,F',rfl,h1,h2,h3,h4,h5⟩;have i:St ⟨w0,F0,bs,λF=>G F/\fact c F⟩ w':=⟨F',g.call h1 h2 h3 h4 h5⟩;exact⟨j w' (i.B5 λ_ h=>h.1),k c (λw h=>j w (h.B5 λ_ h=>h.1)) _ w' (ha.put hd (val c)) i⟩
theorem QR(a:E3 m args.toList=some vs)(hc:∀w F,Fits F w->G F->QU P f vs w F val fact)
  (k:∀c,JD P ops Q E0 l N ((d,val c)::m) ⟨w0,F0,bs,λF=>G F/\fact c F⟩) (hd:J5 N (some d)=true:=by rfl):JD P ops Q E0 (⟨some d,.call ⟨.value (.func f),args,tys⟩,ty,pos,aft,none⟩::l) N m ⟨w0,F0,bs,G⟩ :=
 IN (x:=.func f) (c1:=[]) (c2:=[]) I a (by simpa using hc) k hd
end
end
end
section
variable[Dr][df:Df]{P:Program}{Q:Exit->Act->World->Prop}{ops:Array Oper}{l:List Oper}{N:Nat}{m:Sl}{E:Env}{d:Nat}{v:Value}{ty:TypeId}{pos:String}{aft:Array Edge}
theorem wW(h:ev m x=some v)(k:JS P ops Q l N ((d,v)::m) E)(hd:J5 N (some d)=true:=by rfl):JS P ops Q (⟨some d,.move x,ty,pos,aft,none⟩::l) N m E:=QA (QD h) k hd
theorem wX(h:ev m x=some v)(k:JS P ops Q l N ((d,v)::m) E)(hd:J5 N (some d)=true:=by rfl):JS P ops Q (⟨some d,.assign x,ty,pos,aft,none⟩::l) N m E:=QA (QF h) k hd
theorem wY{y:Code}(h:J P y Q N m E):JS P ops (Exit.then (y.wp P Q) Q) [] N m E:=QE (QC h)
theorem wa{y:Code}{a:Nat}(h:JS P l.toArray (Exit.then (y.wp P Q) Q) l N m E):J P (.seq (.region a l.toArray false) y) Q N m E:=QG (QB h)
end
def we{l:List α}:bM l l:=eZ l
def wi{p:Prop}[Decidable p](h:decide p=true):p:=of_decide_eq_true h
def wj{p:Prop}[Decidable p](h:decide p=false):¬p:=of_decide_eq_false h
def wZ[Dr][df:Df]{P:Program}{Q:Exit->Act->World->Prop}{a:Array Oper}{N:Nat}{m:Sl}{E:Env}{d:Nat}{v:Value}{ty:TypeId}{pos:String}{aft:Array Edge}{x:Operand}{y:Code}(h:ev m x=some v)(k:J P y Q N ((d,v)::m) E)(hd:J5 N (some d)=true:=by rfl):JS P a (Exit.then (y.wp P Q) Q) [⟨some d,.assign x,ty,pos,aft,none⟩] N m E:=wX h (wY k) hd
def wb[Dr][df:Df]{P:Program}{Q:Exit->Act->World->Prop}{l:List Oper}{N:Nat}{m:Sl}{E:Env}{d:Nat}{v:Value}{ty:TypeId}{pos:String}{aft:Array Edge}{x:Operand}{y:Code}{a:Nat}(h:ev m x=some v)(k:JS P (⟨some d,.move x,ty,pos,aft,none⟩::l).toArray (Exit.then (y.wp P Q) Q) l N ((d,v)::m) E)(hd:J5 N (some d)=true:=by rfl):J P (.seq (.region a (⟨some d,.move x,ty,pos,aft,none⟩::l).toArray false) y) Q N m E:=wa (wW h k hd)
def R7.h1{a:Value}:R7 (a::l) 0 [a]:=.here (.nil)
def VG.h1{a v0:Value}:VG (a::l) 0 [v0] (v0::l):=.here (.nil)
def R7.h2{b a:Value}:R7 (b::a::l) 0 [b,a]:=.here (.here (.nil))
def VG.h2{b a v0:Value}:VG (b::a::l) 0 [v0,v1] (v0::v1::l):=.here (.here (.nil))
def R7.h3{b a:Value}:R7 (b::a::x2::l) 0 [b,a,x2]:=.here (.here (.here (.nil)))
def VG.h3{b a v0 v2:Value}:VG (b::a::x2::l) 0 [v0,v1,v2] (v0::v1::v2::l):=.here (.here (.here (.nil)))
def R7.h4{b a:Value}:R7 (b::a::x2::x3::l) 0 [b,a,x2,x3]:=.here (.here (.here (.here (.nil))))
def VG.h4{b a v0 v2:Value}:VG (b::a::x2::x3::l) 0 [v0,v1,v2,v3] (v0::v1::v2::v3::l):=.here (.here (.here (.here (.nil))))
def R7.h5{b a:Value}:R7 (b::a::x2::x3::x4::l) 0 [b,a,x2,x3,x4]:=.here (.here (.here (.here (.here (.nil)))))
def VG.h5{b a v0 v2:Value}:VG (b::a::x2::x3::x4::l) 0 [v0,v1,v2,v3,v4] (v0::v1::v2::v3::v4::l):=.here (.here (.here (.here (.here (.nil)))))
def R7.h6{b a:Value}:R7 (b::a::x2::x3::x4::x5::l) 0 [b,a,x2,x3,x4,x5]:=.here (.here (.here (.here (.here (.here (.nil))))))
def VG.h6{b a v0 v2:Value}:VG (b::a::x2::x3::x4::x5::l) 0 [v0,v1,v2,v3,v4,v5] (v0::v1::v2::v3::v4::v5::l):=.here (.here (.here (.here (.here (.here (.nil))))))
def R7.h7{b a:Value}:R7 (b::a::x2::x3::x4::x5::x6::l) 0 [b,a,x2,x3,x4,x5,x6]:=.here (.here (.here (.here (.here (.here (.here (.nil)))))))
def VG.h7{c b v0 v2 a:Value}:VG (c::b::x2::x3::x4::x5::x6::l) 0 [v0,v1,v2,v3,v4,v5,a] (v0::v1::v2::v3::v4::v5::a::l):=.here (.here (.here (.here (.here (.here (.here (.nil)))))))
def R7.h8{b a:Value}:R7 (b::a::x2::x3::x4::x5::x6::x7::l) 0 [b,a,x2,x3,x4,x5,x6,x7]:=.here (.here (.here (.here (.here (.here (.here (.here (.nil))))))))
def VG.h8{f c v0 v2 b a:Value}:VG (f::c::x2::x3::x4::x5::x6::x7::l) 0 [v0,v1,v2,v3,v4,v5,b,a] (v0::v1::v2::v3::v4::v5::b::a::l):=.here (.here (.here (.here (.here (.here (.here (.here (.nil))))))))
def R7.h9{b a:Value}:R7 (b::a::x2::x3::x4::x5::x6::x7::x8::l) 0 [b,a,x2,x3,x4,x5,x6,x7,x8]:=.here (.here (.here (.here (.here (.here (.here (.here (.here (.nil)))))))))
def VG.h9{g f v0 v2 c b a:Value}:VG (g::f::x2::x3::x4::x5::x6::x7::x8::l) 0 [v0,v1,v2,v3,v4,v5,c,b,a] (v0::v1::v2::v3::v4::v5::c::b::a::l):=.here (.here (.here (.here (.here (.here (.here (.here (.here (.nil)))))))))
def R7.h10{c b a:Value}:R7 (c::b::x2::x3::x4::x5::x6::x7::x8::a::l) 0 [c,b,x2,x3,x4,x5,x6,x7,x8,a]:=.here (.here (.here (.here (.here (.here (.here (.here (.here (.here (.nil))))))))))
def VG.h10{i h g v0 v2 f c b a:Value}:VG (i::h::x2::x3::x4::x5::x6::x7::x8::g::l) 0 [v0,v1,v2,v3,v4,v5,f,c,b,a] (v0::v1::v2::v3::v4::v5::f::c::b::a::l):=.here (.here (.here (.here (.here (.here (.here (.here (.here (.here (.nil))))))))))
def R7.h11{f c b a:Value}:R7 (f::c::x2::x3::x4::x5::x6::x7::x8::b::a::l) 0 [f,c,x2,x3,x4,x5,x6,x7,x8,b,a]:=.here (.here (.here (.here (.here (.here (.here (.here (.here (.here (.here (.nil)))))))))))
def VG.h11{k j i b v0 v2 h g f c a:Value}:VG (k::j::x2::x3::x4::x5::x6::x7::x8::i::b::l) 0 [v0,v1,v2,v3,v4,v5,h,g,f,c,a] (v0::v1::v2::v3::v4::v5::h::g::f::c::a::l):=.here (.here (.here (.here (.here (.here (.here (.here (.here (.here (.here (.nil)))))))))))
def R7.h12{g f c b a:Value}:R7 (g::f::x2::x3::x4::x5::x6::x7::x8::c::b::a::l) 0 [g,f,x2,x3,x4,x5,x6,x7,x8,c,b,a]:=.here (.here (.here (.here (.here (.here (.here (.here (.here (.here (.here (.here (.nil))))))))))))
def VG.h12{n m k f c v0 v2 j i h g b a:Value}:VG (n::m::x2::x3::x4::x5::x6::x7::x8::k::f::c::l) 0 [v0,v1,v2,v3,v4,v5,j,i,h,g,b,a] (v0::v1::v2::v3::v4::v5::j::i::h::g::b::a::l):=.here (.here (.here (.here (.here (.here (.here (.here (.here (.here (.here (.here (.nil))))))))))))
def Own.u1{a:Nat×Obj}{r:List (Nat×Obj)}:Own (a::(b,o)::r) b o (λo'=>a::(b,o')::r):=.there (.here)
def qx.u1{a:Nat×Obj}{r:List (Nat×Obj)}:qx (a::(b,o)::r) b o (a::r):=.there (.here)
def Own.u2{a:Nat×Obj}{r:List (Nat×Obj)}:Own (a::x1::(b,o)::r) b o (λo'=>a::x1::(b,o')::r):=.there (.there (.here))
def qx.u2{a:Nat×Obj}{r:List (Nat×Obj)}:qx (a::x1::(b,o)::r) b o (a::x1::r):=.there (.there (.here))
def Own.u3{c a:Nat×Obj}{r:List (Nat×Obj)}:Own (c::x1::a::(b,o)::r) b o (λo'=>c::x1::a::(b,o')::r):=.there (.there (.there (.here)))
def qx.u3{c a:Nat×Obj}{r:List (Nat×Obj)}:qx (c::x1::a::(b,o)::r) b o (c::x1::a::r):=.there (.there (.there (.here)))
def Own.u4{f c a:Nat×Obj}{r:List (Nat×Obj)}:Own (f::x1::c::a::(b,o)::r) b o (λo'=>f::x1::c::a::(b,o')::r):=.there (.there (.there (.there (.here))))
def qx.u4{f c a:Nat×Obj}{r:List (Nat×Obj)}:qx (f::x1::c::a::(b,o)::r) b o (f::x1::c::a::r):=.there (.there (.there (.there (.here))))
def Own.u5{g f c a:Nat×Obj}{r:List (Nat×Obj)}:Own (g::x1::f::c::a::(b,o)::r) b o (λo'=>g::x1::f::c::a::(b,o')::r):=.there (.there (.there (.there (.there (.here)))))
def qx.u5{g f c a:Nat×Obj}{r:List (Nat×Obj)}:qx (g::x1::f::c::a::(b,o)::r) b o (g::x1::f::c::a::r):=.there (.there (.there (.there (.there (.here)))))
def Own.u6{h g f c a:Nat×Obj}{r:List (Nat×Obj)}:Own (h::x1::g::f::c::a::(b,o)::r) b o (λo'=>h::x1::g::f::c::a::(b,o')::r):=.there (.there (.there (.there (.there (.there (.here))))))
def qx.u6{h g f c a:Nat×Obj}{r:List (Nat×Obj)}:qx (h::x1::g::f::c::a::(b,o)::r) b o (h::x1::g::f::c::a::r):=.there (.there (.there (.there (.there (.there (.here))))))
def wk{a:A0}:a=a/\True:=⟨rfl,trivial⟩
def wm{b:A0}{a:A1}:b=b/\a=a/\True:=⟨rfl,rfl,trivial⟩
def wu{c:A0}{b:A1}{a:A2}:c=c/\b=b/\a=a/\True:=⟨rfl,rfl,rfl,trivial⟩
def wv{f:A0}{c:A1}{b:A2}{a:A3}:f=f/\c=c/\b=b/\a=a/\True:=⟨rfl,rfl,rfl,rfl,trivial⟩
def wy{g:A0}{f:A1}{c:A2}{b:A3}{a:A4}:g=g/\f=f/\c=c/\b=b/\a=a/\True:=⟨rfl,rfl,rfl,rfl,rfl,trivial⟩
def wz{h:A0}{g:A1}{f:A2}{c:A3}{b:A4}{a:A5}:h=h/\g=g/\f=f/\c=c/\b=b/\a=a/\True:=⟨rfl,rfl,rfl,rfl,rfl,rfl,trivial⟩
def w6{i:A0}{h:A1}{g:A2}{f:A3}{c:A4}{b:A5}{a:A6}:i=i/\h=h/\g=g/\f=f/\c=c/\b=b/\a=a/\True:=⟨rfl,rfl,rfl,rfl,rfl,rfl,rfl,trivial⟩
def w8{j:A0}{i:A1}{h:A2}{g:A3}{f:A4}{c:A5}{b:A6}{a:A7}:j=j/\i=i/\h=h/\g=g/\f=f/\c=c/\b=b/\a=a/\True:=⟨rfl,rfl,rfl,rfl,rfl,rfl,rfl,rfl,trivial⟩
def w9{k:A0}{j:A1}{i:A2}{h:A3}{g:A4}{f:A5}{c:A6}{b:A7}{a:A8}:k=k/\j=j/\i=i/\h=h/\g=g/\f=f/\c=c/\b=b/\a=a/\True:=⟨rfl,rfl,rfl,rfl,rfl,rfl,rfl,rfl,rfl,trivial⟩
def tA{l:A0}{k:A1}{j:A2}{i:A3}{h:A4}{g:A5}{f:A6}{c:A7}{b:A8}{a:A9}:l=l/\k=k/\j=j/\i=i/\h=h/\g=g/\f=f/\c=c/\b=b/\a=a/\True:=⟨rfl,rfl,rfl,rfl,rfl,rfl,rfl,rfl,rfl,rfl,trivial⟩
def tB{n:A0}{m:A1}{l:A2}{k:A3}{j:A4}{i:A5}{h:A6}{g:A7}{f:A8}{c:A9}{b:Type}{a:b}:n=n/\m=m/\l=l/\k=k/\j=j/\i=i/\h=h/\g=g/\f=f/\c=c/\a=a/\True:=⟨rfl,rfl,rfl,rfl,rfl,rfl,rfl,rfl,rfl,rfl,rfl,trivial⟩
def tC{s:A0}{o:A1}{n:A2}{m:A3}{l:A4}{k:A5}{j:A6}{i:A7}{h:A8}{g:A9}{f:Type}{b:f}{c:Type}{a:c}:s=s/\o=o/\n=n/\m=m/\l=l/\k=k/\j=j/\i=i/\h=h/\g=g/\b=b/\a=a/\True:=⟨rfl,rfl,rfl,rfl,rfl,rfl,rfl,rfl,rfl,rfl,rfl,rfl,trivial⟩
section
variable[Dr][df:Df]
section
variable{P:Program}{Q:Exit->Act->World->Prop}{N:Nat}{m:Sl}{E E0:Env}{ops:Array Oper}{l:List Oper}{w0:World}{F0:Gs}{bs:List (Nat×Obj)}{G:Gs->Prop}
theorem St.pure{p:Prop}(h:St ⟨w0,F0,bs,G⟩ w)(hp:∀w F,Fits F w->G F->p):p:=by
 obtain⟨F,h⟩:=h;exact hp w F h.fits h.hG
theorem XV{c:Code}(p:Prop)(hp:∀w F,Fits F w->G F->p)(k:p->J P c Q N m ⟨w0,F0,bs,G⟩):J P c Q N m ⟨w0,F0,bs,G⟩:=λa w ha b=>k (b.pure hp) a w ha b
theorem JQ(p:Prop)(hp:∀w F,Fits F w->G F->p)(k:p->JS P ops Q l N m ⟨w0,F0,bs,G⟩):JS P ops Q l N m ⟨w0,F0,bs,G⟩:=λa w ha b=>k (b.pure hp) a w ha b
theorem Yl(p:Prop)(hp:∀w F,Fits F w->G F->p)(k:p->JD P ops Q E0 l N m ⟨w0,F0,bs,G⟩):JD P ops Q E0 l N m ⟨w0,F0,bs,G⟩:=λc a w ha b=>k (b.pure hp) c a w ha b
theorem QCa{e:Exit}(p:Prop)(hp:∀w F,Fits F w->G F->p)(k:p->Fin Q e N m ⟨w0,F0,bs,G⟩):Fin Q e N m ⟨w0,F0,bs,G⟩:=λa w ha b=>k (b.pure hp) a w ha b
def XI(P:Program)(T:TypeId):Option (List Value):=match P.info? T with
 |some i=>i.zero.map λv=>v.cells.toList
 |none=>none
theorem Af(h:XI P T=some z)(w:World):∃v,(zeroValue T).run P w = .ok v w/\v.cells=z.toArray:=by
 unfold XI at h;split at h
 ·rename_i i hi;cases hz:i.zero with
  |none=>rw[hz]at h;cases h
  |some v =>
   rw[hz]at h;simp only[aQ,ai]at h;exact⟨v,by simp[zeroValue,typeInfo,hi,hz],by rw[<-h]⟩
 cases h
def Hi(T:TypeId):Bool:=!(aX T 297)
theorem ZN(h:Hi T=true){c:Array Value}{fr:Nat×Nat}:∀c' fr',Obj.cells c T fr≠.cells c' 297 fr':=by
 intro c' fr' e;injection e with _ h2 _;subst h2;simp[Hi]at h
section
variable{d:Nat}{ty:TypeId}{pos:String}{aft:Array Edge}
theorem upon_value{o:Oper}{v:Value}(h:(execOp a.eval o).run P w = .ok (.value v) w')(k:K (a.put o.dst v) w'):o.wp P a w K Q:=by
 unfold bN;rw[h];exact k
theorem upon_skip{o:Oper}(h:(execOp a.eval o).run P w = .ok .skip w')(k:K (a.put o.dst undef) w'):o.wp P a w K Q:=by
 unfold bN;rw[h];exact k
theorem Mt{g:Option (Nat×Bool)}(hz:XI P T=some z):
  (execOp a.eval ⟨some d,.alloc T,ty,pos,aft,g⟩).run P w = .ok (.value (.pointer (some ⟨w.heap.size,0,none⟩))) (w.alloc (.cells z.toArray T)):=by
 obtain⟨v,h1,h2⟩:=Af hz w;simp only[execOp,Instr.alloc,aj,h1,ak,aG,newVar,newRow,run_newObj,h2];rfl
theorem Qc(hz:XI P T=some z)(k:∀b,JS P ops Q l N ((d,.pointer (some ⟨b,0,none⟩))::m) ⟨w0,F0,(b,.cells z.toArray T (0,0))::bs,G⟩)(hu:Hi T=true:=by rfl)(hd:J5 N (some d)=true:=by rfl):
  JS P ops Q (⟨some d,.alloc T,ty,pos,aft,none⟩::l) N m ⟨w0,F0,bs,G⟩:=λa w ha c =>
 wpList_plain rfl λ_ f=>upon_value (Mt hz) (f _ _ (k _ _ _ (ha.put hd _) (c.alloc _ (ZN hu))))
theorem C1{v:Value}{g:Option (Nat×Bool)}(hx:a.eval x=v):
  (execOp a.eval ⟨some d,.box T x,ty,pos,aft,g⟩).run P w = .ok (.value (.pointer (some ⟨w.heap.size,0,none⟩))) (w.alloc (.cells v.cells T)):=by
 subst hx;simp only[execOp,Instr.box,aj,ak,aG,newVar,newRow,run_newObj];rfl
theorem Qp{vs:List Value}{v:Value}(hx:ev m x=some v)(f:v.cells=vs.toArray)(k:∀b,JS P ops Q l N ((d,.pointer (some ⟨b,0,none⟩))::m) ⟨w0,F0,(b,.cells vs.toArray T (0,0))::bs,G⟩)(hu:Hi T=true:=by rfl)(hd:J5 N (some d)=true:=by rfl):
  JS P ops Q (⟨some d,.box T x,ty,pos,aft,none⟩::l) N m ⟨w0,F0,bs,G⟩:=λa w ha c =>
 wpList_plain rfl λ_ g=>upon_value (C1 (ha.ev hx)) (g _ _ (k _ _ _ (ha.put hd _) (f ▸ c.alloc _ (ZN hu))))
theorem P4{t e:TypeId}{sz:Nat}{parts:Array (Nat×Value)}{cs:Array Value}(ht:P.underlying t=some (.slice e))(a:Z5 P e=some (g,sz))(hz:XI P e=some z)(f:n*sz<=2^24)(b:n*sz≠0)
  (c:bX (λi=>some (i*sz,sz)) ((fl (n*sz)).map λi=>z.toArray[i%z.toArray.size]!) parts.toList=some cs) :
  (fS t n parts).run P w = .ok (.slice (some ⟨w.heap.size,0,none⟩) n n) (w.alloc (.cells cs e)):=by
 obtain⟨v,h1,h2⟩:=Af hz w;have h3:¬n*sz>2^24:=O;simp only[fS,aj,run_underlying ht,ak,K4 a,if_neg h3,aG,if_neg b,h1,h2,c,newRow,run_newObj];rfl
def GC(m:Sl):List (Nat×Operand)->Option (List (Nat×Value))
 |[]=>some []
 |(i,x)::r=>match ev m x,GC m r with
  |some v,some l=>some ((i,v)::l)
  |_,_=>none
theorem Ja.parts(h:Ja N m a):∀ {l:List (Nat×Operand)} {vs:List (Nat×Value)},GC m l=some vs->l.map (λ(i,x)=>(i,a.eval x))=vs
 |[],vs,e=>by simpa[GC]using e
 |(i,x)::l,vs,e=>by
  unfold GC at e;cases hx:YtjcphjpkimmmjaaGreatDoor.ev m x with
  |none=>rw[hx]at e;simp at e
  |some v =>
   cases b:GC m l with
   |none=>rw[hx,b]at e;simp at e
   |some r =>
    rw[hx,b]at e;simp only[ai]at e;subst e;rw[bR,h.parts b];show(i,a.eval x)::r=_;rw[h.ev hx]
def Kg(sz:Nat):Nat->List (Nat×Value)->Option (List Value)
 |_,[]=>some []
 |k,(i,v)::r=>if i=k/\v.cells.size=sz then(Kg sz (k+1) r).map (v.cells.toList++·)else none
theorem DK{sz:Nat}:∀(parts:List (Nat×Value)) (k:Nat) (cs:List Value) (cur:Array Value),Kg sz k parts=some cs->k*sz+cs.length=cur.size ->
  bX (λi=>some (i*sz,sz)) cur parts=some (cur.toList.take (k*sz)++cs).toArray
 |[],k,cs,cur,h,hl=>by
  simp only[Kg,ai]at h;subst h;simp only[List.length_nil,fh]at hl;simp[bX,ae,hl]
 |(i,v)::r,k,cs,cur,h,hl=>by
  simp only[Kg]at h;split at h
  ·rename_i hk;obtain⟨rfl,hv⟩:=hk;cases hr:Kg sz (i+1) r with
   |none=>rw[hr]at h;cases h
   |some cs' =>
    rw[hr]at h;simp only[aQ,ai]at h;subst h;have hlen:v.cells.toList.length=sz:=by simpa using hv
    rw[aH,hlen]at hl;have hmul:(i+1)*sz=i*sz+sz:=by rw[aE,jg]
    unfold bX;simp only[hv,ne_eq,not_true_eq_false,iC,decide_false,decide_eq_true_eq];rw[if_neg O];have hfold:∀(l:List Value) (j:Nat) (c:Array Value),i*sz+j+l.length<=c.size ->
      ((l.zipIdx j).foldl (λcs (x:Value×Nat)=>cs.setIfInBounds (i*sz+x.2) x.1) c)=(c.toList.take (i*sz+j)++l++c.toList.drop (i*sz+j+l.length)).toArray:=by
     intro l
     induction l with
     |nil=>intro j c hc;simp
     |cons x l ih =>
      intro j c hc;simp only[fV,eN,aO]at hc ⊢;rw[ih (j+1) _ tK];congr 1;apply List.ext_getElem?;intro q;simp only[Array.toList_setIfInBounds,ew,aH,aq,List.length_set,Array.length_toList,aO];by_cases h1:q<i*sz+j
      ·have e1:min (i*sz+(j+1)) c.size=i*sz+j+1:=O;have e2:min (i*sz+j) c.size=i*sz+j:=O;have e3:q<i*sz+j+1+l.length:=O;have e4:q<i*sz+j+(l.length+1):=O;have e5:q<i*sz+j+1:=O;simp only[e1,e2,h1,e3,e4,e5,if_true];simp[show q<i*sz+(j+1) by omega,h1,show i*sz+j≠q by omega]
      by_cases h2:q=i*sz+j
      ·subst h2;have e1:min (i*sz+(j+1)) c.size=i*sz+j+1:=O;have e2:min (i*sz+j) c.size=i*sz+j:=O;have hlt:i*sz+j<c.toList.length:=tK;simp only[e1,e2,Nat.lt_irrefl,if_false,bZ];simp[show i*sz+j<i*sz+j+1+l.length by omega,show i*sz+j<i*sz+j+1 by omega,show i*sz+j<c.size by omega]
      have e1:min (i*sz+(j+1)) c.size=i*sz+j+1:=O;have e2:min (i*sz+j) c.size=i*sz+j:=O;have g1:¬q<i*sz+j+1:=O;simp only[e1,e2,h1,g1,if_false];by_cases h3:q<i*sz+j+1+l.length
      ·simp only[h3,if_true,show q<i*sz+j+(l.length+1) by omega];rw[show q-(i*sz+j)=(q-(i*sz+j+1))+1 by omega,List.getElem?_cons_succ]
      simp only[h3,if_false,show ¬q<i*sz+j+(l.length+1) by omega];rw[eF,eF,List.getElem?_set_ne O];congr 1;omega
    have e:=hfold v.cells.toList 0 cur (by rw[hlen];omega);have e0:v.cells.zipIdx.foldl (λcs (x:Value×Nat)=>cs.setIfInBounds (i*sz+x.2) x.1) cur=(v.cells.toList.zipIdx 0).foldl (λcs (x:Value×Nat)=>cs.setIfInBounds (i*sz+x.2) x.1) cur:=by
     rw[<-eD];simp
    rw[e0,e];have:=DK r (i+1) cs' (cur.toList.take (i*sz+0)++v.cells.toList++cur.toList.drop (i*sz+0+v.cells.toList.length)).toArray hr (by simp[hv];omega);rw[this];congr 2;rw[<-bw];congr 1;have hl2:(cur.toList.take (i*sz)++v.cells.toList).length=(i+1)*sz:=by simp[hv];omega
    simp only[fh];rw[List.take_append_of_le_length (by rw[hl2];exact au _),<-hl2,bC]
  cases h
theorem VA{t e:TypeId}{sz:Nat}{parts:Array (Nat×Operand)}(ha:Ja N m a)(hp:GC m parts.toList=some ps)(ht:P.underlying t=some (.slice e))(f:Z5 P e=some (g,sz))(hz:XI P e=some z)
  (hc:Kg sz 0 ps=some cs) (h:cs.length=n*sz) (b:iW (n*sz) 16777216=true) (c:aX (n*sz) 0=false) :
  (execOp a.eval ⟨some d,.buildSlice t n parts,ty,pos,aft,gd⟩).run P w = .ok (.value (.slice (some ⟨w.heap.size,0,none⟩) n n)) (w.alloc (.cells cs.toArray e)):=by
 have k:(parts.map λ(i,x)=>(i,a.eval x)).toList=ps:=by simpa using ha.parts hp
 have j:=DK ps 0 cs ((fl (n*sz)).map λi=>z.toArray[i%z.toArray.size]!) hc (by simp[h]);have:=P4 (P:=P) (w:=w) (n:=n) (parts:=parts.map λ(i,x)=>(i,a.eval x)) ht f hz (tD<|fq b) (λe=>by rw[e]at c;cases c) (by rw[k];exact j);simp only[Nat.zero_mul,im,ee]at this;simp only[execOp,aj,this,ak,aG]
theorem Y2{t e:TypeId}{sz:Nat}{parts:Array (Nat×Operand)}(hp:GC m parts.toList=some ps)(ht:P.underlying t=some (.slice e))(h:Z5 P e=some (g,sz))(hz:XI P e=some z)
  (hc:Kg sz 0 ps=some cs) (j:cs.length=n*sz) (k:∀b,JS P ops Q l N ((d,.slice (some ⟨b,0,none⟩) n n)::m) ⟨w0,F0,(b,.cells cs.toArray e (0,0))::bs,G⟩) (c:iW (n*sz) 16777216=true:=by rfl) (i:aX (n*sz) 0=false:=by rfl)
  (hu:Hi e=true:=by rfl) (hd:J5 N (some d)=true:=by rfl):JS P ops Q (⟨some d,.buildSlice t n parts,ty,pos,aft,none⟩::l) N m ⟨w0,F0,bs,G⟩:=λa w ha f =>
 wpList_plain rfl λ_ o=>upon_value (VA ha hp ht h hz hc j c i) (o _ _ (k _ _ _ (ha.put hd _) (f.alloc _ (ZN hu))))
end
section
variable{d:Option Tmp}{ty:TypeId}{pos:String}{aft:Array Edge}
theorem run_storeCells_at(g:Nat)(t:TypeId):∀(vs:List Value) (i:Nat) (off:Nat) (cur l':List Value) (w:World),w.heap[g]?=some (.cells cur.toArray t (0,0))->(∀v∈vs,v.oneCell'=true)->VG cur (off+i) vs l' ->
  ∃w',(storeCells ⟨g,off,none⟩ vs i).run P w = .ok () w'/\w'.heap=w.heap.setIfInBounds g (.cells l'.toArray t (0,0))/\w'.os=w.os/\w'.tape=w.tape/\w'.output=w.output/\w'.drawn=w.drawn
 |[],i,off,cur,l',w,c,_,hp=>by
  have b:g<w.heap.size:=by rcases av g w.heap.size with h | h;exact h;rw[ab h]at c;cases c
  have e:l'=cur:=by have:=hp.eq;simpa using this
  subst e;refine⟨w,rfl,?_,rfl,rfl,rfl,rfl⟩;apply eE;intro k;by_cases e:k=g
  ·subst e;rw[c];simp[b]
  rw[aM (fm e)]
 |v::vs,i,off,cur,l',w,c,h1,hp=>by
  have u:=hp.le;simp only[aO]at u;have l:(⟨g,off,none⟩:Addr).add i=⟨g,off+i,none⟩:=by unfold fz;split<;>simp_all
  have b:g<w.heap.size:=by rcases av g w.heap.size with h | h;exact h;rw[ab h]at c;cases c
  have f:w.cell? ⟨g,off+i,none⟩=some (cur[off+i]' O):=by simp[er,c,show off+i<cur.length by omega]
  have j:w.frozen? ⟨g,off+i,none⟩=false:=by simp[fb,c]
  have o:(store ((⟨g,off,none⟩:Addr).add i) v).run P w = .ok () (w.setCell ⟨g,off+i,none⟩ v):=by
   rw[l,run_store P w _ v _ (h1 v tJ),f];simp[j]
  have a:(w.setCell ⟨g,off+i,none⟩ v).heap=w.heap.setIfInBounds g (.cells (cur.set (off+i) v).toArray t (0,0)):=by
   apply eE;intro k;by_cases e:k=g
   ·subst e;show(w.heap.modify k _)[k]?=_;rw[bB,if_pos rfl,c];simp[b]
   rw[aM (fm e)];simp[eB,bB,fm e]
  have s:VG (cur.set (off+i) v) (off+(i+1)) vs l':=by
   have m:∀(n:Nat) (cur l':List Value),VG cur n (v::vs) l'->VG (cur.set n v) (n+1) vs l':=by
    intro n
    induction n with
    |zero=>intro cur l' h;cases h with | here h=>exact .skip h
    |succ n ih=>intro cur l' h;cases h with | skip h=>exact .skip (ih _ _ h)
   exact m _ _ _ hp
  obtain⟨w',h2,h3,h4,h5,h6⟩:=run_storeCells_at g t vs (i+1) off (cur.set (off+i) v) l' (w.setCell ⟨g,off+i,none⟩ v) (by rw[a];simp[b]) (λx hx=>h1 x (by simp[hx])) s;refine⟨w',?_,?_,h4,h5,h6⟩
  ·simp only[storeCells,aj,o,ak,h2]
  rw[h3,a];simp
theorem Ms{v:Value}{vs:List Value}(hx:a.eval x = .pointer (some ⟨b,off,none⟩))(hy:a.eval y=v)(f:v.cells=vs.toArray)(ht:Z5 P T=some (g,n))(h:vs.length=n)
  (hb:w.heap[b]?=some (.cells c.toArray T' (0,0))) (hp:VG c off vs l') (h1:∀v∈vs,v.oneCell'=true) :
  ∃w',(execOp a.eval ⟨d,.store T x y,ty,pos,aft,gd⟩).run P w = .ok .skip w'/\w'.heap=w.heap.setIfInBounds b (.cells l'.toArray T' (0,0))/\w'.os=w.os/\w'.tape=w.tape/\w'.output=w.output/\w'.drawn=w.drawn:=by
 obtain⟨w',h2,h3⟩:=run_storeCells_at (P:=P) b T' vs 0 off c l' w hb h1 hp;refine⟨w',?_,h3⟩;subst h;simp[execOp,hx,hy,Instr.storeAt,aN,storeVar,f,K4 ht,h2]
def RM:List Value->Prop
 |[]=>True
 |v::r=>v.oneCell'=true/\RM r
theorem Kd:∀ {l:List Value},RM l->∀v∈l,v.oneCell'=true
 |v::l,⟨h1,h2⟩,u,hu=>by
  rcases List.mem_cons.1 hu with rfl | hu
  ·exact h1
  exact Kd h2 u hu
theorem QW{v:Value}{vs:List Value}(hx:ev m x=some (.pointer (some ⟨b,off,none⟩)))(hy:ev m y=some v)(j:v.cells=vs.toArray)(ht:Z5 P T=some (g,n))(o:vs.length=n)
  (i:Own bs b (.cells c.toArray T' (0,0)) f) (hp:VG c off vs l') (h1:RM vs) (k:JS P ops Q l N m ⟨w0,F0,f (.cells l'.toArray T' (0,0)),G⟩) (hu:Hi T'=true:=by rfl):JS P ops Q (⟨none,.store T x y,ty,pos,aft,none⟩::l) N m ⟨w0,F0,bs,G⟩:=λa w ha h =>
 wpList_plain rfl λ_ s=>by
  obtain⟨w',h2,h3⟩:=Ms (P:=P) (d:=none) (ty:=ty) (pos:=pos) (aft:=aft) (gd:=none) (ha.ev hx) (ha.ev hy) j ht o (h.own i) hp (Kd h1);obtain⟨pre,post,z,u⟩:=i.split;subst z;rw[u]at k;exact upon_skip h2 (s _ _ (k _ _ ha (h.write pre h3 (ZN hu))))
end
inductive Hm:List (Nat×Obj)->Nat->Obj->(Obj->List (Nat×Obj))->List (Nat×Obj)->Prop
 |here {b:Nat} {o:Obj} {r:List (Nat×Obj)}:Hm ((b,o)::r) b o (λo'=>(b,o')::r) r
 |there {x:Nat×Obj} {l r:List (Nat×Obj)} {b:Nat} {o:Obj} {f:Obj->List (Nat×Obj)}:Hm l b o f r->Hm (x::l) b o (λo'=>x::f o') (x::r)
theorem Hm.own{l r:List (Nat×Obj)}(h:Hm l b o f r):Own l b o f:=by
 induction h with
 |here=>exact .here
 |there h ih=>exact .there ih
theorem Hm.sub{l r:List (Nat×Obj)}(h:Hm l b o f r):∀o',r.Sublist (f o'):=by
 induction h with
 |here=>exact λ_=>fe _ _
 |there h ih=>exact λo'=>(ih o').cons_cons _
theorem JV{G0:Gs->Prop}{pos:String}{ty:TypeId}{v:Value}{vs:List Value}(hx:ev m x=some (.pointer (some ⟨b,off,none⟩)))(hy:ev m y=some v)(z:v.cells=vs.toArray)(ht:Z5 P T=some (g,n))(B:vs.length=n)
  (j:Hm bs b (.cells c.toArray T' (0,0)) f bs') (A:bs0.Sublist bs') (o:∀F,G F->G0 F) (hp:VG c off vs l') (h1:RM vs) (k:JD P ops Q ⟨w0,F0,bs0,G0⟩ l N m ⟨w0,F0,f (.cells l'.toArray T' (0,0)),G⟩) (hu:Hi T'=true:=by rfl):JD P ops Q ⟨w0,F0,bs0,G0⟩ (⟨none,.store T x y,ty,pos,aft,none⟩::l) N m ⟨w0,F0,bs,G⟩:=λ_ a w ha s=>by
  obtain⟨w',h2,h3⟩:=Ms (P:=P) (d:=none) (ty:=ty) (pos:=pos) (aft:=aft) (gd:=none) (ha.ev hx) (ha.ev hy) z ht B (s.own j.own) hp (Kd h1);have sub:∀i w,St ⟨w0,F0,f i,G⟩ w->St ⟨w0,F0,bs0,G0⟩ w:=λi w h=>h.imp (A.trans (j.sub i)) o;obtain⟨pre,post,D,C⟩:=j.own.split;subst D;have u:St ⟨w0,F0,f (.cells l'.toArray T' (0,0)),G⟩ w':=by rw[C];exact s.write pre h3 (ZN hu)
  refine .inr ⟨rfl,?_⟩;rw[if_pos (by simp[ao])];exact upon_skip h2 ⟨sub _ _ u,k (sub _) _ _ ha u⟩
theorem JG{f:Nat}{l:List Oper}(b:bs0.Sublist bs)(hm:P.follows .mixedOrders=true)(g:lexB .any l=true)(h:JD P l.toArray (ZV (Q .normal)) ⟨w0,F0,bs0,G⟩ l N m ⟨w0,F0,bs,G⟩):J P (.region f l.toArray true) Q N m ⟨w0,F0,bs,G⟩ :=
 λa w ha c=>SJ hm g (c.drew.imp b λ_ h=>h) (h (λ_ h=>h.imp b λ_ h=>h) a _ ha c.drew)
theorem Jq{g:Nat}{l:List Oper}(n:Nat)(b:bs0.Sublist bs)(hm:P.follows .mixedOrders=true)(i:Pz l n=true)(c:lexB .any (l.take n)=true)
  (h:JD P (l.take n).toArray (ZV λa w=>wpList P l.toArray Q (l.drop n) a w) ⟨w0,F0,bs0,G⟩ (l.take n) N m ⟨w0,F0,bs,G⟩):J P (.region g l.toArray true) Q N m ⟨w0,F0,bs,G⟩ :=
 λa w ha f=>By n hm i c (f.drew.imp b λ_ h=>h) (h (λ_ h=>h.imp b λ_ h=>h) a _ ha f.drew)
theorem DP{c:Code}{cs:Array Value}(hr:qx bs b (.cells cs T fr) bs')(k:J P c Q N m ⟨w0,F0,bs',λF=>G F/\F b=some (cs,T)⟩):J P c Q N m ⟨w0,F0,bs,G⟩:=λa w ha f=>by
 obtain⟨pre,post,rfl,rfl⟩:=hr.split;exact k a w ha (f.freeze pre)
theorem VI{cs:Array Value}(hr:qx bs b (.cells cs T fr) bs')(k:JS P ops Q l N m ⟨w0,F0,bs',λF=>G F/\F b=some (cs,T)⟩):JS P ops Q l N m ⟨w0,F0,bs,G⟩:=λa w ha c=>by
 obtain⟨pre,post,rfl,rfl⟩:=hr.split;exact k a w ha (c.freeze pre)
def Rt:Nat->List Value->Sl
 |_,[]=>[]
 |k,v::r=>(k,v)::Rt (k+1) r
theorem Gy:∀(args:List Value) (k t:Nat) (v:Value),look (Rt k args) t=some v->k<=t/\args[t-k]?=some v
 |[],k,t,v,h=>by simp[Rt,look]at h
 |u::r,k,t,v,h=>by
  simp only[Rt,look]at h;cases hb:aX k t with
  |true =>
   rw[hb]at h;have:k=t:=by simpa using hb
   subst this;simpa using h
  |false =>
   rw[hb]at h;obtain⟨h1,h2⟩:=Gy r (k+1) t v (by simpa using h);refine⟨O,?_⟩;rw[show t-k=(t-(k+1))+1 by omega];simpa using h2
omit [Df] in
theorem QU.intro{f:FuncId}{c:Code}{args:List Value}{val:γ->Value}{a:γ->Gs->Prop}{G:Gs->Prop}(i:P.funcs[f]?=some fn)(hb:fn.body=some c)(k:(fn.name == "runtime.NumGoroutine")=false)(n:fn.ntmps=N)(l:iW args.length N=true)
  (j:Fits F w) (m:∀F',Gs.le F F'->G F') (h:J (df:=DH) P c (bodyPost P fn (SH w F val a)) N (Rt 0 args) ⟨w,F,[],G⟩):QU P f args w F val a:=by
 refine⟨enters_of i k (by rw[hb];rfl),calls_of_wp i hb (h _ w ⟨?_,rfl,λt v ht=>?_⟩ (St.start j m))⟩
 ·have:=fq l
  simp[n];omega
 obtain⟨_,h2⟩:=Gy args 0 t v ht
 have b:t<args.length:=by rcases av t args.length with g | g;exact g;rw[iV,aI g]at h2;cases h2
 simp only[iV]at h2
 rw[Array.getElem?_append,if_pos (by simpa using b)]
 simpa using h2
omit [Df] in
theorem QAX{val:γ->Value}{b:γ->Gs->Prop}{bs:List (Nat×Obj)}{G:Gs->Prop}(c:γ)(hr:∀a w,Ja (df:=DH) N m a->St ⟨w0,F0,bs,G⟩ w->(results fn a.tmps).run P w = .ok (val c) w)(j:∀F,G F->b c F):Fin (df:=DH) (bodyPost P fn (SH w0 F0 val b)) .ret N m ⟨w0,F0,bs,G⟩:=λa w ha i=>by
 obtain⟨F,h⟩:=id i
 exact⟨ha.df,val c,hr a w ha i,c,F,rfl,h.ext,h.le,h.old,h.fits,λF' f=>j F' (h.g F' f)⟩
omit [Df] in
inductive Eu(P:Program)(m:Sl)(bs:List (Nat×Obj)):List ResultVar->List Value->Prop
 |nil:Eu P m bs [] []
 |tmp {t:Tmp} {v:Value} {r:List ResultVar} {vs:List Value} (h:look m t=some v) (k:Eu P m bs r vs):Eu P m bs (.tmp t::r) (v::vs)
 |QFZ {t:Tmp} {T T':TypeId} {b n:Nat} {c:List Value} {v:Value} {fr:Nat×Nat} {f:Obj->List (Nat×Obj)} {r:List ResultVar} {vs:List Value} (h:look m t=some (.pointer (some ⟨b,0,none⟩))) (ht:Z5 P T=some (false,n)) (ho:Own bs b (.cells c.toArray T' fr) f) (hg:R7 c 0 [v]) (k:Eu P m bs r vs):Eu P m bs (.cell t T::r) (v::vs)
 |JX {t:Tmp} {T T':TypeId} {b:Nat} {c:List Value} {fr:Nat×Nat} {f:Obj->List (Nat×Obj)} {r:List ResultVar} {vs:List Value} (h:look m t=some (.pointer (some ⟨b,0,none⟩))) (ht:Z5 P T=some (true,c.length)) (ho:Own bs b (.cells c.toArray T' fr) f) (k:Eu P m bs r vs):Eu P m bs (.cell t T::r) (.agg c.toArray::vs)
def H8(tmps:Array Value):ResultVar->Sem Value
 |.tmp t=>pure (tmps.getD t undef)
 |.cell p t=>do loadVar t (<-asAddr (tmps.getD p undef))
theorem Eu.run{rs:List ResultVar}{vs:List Value}(h:Eu P m bs rs vs){a:Act}{w:World}(ha:Ja N m a)(hw:St ⟨w0,F0,bs,G⟩ w):
  (rs.mapM (H8 a.tmps)).run P w = .ok vs w:=by
 induction h with
 |nil=>rfl
 |tmp h k ih =>
  rename_i t v r vs;have e:=ha.get _ _ h;have e2:(H8 a.tmps (.tmp t)).run P w = .ok v w:=by simp[H8,e]
  rw[eX,aj,e2];simp[ih]
 |QFZ h ht ho hg k ih =>
  rename_i t T T' b n c v fr f r vs;have e:=ha.get _ _ h;have hc:=ZI (hw.own ho) (o:=0);have:=hg.at 0 _ I;simp only[bz]at this;rw[this]at hc;have e2:(H8 a.tmps (.cell t T)).run P w = .ok v w:=by simp[H8,e,asAddr,Z1 ht hc]
  rw[eX,aj,e2];simp[ih]
 |JX h ht ho k ih =>
  rename_i t T T' b c fr f r vs;have e:=ha.get _ _ h;have:=KZ (P:=P) ht rfl (w:=w) (b:=b) (off:=0) (λj v hv=>by rw[bz,ZI (hw.own ho)];exact hv);have e2:(H8 a.tmps (.cell t T)).run P w = .ok (.agg c.toArray) w:=by simp[H8,e,asAddr,this]
  rw[eX,aj,e2];simp[ih]
theorem LS(fn:Func)(tmps:Array Value):results fn tmps=(do let vs <-fn.results.mapM (H8 tmps);pure (if h:vs.size=1 then vs[0]else .tuple vs)):=by
 unfold results;exact congrArg (λ(g:ResultVar->Sem Value)=>(do let vs <-fn.results.mapM g;pure (if h:vs.size=1 then vs[0]else .tuple vs):Sem Value)) (funext λx=>by cases x<;>rfl)
theorem H7{rs:List ResultVar}{vs:List Value}(b:fn.results=rs.toArray)(h:Eu P m bs rs vs){a:Act}{w:World}(ha:Ja N m a)(c:St ⟨w0,F0,bs,G⟩ w):
  (results fn a.tmps).run P w = .ok (match vs with | [v]=>v | vs=>.tuple vs.toArray) w:=by
 have:=h.run ha c;rw[LS,b,List.mapM_toArray];simp only[aj,Sem.run_map,this,ak,aG]
 match vs with
 |[]=>rfl
 |[v]=>rfl
 |v::u::r=>rfl
omit [Df] in
theorem QP{val:γ->Value}{b:γ->Gs->Prop}{bs:List (Nat×Obj)}{G:Gs->Prop}{rs:List ResultVar}{v:Value}(c:γ)(f:fn.results=rs.toArray)(h:Eu P m bs rs [v])(i:val c=v)(j:∀F,G F->b c F):Fin (df:=DH) (bodyPost P fn (SH w0 F0 val b)) .ret N m ⟨w0,F0,bs,G⟩ :=
 QAX c (λa w ha g=>by rw[i];exact H7 f h ha g) j
omit [Df] in
theorem Je{val:γ->Value}{b:γ->Gs->Prop}{bs:List (Nat×Obj)}{G:Gs->Prop}{rs:List ResultVar}{v:Value}{vs:List Value}(c:γ)(f:fn.results=rs.toArray)(h:Eu P m bs rs (v::u::vs))(i:val c = .tuple (v::u::vs).toArray)(j:∀F,G F->b c F):Fin (df:=DH) (bodyPost P fn (SH w0 F0 val b)) .ret N m ⟨w0,F0,bs,G⟩ :=
 QAX c (λa w ha g=>by rw[i];exact H7 f h ha g) j
end
end
section
variable[Dr][df:Df]
section
variable{P:Program}{N:Nat}{m:Sl}{S:World->Prop}{ty:TypeId}{v:Value}
def It:BinOp->Value->Value->Option Value
 |.add,.int .i64 a,.int .i64 b=>some (.int .i64 (IntKind.i64.wrap (a+b)))
 |.sub,.int .i64 a,.int .i64 b=>some (.int .i64 (IntKind.i64.wrap (a-b)))
 |.mul,.int .i64 a,.int .i64 b=>some (.int .i64 (IntKind.i64.wrap (a*b)))
 |.add,.int .u64 a,.int .u64 b=>some (.int .u64 (IntKind.u64.wrap (a+b)))
 |.sub,.int .u64 a,.int .u64 b=>some (.int .u64 (IntKind.u64.wrap (a-b)))
 |.mul,.int .u64 a,.int .u64 b=>some (.int .u64 (IntKind.u64.wrap (a*b)))
 |.eql,.int .i64 a,.int .i64 b=>some (.bool (a==b))
 |.neq,.int .i64 a,.int .i64 b=>some (.bool (a != b))
 |.lss,.int .i64 a,.int .i64 b=>some (.bool (decide (a<b)))
 |.leq,.int .i64 a,.int .i64 b=>some (.bool (decide (a<=b)))
 |.gtr,.int .i64 a,.int .i64 b=>some (.bool (decide (a>b)))
 |.geq,.int .i64 a,.int .i64 b=>some (.bool (decide (a>=b)))
 |.eql,.int .u64 a,.int .u64 b=>some (.bool (a==b))
 |.neq,.int .u64 a,.int .u64 b=>some (.bool (a != b))
 |.lss,.int .u64 a,.int .u64 b=>some (.bool (decide (a<b)))
 |.leq,.int .u64 a,.int .u64 b=>some (.bool (decide (a<=b)))
 |.gtr,.int .u64 a,.int .u64 b=>some (.bool (decide (a>b)))
 |.geq,.int .u64 a,.int .u64 b=>some (.bool (decide (a>=b)))
 |.eql,.int .u8 a,.int .u8 b=>some (.bool (a==b))
 |.neq,.int .u8 a,.int .u8 b=>some (.bool (a != b))
 |.lss,.int .u8 a,.int .u8 b=>some (.bool (decide (a<b)))
 |.leq,.int .u8 a,.int .u8 b=>some (.bool (decide (a<=b)))
 |.gtr,.int .u8 a,.int .u8 b=>some (.bool (decide (a>b)))
 |.geq,.int .u8 a,.int .u8 b=>some (.bool (decide (a>=b)))
 |.eql,.int .i32 a,.int .i32 b=>some (.bool (a==b))
 |.neq,.int .i32 a,.int .i32 b=>some (.bool (a != b))
 |.lss,.int .i32 a,.int .i32 b=>some (.bool (decide (a<b)))
 |.leq,.int .i32 a,.int .i32 b=>some (.bool (decide (a<=b)))
 |.gtr,.int .i32 a,.int .i32 b=>some (.bool (decide (a>b)))
 |.geq,.int .i32 a,.int .i32 b=>some (.bool (decide (a>=b)))
 |.eql,.string a,.string b=>some (.bool (a.toList==b.toList))
 |.neq,.string a,.string b=>some (.bool (!(a.toList==b.toList)))
 |_,_,_=>none
theorem xP{op:BinOp}{T:TypeId}{x y:Operand}{vx a:Value}(h:It op vx a=some v)(w:World):(do eqGuard op T x y vx a;binOp op T vx a:Sem Value).run P w = .ok v w:=by
  unfold It at h;split at h<;>first
    | (cases h;done)
    | (simp only[ai]at h
       subst h;simp[eqGuard,binOp,Op.intArith,Op.intCmp,Op.stringOp])
theorem QT{op:BinOp}{vx b:Value}(hx:ev m x=some vx)(hy:ev m y=some b)(h:It op vx b=some v):Qt P N m S (.binOp op T x y yT) ty v:=λa w _ _ _ _ ha _=>by
 have:=xP (P:=P) (T:=T) (x:=x) (y:=y) h w;simp only[execOp,ha.ev hx,ha.ev hy];simp only[aj]at this ⊢;rw[this];rfl
theorem Qu{a b:Int}(hx:ev m x=some (.int .i64 a))(hy:ev m y=some (.int .i64 b))(h : -9223372036854775808<=a+b/\a+b<=9223372036854775807):Qt P N m S (.binOp .add T x y yT) ty (.int .i64 (a+b)):=by
 have:=QT (P:=P) (N:=N) (m:=m) (S:=S) (ty:=ty) (T:=T) (yT:=yT) (op:=.add) hx hy rfl;rw[ei _ h]at this;exact this
theorem X3{a b:Int}(hx:ev m x=some (.int .i64 a))(hy:ev m y=some (.int .i64 b))(h : -9223372036854775808<=a-b/\a-b<=9223372036854775807):Qt P N m S (.binOp .sub T x y yT) ty (.int .i64 (a-b)):=by
 have:=QT (P:=P) (N:=N) (m:=m) (S:=S) (ty:=ty) (T:=T) (yT:=yT) (op:=.sub) hx hy rfl;rw[ei _ h]at this;exact this
theorem Mx{a b:Int}(hx:ev m x=some (.int .i64 a))(hy:ev m y=some (.int .i64 b))(h : -9223372036854775808<=a*b/\a*b<=9223372036854775807):Qt P N m S (.binOp .mul T x y yT) ty (.int .i64 (a*b)):=by
 have:=QT (P:=P) (N:=N) (m:=m) (S:=S) (ty:=ty) (T:=T) (yT:=yT) (op:=.mul) hx hy rfl;rw[ei _ h]at this;exact this
theorem vQ{k:IntKind}{a b:Int}(hx:ev m x=some (.int k a))(hy:ev m y=some (.int k b))(h:b≠0):Qt P N m S (.binOp .quo T x y yT) ty (.int k (k.wrap (a.tdiv b))):=λs w _ _ _ _ ha _=>by
 simp[execOp,ha.ev hx,ha.ev hy,eqGuard,binOp,Op.intDiv,h]
theorem QCv{k:IntKind}{a b:Int}(hx:ev m x=some (.int k a))(hy:ev m y=some (.int k b))(h:b≠0):Qt P N m S (.binOp .rem T x y yT) ty (.int k (a.tmod b)):=λs w _ _ _ _ ha _=>by
 simp[execOp,ha.ev hx,ha.ev hy,eqGuard,binOp,Op.intDiv,h]
theorem H9{k:IntKind}{a b:Int}(hx:ev m x=some (.int k a))(hy:ev m y=some (.int k b))(ha:0<=a)(hb:0<b):Qt P N m S (.binOp .rem T x y yT) ty (.int k (a%b)):=by
 have:=QCv (P:=P) (N:=N) (m:=m) (S:=S) (ty:=ty) (T:=T) (yT:=yT) hx hy O;rw[Int.tmod_eq_emod_of_nonneg ha]at this;exact this
theorem xi{a b:ByteArray}(hx:ev m x=some (.string a))(hy:ev m y=some (.string b))(h:((a.size+b.size:Nat):Int)<=9223372036854775807):Qt P N m S (.binOp .add T x y yT) ty (.string (a++b)):=λs w _ _ _ _ ha _=>by
 have c:¬((a.size+b.size:Nat):Int)>IntKind.i64.max:=by
  have:IntKind.i64.max=9223372036854775807:=tF;omega
 simp only[execOp,ha.ev hx,ha.ev hy,eqGuard,binOp,Op.stringOp,if_neg c];rfl
theorem XL{b:Bool}(hx:ev m x=some (.bool b)):Qt P N m S (.unOp .not T x) ty (.bool (!b)):=λs w _ _ _ _ ha _=>by
 simp[execOp,ha.ev hx,Op.unary]
def Nl(P:Program)(T:TypeId):Option IntKind:=match P.underlying T with
 |some (.int k)=>some k
 |_=>none
theorem Ib{src dst:TypeId}{k k':IntKind}{n:Int}(hx:ev m x=some (.int k' n))(hs:(P.underlying src).isSome=true)(hk:Nl P dst=some k):Qt P N m S (.convert src dst x) ty (.int k (k.wrap n)):=λs w _ _ _ _ ha _=>by
 obtain⟨d,hd⟩:=Option.isSome_iff_exists.1 hs;unfold Nl at hk;split at hk
 ·rename_i k'' hu;cases hk;simp only[execOp,ha.ev hx,convert,aj,run_underlying hd,run_underlying hu,ak];rfl
 cases hk
theorem CH{n:Int}(h : -9223372036854775808<=n/\n<=9223372036854775807):IntKind.i64.wrap n=n:=ei _ h
def BZ(P:Program)(T:TypeId):Bool:=match P.underlying T with
 |some .string=>true
 |_=>false
theorem YH{b:Builtin}{args:Array Operand}{c:Array TypeId}{d:Option Tmp}{pos:String}{g:Option (Nat×Bool)}:execOp a.eval ⟨d,.call ⟨.builtin b,args,c⟩,ty,pos,aft,g⟩=builtin b c ty (args.map λ| .const _=>true | _=>false) (args.map a.eval):=rfl
theorem xg(hx:ev m x=some (.string s))(hT:BZ P T=true):Qt P N m S (.call ⟨.builtin .len,#[x],#[T]⟩) ty (.int .i64 s.size):=λa w _ _ _ _ ha _=>by
 unfold BZ at hT;split at hT
 ·rename_i hu;rw[YH];simp[builtin,ik,ha.ev hx,run_underlying hu,goInt]
 cases hT
def Gp(P:Program)(T:TypeId):Option TypeId:=match P.underlying T with
 |some (.slice e)=>some e
 |_=>none
theorem Q5{e:TypeId}(h:Gp P T=some e):P.underlying T=some (.slice e):=by
 unfold Gp at h;split at h
 ·cases h;assumption
 cases h
theorem Qg{e:TypeId}{q:Option Addr}{c:Nat}(hx:ev m x=some (.slice q n c))(b:Gp P T=some e):Qt P N m S (.call ⟨.builtin .len,#[x],#[T]⟩) ty (.int .i64 n):=λa w _ _ _ _ ha _=>by
 rw[YH];simp[builtin,ik,ha.ev hx,run_underlying (Q5 b),goInt]
theorem vR{a b:Int}(hx:ev m x=some (.int .i64 a))(hy:ev m y=some (.int .i64 b)):Qt P N m S (.call ⟨.builtin .min,#[x,y],#[T,T']⟩) ty (.int .i64 (if b<a then b else a)):=λs w _ _ _ _ ha _=>by
 rw[YH];simp[builtin,ha.ev hx,ha.ev hy,Builtin.min_,Builtin.min2]
theorem xh{i:Nat}(hx:ev m x=some (.string s))(hy:ev m y=some (.int .i64 (i:Int)))(hT:BZ P T=true)(hi:i<s.size):Qt P N m S (.index T x y) ty (.int .u8 (s.data[i].toNat:Int)):=λa w _ _ _ _ ha _=>by
 unfold BZ at hT;split at hT
 ·rename_i hu;have e:s[i]?=some (s.data[i]):=by
   rw[getElem?_pos s i hi];rfl
  simp[execOp,ha.ev hx,ha.ev hy,Instr.index,asIntOf,run_underlying hu,e]
 cases hT
theorem Tw{lo hi:Option Value}{l h:Nat}(hT:BZ P T=true)(hlo:(lo=none/\l=0)\/lo=some (.int .i64 (l:Int)))(hhi:(hi=none/\h=s.size)\/hi=some (.int .i64 (h:Int)))(h1:l<=h)(h2:h<=s.size)(w:World):
  (iU T (.string s) lo hi none).run P w = .ok (.string (s.extract l h)) w:=by
 unfold BZ at hT;split at hT
 ·rename_i hu;rcases hlo with ⟨rfl,rfl⟩ | rfl<;>rcases hhi with ⟨rfl,rfl⟩ | rfl <;>
   simp[iU,run_underlying hu,Instr.sliceBounds,Instr.sliceBound,asIntOf,h1,h2]
 cases hT
def Is(m:Sl):Option Operand->Option (Option Value)
 |none=>some none
 |some x=>(ev m x).map some
theorem Ja.Is(h:Ja N m a){x:Option Operand}{v:Option Value}(hx:Is m x=some v):x.map a.eval=v:=by
 cases x with
 |none=>simpa[YtjcphjpkimmmjaaGreatDoor.Is]using hx
 |some x =>
  cases b:YtjcphjpkimmmjaaGreatDoor.ev m x with
  |none=>simp[YtjcphjpkimmmjaaGreatDoor.Is,b]at hx
  |some u=>simp[YtjcphjpkimmmjaaGreatDoor.Is,b]at hx;simp[h.ev b,hx]
theorem LY{lo hi:Option Operand}{vl vh:Option Value}{l h:Nat}(hx:ev m x=some (.string s))(el:Is m lo=some vl)(eh:Is m hi=some vh)(hT:BZ P T=true)
  (hlo:(vl=none/\l=0)\/vl=some (.int .i64 (l:Int))) (hhi:(vh=none/\h=s.size)\/vh=some (.int .i64 (h:Int))) (h1:l<=h) (h2:h<=s.size):Qt P N m S (.slice T x lo hi none) ty (.string (s.extract l h)):=λa w _ _ _ _ ha _=>by
 have e:=Tw (P:=P) hT hlo hhi h1 h2 w;unfold BZ at hT;split at hT
 ·rename_i hu;simp[execOp,ha.ev hx,ha.Is el,ha.Is eh,Instr.sliceAt,run_underlying hu,e]
 cases hT
end
end
section
variable[Dr][df:Df]
section
variable{P:Program}{Q:Exit->Act->World->Prop}{N:Nat}{m:Sl}{E E0:Env}{ops:Array Oper}{l:List Oper}{w0:World}{F0:Gs}{bs:List (Nat×Obj)}{G:Gs->Prop}{ty:TypeId}{v:Value}{S:World->Prop}
theorem BP(b off k:Nat):(⟨b,off,none⟩:Addr).add k=⟨b,off+k,none⟩:=by unfold fz;split<;>simp_all
theorem JL{e:TypeId}{c sz i:Nat}(hx:ev m x=some (.slice (some ⟨b,off,none⟩) n c))(hy:ev m y=some (.int .i64 (i:Int)))(h:Gp P T=some e)(f:Z5 P e=some (g,sz))(hi:i<n):Qt P N m S (.indexAddr T x y) ty (.pointer (some ⟨b,off+i*sz,none⟩)):=λa w _ _ _ _ ha _=>by
 simp[execOp,ha.ev hx,ha.ev hy,Instr.indexAt,asIntOf,run_underlying (Q5 h),K4 f,hi,BP]
theorem V1(h:ev m x=some (.pointer (some ⟨b,off,none⟩)))(ht:Z5 P T=some (false,n))(i:Own bs b (.cells c.toArray T' fr) f)(j:c[off]?=some v):
  Qt P N m (St ⟨w0,F0,bs,G⟩) (.load T x) ty v:=λa w _ _ _ _ ha g=>by
 have hc:w.cell? ⟨b,off,none⟩=some v:=by rw[ZI (g.own i)];exact j
 simp[execOp,ha.ev h,bK,aN,Z1 ht hc]
theorem Ak{vs:List Value}(h:ev m x=some (.pointer (some ⟨b,off,none⟩)))(ht:Z5 P T=some (true,n))(k:Own bs b (.cells c.toArray T' fr) f)(l:vs.length=n)(o:∀j v,vs[j]?=some v->c[off+j]?=some v):
  Qt P N m (St ⟨w0,F0,bs,G⟩) (.load T x) ty (.agg vs.toArray):=λa w _ _ _ _ ha g=>by
 have:=KZ ht l (w:=w) (b:=b) (off:=off) (λj v i=>by rw[ZI (g.own k)];exact o j v i);simp[execOp,ha.ev h,bK,aN,this]
theorem VG.mk':∀(n:Nat) (l vs:List Value),n+vs.length<=l.length->VG l n vs (l.take n++vs++l.drop (n+vs.length))
 |0,l,[],_=>by simpa using VG.nil (l:=l)
 |0,x::l,v::vs,h=>by
  have:=VG.mk' 0 l vs (by simp at h ⊢;omega);simp only[im,ee,bz,aO,List.drop_succ_cons,fX]at this ⊢;exact .here this
 |n+1,x::l,vs,h=>by
  have:=VG.mk' n l vs (by simp at h;omega);rw[eH];simpa using VG.skip (x:=x) this
 |0,[],v::vs,h=>by simp at h
 |n+1,[],vs,h=>by simp at h
inductive Q8(T:TypeId)(sz:Nat):Value->Nat->List Value->List (Nat×Obj)->Prop
 |nil:Q8 T sz (.slice none 0 0) 0 [] []
 |some {b n cap:Nat} {l rest:List Value} (h1:l.length=n*sz) (h2:l.length+rest.length=cap*sz) (h3:n<=cap) (h4:cap<=maxLen):Q8 T sz (.slice (some ⟨b,0,none⟩) n cap) n l [(b,.cells (l++rest).toArray T (0,0))]
theorem Q8.one{sz:Nat}{v:Value}{l:List Value}(h:Q8 T sz v n l ob):v.oneCell'=true/\v.cells=[v].toArray:=by
 cases h<;>exact⟨rfl,rfl⟩
structure Src(E:Env)(sz:Nat)(x:Value)(k:Nat)(news:List Value):Prop where
 len:news.length=k*sz
 rd:((∃c,x = .slice none 0 c)/\k=0/\news=[])\/∃a c,x = .slice (some a) k c/\∀w,St E w->∀j v,news[j]?=some v->w.cell? (a.add j)=some v
theorem Src.row{sz c:Nat}{cs:Array Value}(hr:∀F,G F->F b=some (cs,T))(h:∀j v,news[j]?=some v->cs[off+j]?=some v)(g:news.length=k*sz):Src ⟨w0,F0,bs,G⟩ sz (.slice (.some ⟨b,off,none⟩) k c) k news :=
 ⟨g,.inr ⟨_,_,rfl,λw a j v f=>by rw[BP];exact cell_of_row a hr (h j v f)⟩⟩
theorem Src.nil{sz c:Nat}:Src E sz (.slice none 0 c) 0 []:=⟨tJ,.inl ⟨⟨_,rfl⟩,rfl,rfl⟩⟩
def ZK(P:Program)(T:TypeId):Option Nat:=(P.info? T).map (·.bytes)
theorem B1{sz:Nat}{x:Value}(b:news.length=k*sz)(h:((∃c,x = .slice none 0 c)/\k=0/\news=[])\/∃a c,x = .slice (some a) k c/\∀j v,news[j]?=some v->w.cell? (a.add j)=some v):
  (fk sz k x).run P w = .ok news.toArray w:=by
 rcases h with ⟨⟨_,rfl⟩,rfl,rfl⟩ | ⟨a,c,rfl,h⟩
 ·rfl
 exact run_firstCells_some (P:=P) w sz k a k c news b h
theorem DE{t e:TypeId}{sz:Nat}{x y:Value}{olds:List Value}(ht:Gp P t=some e)(hs:Z5 P e=some (g,sz))(hz:XI P e=some z)(hzl:z.length=sz)(hby:ZK P e=some bytes)
  (hr:Q8 e sz x n olds ob) (hs2:Src ⟨w0,F0,ob++bs,G⟩ sz y k news) (hw:St ⟨w0,F0,ob++bs,G⟩ w) (h63:n+k<=9223372036854775807) (h47:(n+k)*bytes<=140737488355328) (h1:∀v∈news,v.oneCell'=true) (hu:Hi e=true) :
  ∃v' ob' w',(bU #[t,t] ty #[x,y]).run P w = .ok v' w'/\Q8 e sz v' (n+k) (olds++news) ob'/\St ⟨w0,F0,ob'++bs,G⟩ w':=by
 have hi:∃i,P.info? e=some i/\i.size=sz/\i.bytes=bytes/\∃zv,i.zero=some zv/\zv.cells=z.toArray:=by
  unfold ZK at hby;unfold XI at hz;unfold Z5 at hs;cases hie:P.info? e with
  |none=>rw[hie]at hby;cases hby
  |some i =>
   rw[hie]at hby hz hs;dsimp only at hz hs;simp only[aQ,ai]at hby;refine⟨i,rfl,?_,hby,?_⟩
   ·split at hs
    ·rename_i h1 h2;cases h2;cases hs;rfl
    cases hs
   cases hzz:i.zero with
   |none=>rw[hzz]at hz;cases hz
   |some zv=>rw[hzz]at hz;simp only[aQ,ai]at hz;exact⟨zv,rfl,by rw[<-hz]⟩
 obtain⟨i,hi1,hi2,hi3,zv,hi4,hi5⟩:=hi;subst hi2 hi3;have hzc:∀q,(aD zv.cells q).toList.length=q*i.size:=λq=>by simp[aD,hi5,hzl]
 have hu':∀c fr c' fr',Obj.cells c e fr≠.cells c' 297 fr':=λc fr=>ZN hu;have new:∀ {w':World} (l rest:List Value) (v':Value) (cap:Nat) (bs':List (Nat×Obj)),St ⟨w0,F0,bs',G⟩ w'->bs.Sublist bs'->v' = .slice (some ⟨w'.heap.size,0,none⟩) (n+k) cap->l.length=(n+k)*i.size->l.length+rest.length=cap*i.size->n+k<=cap->cap<=maxLen ->
   ∃ob',Q8 e i.size v' (n+k) l ob'/\St ⟨w0,F0,ob'++bs,G⟩ (w'.alloc (.cells (l++rest).toArray e)):=by
  intro w' l rest v' cap bs' hw' hsub hv' h2 h3 h4 h5;subst hv';exact⟨_,.some h2 h3 h4 h5,(hw'.imp hsub λ_ h=>h).alloc _ (hu' _ _)⟩
 have hcut:∀need old,need<=9223372036854775807->need<=grownCap w need old e:=λneed old _=>grownCap_ge w need old e;cases hr with
 |nil =>
  simp only[bz,ee]at *
  rcases hs2.rd with ⟨⟨_,rfl⟩,rfl,rfl⟩ | ⟨a,c,rfl,hrd⟩
  ·refine⟨.slice none 0 0,[],w,?_,.nil,hw⟩;simp[bU,run_underlying (Q5 ht),sizeOf,typeInfo,hi1,eT,fk]
  by_cases hk:k=0
  ·subst hk;have hn0:news=[]:=by have:=hs2.len;simp at this;exact this
   subst hn0;refine⟨.slice none 0 0,[],w,?_,.nil,hw⟩;have:=run_firstCells_some (P:=P) w i.size 0 a 0 c [] tJ (λj v hv=>by simp at hv);simp[bU,run_underlying (Q5 ht),sizeOf,typeInfo,hi1,eT,this]
  have hrun:=run_append_nil (P:=P) (w:=w) t ty e i zv (Q5 ht) hi1 hi4 a k c news hs2.len (hrd w hw) O O O;have hge:=hcut k 0 h63;obtain⟨ob',h2,h3⟩:=new news (aD zv.cells (grownCap w k 0 e-k)).toList _ (grownCap w k 0 e) bs hw.drew we rfl hs2.len (by rw[hzc,hs2.len,<-aE];congr 1;omega) hge (grownCap_le_maxLen w k 0 e (by simp only[maxLen];omega));refine⟨_,ob',_,hrun,h2,?_⟩;have e1:(news++(aD zv.cells (grownCap w k 0 e-k)).toList).toArray=news.toArray++aD zv.cells (grownCap w k 0 e-k):=by apply bY;simp
  rw[e1]at h3;exact h3
 |some g1 g2 g3 g4 =>
  rename_i b cap rest;have hbw:w.heap[b]?=some (.cells (olds++rest).toArray e (0,0)):=hw.own (f:=λo'=>(b,o')::bs) .here;have hold:∀j v,olds[j]?=some v->w.cell? ((⟨b,0,none⟩:Addr).add j)=some v:=λj v hv=>by
   rw[BP,bz,ZI hbw,ew];have:j<olds.length:=by rcases av j olds.length with q | q;exact q;rw[aI q]at hv;cases hv
   rw[if_pos this];exact hv
  by_cases hroom:n+k<=cap
  ·have hmul:(n+k)*i.size<=cap*i.size:=aZ _ hroom;rw[aE]at hmul;have hp:=VG.mk' (n*i.size) (olds++rest) news (by rw[aH,hs2.len];omega);obtain⟨w',h2,h3⟩:=run_storeCells_at (P:=P) b e news 0 (n*i.size) (olds++rest) _ w hbw h1 hp;have e1:(olds++rest).take (n*i.size)=olds:=by rw[<-g1];simp
   have e2:(olds++rest).drop (n*i.size+news.length)=rest.drop news.length:=by
    rw[<-g1,List.drop_append,List.drop_of_length_le O,Nat.add_sub_cancel_left,ee]
   rw[e1,e2]at h3;have hfc:=B1 (P:=P) (w:=w) hs2.len (hs2.rd.imp id λ⟨a,c,h,h'⟩=>⟨a,c,h,h' w hw⟩);refine⟨.slice (some ⟨b,0,none⟩) (n+k) cap,[(b,.cells (olds++news++rest.drop news.length).toArray e (0,0))],w',?_,.some ?_ ?_ hroom g4,?_⟩
   ·have hlen:(eT y).run P w = .ok k w:=by
     rcases hs2.rd with ⟨⟨_,rfl⟩,rfl,_⟩ | ⟨a,c,rfl,_⟩<;>rfl
    simp[bU,run_underlying (Q5 ht),sizeOf,typeInfo,hi1,hlen,hroom,hfc,BP,h2]
   ·rw[aH,g1,hs2.len,aE]
   ·rw[aH,List.length_drop,hs2.len,g1];omega
   exact St.write [] hw h3 (hu' _ _)
  rcases hs2.rd with ⟨⟨_,rfl⟩,rfl,rfl⟩ | ⟨a,c,rfl,hrd⟩
  ·exact absurd g3 hroom
  have hfit:=growslice_fits (need:=n+k) (old:=cap) (bytes:=i.bytes) O h47;have hrun:=run_append_grow (P:=P) (w:=w) t ty e i zv (Q5 ht) hi1 hi4 ⟨b,0,none⟩ n cap olds g1 hold a k c news hs2.len (hrd w hw) O O hfit;have hge:=hcut (n+k) cap h63;have hl2:(olds++news).length=(n+k)*i.size:=by rw[aH,g1,hs2.len,aE]
  obtain⟨ob',h2,h3⟩:=new (olds++news) (aD zv.cells (grownCap w (n+k) cap e-(n+k))).toList _ (grownCap w (n+k) cap e) _ hw.drew (fe _ _) rfl hl2 (by rw[hzc,hl2,<-aE];congr 1;omega) hge (grownCap_le_maxLen w (n+k) cap e (by simp only[maxLen];omega));refine⟨_,ob',_,hrun,h2,?_⟩;have e1:(olds++news++(aD zv.cells (grownCap w (n+k) cap e-(n+k))).toList).toArray=olds.toArray++news.toArray++aD zv.cells (grownCap w (n+k) cap e-(n+k)):=by apply bY;simp
  rw[e1]at h3;exact h3
theorem Mf{d:Nat}{pos:String}{t e:TypeId}{sz:Nat}{X Y:Operand}{x y:Value}{olds:List Value}(hx:ev m X=some x)(hy:ev m Y=some y)(ht:Gp P t=some e)(s:Z5 P e=some (g,sz))(hz:XI P e=some z)(b:z.length=sz)(f:ZK P e=some bytes)
  (hr:Q8 e sz x n olds ob) (c:Src ⟨w0,F0,ob++bs,G⟩ sz y k news) (h:n+k<=9223372036854775807) (i:(n+k)*bytes<=140737488355328) (h1:∀v∈news,v.oneCell'=true)
  (j:∀v' ob',Q8 e sz v' (n+k) (olds++news) ob'->JS P ops Q l N ((d,v')::m) ⟨w0,F0,ob'++bs,G⟩) (hu:Hi e=true:=by rfl) (hd:J5 N (some d)=true:=by rfl) :
  JS P ops Q (⟨some d,.call ⟨.builtin .append,#[X,Y],#[t,t]⟩,ty,pos,aft,none⟩::l) N m ⟨w0,F0,ob++bs,G⟩:=λa w ha o =>
 wpList_plain rfl λK u=>by
  obtain⟨v',ob',w',h2,h3,h4⟩:=DE (ty:=ty) ht s hz b f hr c o h i h1 hu;refine upon_value (w':=w') (v:=v') ?_ (u _ _ (j v' ob' h3 _ w' (ha.put hd v') h4));rw[YH];simp[builtin,ha.ev hx,ha.ev hy,h2]
theorem Yz{d:Nat}{pos:String}{t e:TypeId}{sz:Nat}{X Y:Operand}{x y:Value}{olds:List Value}{G0:Gs->Prop}(hx:ev m X=some x)(hy:ev m Y=some y)(ht:Gp P t=some e)(B:Z5 P e=some (g,sz))(hz:XI P e=some z)(b:z.length=sz)(j:ZK P e=some bytes)
  (hr:Q8 e sz x n olds ob) (c:Src ⟨w0,F0,ob++bs,G⟩ sz y k news) (o:n+k<=9223372036854775807) (s:(n+k)*bytes<=140737488355328) (h1:∀v∈news,v.oneCell'=true) (f:bs0.Sublist bs) (i:∀F,G F->G0 F)
  (u:∀v' ob',Q8 e sz v' (n+k) (olds++news) ob'->JD P ops Q ⟨w0,F0,bs0,G0⟩ l N ((d,v')::m) ⟨w0,F0,ob'++bs,G⟩) (hu:Hi e=true:=by rfl) (hd:J5 N (some d)=true:=by rfl) :
  JD P ops Q ⟨w0,F0,bs0,G0⟩ (⟨some d,.call ⟨.builtin .append,#[X,Y],#[t,t]⟩,ty,pos,aft,none⟩::l) N m ⟨w0,F0,ob++bs,G⟩:=λ_ a w ha A=>by
  obtain⟨v',ob',w',h2,h3,h4⟩:=DE (ty:=ty) ht B hz b j hr c A o s h1 hu;have sub:∀w',St ⟨w0,F0,ob'++bs,G⟩ w'->St ⟨w0,F0,bs0,G0⟩ w':=λw' h=>h.imp (f.trans (List.sublist_append_right _ _)) i;refine .inr ⟨rfl,?_⟩;rw[if_pos (by simp[ao])];refine upon_value (w':=w') (v:=v') ?_ ⟨sub _ h4,u v' ob' h3 sub _ w' (ha.put hd v') h4⟩;rw[YH];simp[builtin,ha.ev hx,ha.ev hy,h2]
def Xg(z:List Value):Nat->List Value
 |0=>[]
 |n+1=>z++Xg z n
theorem B7(z:List Value):∀n,(Xg z n).length=n*z.length
 |0=>by simp[Xg]
 |n+1=>by rw[Xg,aH,B7 z n,aE];omega
theorem Pg(z:List Value):∀(n j:Nat),j<n*z.length->(Xg z n)[j]?=z[j%z.length]?
 |0,j,h=>by simp at h
 |n+1,j,h=>by
  rw[Xg,ew];split
  ·rename_i hj;rw[bG hj]
  rename_i hj;rw[Pg z n _ (by rw[aE,jg]at h;omega)];rw[<-Nat.mod_eq_sub_mod O]
theorem UI{z:Array Value}:madeCells z (n*z.size)=(Xg z.toList n).toArray:=by
 apply eE;intro j;simp only[madeCells,List.getElem?_toArray];by_cases a:j<n*z.size
 ·have hz:0<z.size:=by rcases fO z.size with h | h;rw[h]at a;simp at a;exact h
  have hm:=eG j hz;rw[Pg z.toList n j (by simpa using a)];simp[a,hm]
 have b:(Xg z.toList n)[j]?=none:=aI (by rw[B7];simpa using a);rw[b,ab (by simpa using a)]
theorem C0{t e:TypeId}{sz n:Nat}{kl:IntKind}(ht:Gp P t=some e)(hs:Z5 P e=some (g,sz))(hz:XI P e=some z)(hzl:z.length=sz)(hby:ZK P e=some bytes)(h63:(n:Int)<=9223372036854775807)(h48:n*bytes<=281474976710656):
  (ic t (.int kl n) (.int kl n)).run P w = .ok (.slice (some ⟨w.heap.size,0,none⟩) n n) (w.alloc (.cells (Xg z n).toArray e)):=by
 have hi:∃i,P.info? e=some i/\i.size=sz/\i.bytes=bytes/\∃zv,i.zero=some zv/\zv.cells=z.toArray:=by
  unfold ZK at hby;unfold XI at hz;unfold Z5 at hs;cases hie:P.info? e with
  |none=>rw[hie]at hby;cases hby
  |some i =>
   rw[hie]at hby hz hs;dsimp only at hz hs;simp only[aQ,ai]at hby;refine⟨i,rfl,?_,hby,?_⟩
   ·split at hs
    ·rename_i h1 h2;cases h2;cases hs;rfl
    cases hs
   cases hzz:i.zero with
   |none=>rw[hzz]at hz;cases hz
   |some zv=>rw[hzz]at hz;simp only[aQ,ai]at hz;exact⟨zv,rfl,by rw[<-hz]⟩
 obtain⟨i,hi1,hi2,hi3,zv,hi4,hi5⟩:=hi;subst hi3;have hb:(i.bytes:Int)*(n:Int)<=281474976710656:=by
  have:((n*i.bytes:Nat):Int)<=281474976710656:=O;rw[aV]at this;rw[bO];exact this
 have:=run_make (P:=P) w t e i zv (Q5 ht) hi1 hi4 kl kl n n O (bH _) hb h63;rw[this];have e2:i.size=zv.cells.size:=by rw[hi5];simp;omega
 simp only[eK,e2,UI,hi5]
theorem Mm{d:Nat}{pos:String}{t e:TypeId}{sz n:Nat}{X Y:Operand}{j:IntKind}(hx:ev m X=some (.int j (n:Int)))(hy:ev m Y=some (.int j (n:Int)))(ht:Gp P t=some e)(s:Z5 P e=some (g,sz))(hz:XI P e=some z)(c:z.length=sz)(f:ZK P e=some bytes)(h:(n:Int)<=9223372036854775807)(i:n*bytes<=281474976710656)
  (k:∀b,JS P ops Q l N ((d,.slice (some ⟨b,0,none⟩) n n)::m) ⟨w0,F0,(b,.cells (Xg z n).toArray e (0,0))::bs,G⟩) (hu:Hi e=true:=by rfl) (hd:J5 N (some d)=true:=by rfl) :
  JS P ops Q (⟨some d,.makeSlice t X Y,ty,pos,aft,none⟩::l) N m ⟨w0,F0,bs,G⟩:=λa w ha o =>
 wpList_plain rfl λ_ u=>upon_value (by
  simp only[execOp,ha.ev hx,ha.ev hy,aj,C0 ht s hz c f h i,ak,aG]) (u _ _ (k _ _ _ (ha.put hd _) (o.alloc _ (ZN hu))))
end
end
section
variable[Dr][df:Df]
def Zx(P:Program)(T:TypeId):Option (List (Nat×Nat)):=match P.info? T,P.underlying T with
 |some _,some (.struct a)=>a.toList.mapM λf=>(P.info? f.type).map λi=>(f.offset,i.size)
 |_,_=>none
inductive Ex(pl:List (Nat×Nat)):List (Nat×Value)->List Value->List Value->Prop
 |nil {l:List Value}:Ex pl [] l l
 |cons {i off sz:Nat} {v:Value} {vs cur cur' res:List Value} {r:List (Nat×Value)} (hf:pl[i]?=some (off,sz)) (hv:v.cells=vs.toArray) (hn:vs.length=sz) (hp:VG cur off vs cur') (k:Ex pl r cur' res):Ex pl ((i,v)::r) cur res
theorem Fm(off:Nat):∀(vs:List Value) (j:Nat) (cur cur':List Value),VG cur (off+j) vs cur'->(vs.zipIdx j).foldl (λcs (x:Value×Nat)=>cs.setIfInBounds (off+x.2) x.1) cur.toArray=cur'.toArray
 |[],j,cur,cur',h=>by have:=h.eq;simp at this;simp[this]
 |v::vs,j,cur,cur',h=>by
  have f:=h.le;have c:VG (cur.set (off+j) v) (off+(j+1)) vs cur':=by
   have b:∀(n:Nat) (cur a:List Value),VG cur n (v::vs) a->VG (cur.set n v) (n+1) vs a:=by
    intro n
    induction n with
    |zero=>intro cur a h;cases h with | here h=>exact .skip h
    |succ n ih=>intro cur a h;cases h with | skip h=>exact .skip (ih _ _ h)
   exact b _ _ _ h
  rw[fV,eN];have:=Fm off vs (j+1) _ _ c;simpa using this
theorem Ex.fill{cur res:List Value}(h:Ex pl ps cur res):bX (pl.toArray[·]?) cur.toArray ps=some res.toArray:=by
 induction h with
 |nil=>rfl
 |cons hf hv hn hp k ih =>
  rename_i i off sz v vs cur cur' res r;have hle:=hp.le;unfold bX;have e1:pl.toArray[i]?=some (off,sz):=by simpa using hf
  simp only[e1,hv,List.size_toArray,hn,ne_eq,not_true_eq_false,decide_false,iC,decide_eq_true_eq];rw[if_neg O];have e2:vs.toArray.zipIdx.foldl (λcs (x:Value×Nat)=>cs.setIfInBounds (off+x.2) x.1) cur.toArray=cur'.toArray:=by
   have:=Fm off vs 0 cur cur' (by simpa using hp);rw[<-this,<-eD];simp
  rw[e2];exact ih
section
variable{P:Program}{Q:Exit->Act->World->Prop}{N:Nat}{m:Sl}{E E0:Env}{ops:Array Oper}{l:List Oper}
theorem ZS{b:Array Oper}{c:List Oper}(h:JS P b Q c N m E):JD P ops (ZV λa w=>wpList P b Q c a w) E0 [] N m E:=λ_=>h
theorem Q7(h:Fin Q .normal N m E):JD P ops (ZV (Q .normal)) E0 [] N m E:=λ_=>h
theorem Qn{t:Nat}{b:Bool}(h:look m t=some (.bool b))(ht:b=true->JS P ops Q l N ((t,.bool true)::m) E)(f:b=false->JS P ops Q l N ((t,.bool false)::m) E):JS P ops Q l N m E:=λa w ha c=>by
 cases b with
 |true=>exact ht rfl a w ⟨ha.size,ha.df,λi v hi=>by
   simp only[look]at hi;cases hb:aX t i with
   |true=>rw[hb]at hi;have:t=i:=(by simpa using hb);subst this;exact ha.get _ _ (by rw[h];simpa using hi)
   |false=>rw[hb]at hi;exact ha.get _ _ hi⟩ c
 |false=>exact f rfl a w ⟨ha.size,ha.df,λi v hi=>by
   simp only[look]at hi;cases hb:aX t i with
   |true=>rw[hb]at hi;have:t=i:=(by simpa using hb);subst this;exact ha.get _ _ (by rw[h];simpa using hi)
   |false=>rw[hb]at hi;exact ha.get _ _ hi⟩ c
theorem Gg{t:Nat}{b:Bool}(h:look m t=some (.bool b))(ht:b=true->JD P ops Q E0 l N ((t,.bool true)::m) E)(g:b=false->JD P ops Q E0 l N ((t,.bool false)::m) E):JD P ops Q E0 l N m E:=λf a w ha c=>by
 cases b with
 |true=>exact ht rfl f a w ⟨ha.size,ha.df,λi v hi=>by
   simp only[look]at hi;cases hb:aX t i with
   |true=>rw[hb]at hi;have:t=i:=(by simpa using hb);subst this;exact ha.get _ _ (by rw[h];simpa using hi)
   |false=>rw[hb]at hi;exact ha.get _ _ hi⟩ c
 |false=>exact g rfl f a w ⟨ha.size,ha.df,λi v hi=>by
   simp only[look]at hi;cases hb:aX t i with
   |true=>rw[hb]at hi;have:t=i:=(by simpa using hb);subst this;exact ha.get _ _ (by rw[h];simpa using hi)
   |false=>rw[hb]at hi;exact ha.get _ _ hi⟩ c
section
variable{d:Option Tmp}{o:Op}{ty:TypeId}{pos:String}{aft:Array Edge}{g t:Nat}{want:Bool}
theorem QL(a:(ops[g]?).bind (·.dst)=some t)(hb:look m t=some (.bool want))(ht:JS P ops Q (⟨d,o,ty,pos,aft,none⟩::l) N m E)(hd:J5 N d=true:=by rfl):JS P ops Q (⟨d,o,ty,pos,aft,some (g,want)⟩::l) N m E :=
 QCY a hb (λ_=>ht) (λh=>by cases want<;>cases h) hd
theorem XA(a:(ops[g]?).bind (·.dst)=some t)(hb:look m t=some (.bool want))(ht:JD P ops Q E0 (⟨d,o,ty,pos,aft,none⟩::l) N m E)(hd:J5 N d=true:=by rfl):JD P ops Q E0 (⟨d,o,ty,pos,aft,some (g,want)⟩::l) N m E :=
 QFy a hb (λ_=>ht) (λh=>by cases want<;>cases h) hd
theorem QM{d:Nat}{b:Bool}(c:(ops[g]?).bind (·.dst)=some t)(hb:look m t=some (.bool b))(a:b=!want)(f:JS P ops Q l N ((d,undef)::m) E)(hd:J5 N (some d)=true:=by rfl):JS P ops Q (⟨some d,o,ty,pos,aft,some (g,want)⟩::l) N m E :=
 QCY c hb (λh=>by subst h;cases b<;>cases a) (λ_=>f) hd
theorem Jj{d:Nat}{b:Bool}(c:(ops[g]?).bind (·.dst)=some t)(hb:look m t=some (.bool b))(a:b=!want)(f:JD P ops Q E0 l N ((d,undef)::m) E)(hd:J5 N (some d)=true:=by rfl):JD P ops Q E0 (⟨some d,o,ty,pos,aft,some (g,want)⟩::l) N m E :=
 QFy c hb (λh=>by subst h;cases b<;>cases a) (λ_=>f) hd
end
theorem QAV{x y:Code}(b:Sl)(bs':List (Nat×Obj))(G':Gs->Prop)(h1:J P x (ZV λa w=>Ja N b a/\St ⟨w0,F0,bs',G'⟩ w) N m ⟨w0,F0,bs,G⟩)(h2:J P y Q N b ⟨w0,F0,bs',G'⟩):J P (.seq x y) Q N m ⟨w0,F0,bs,G⟩:=λa w ha c=>by
 refine wp_seq (wp_mono (h1 a w ha c) ?_);intro e f w' h;cases e with
 |normal=>exact h2 f w' h.1 h.2
 |_=>exact h.elim
theorem JY{b:Sl}{G':Gs->Prop}(hm:KN m b)(hb:bs'.Sublist bs)(f:∀F,G F->G' F):Fin (ZV λa w=>Ja N b a/\St ⟨w0,F0,bs',G'⟩ w) .normal N m ⟨w0,F0,bs,G⟩ :=
 λa w ha c=>⟨ha.sub hm,c.imp hb f⟩
end
theorem BR{x y:Code}(M:ι->Sl)(B:ι->List (Nat×Obj))(H:ι->Gs->Prop)
  (h1:J P x (ZV λa w=>∃i,Ja N (M i) a/\St ⟨w0,F0,B i,H i⟩ w) N m ⟨w0,F0,bs,G⟩) (h2:∀i,J P y Q N (M i) ⟨w0,F0,B i,H i⟩):J P (.seq x y) Q N m ⟨w0,F0,bs,G⟩:=λa w ha b=>by
 refine wp_seq (wp_mono (h1 a w ha b) ?_);intro e c w' h;cases e with
 |normal=>obtain⟨i,h3,h4⟩:=h;exact h2 i c w' h3 h4
 |_=>exact h.elim
theorem Za{M:ι->Sl}{B:ι->List (Nat×Obj)}{H:ι->Gs->Prop}(i:ι)(hm:KN m (M i))(hb:(B i).Sublist bs)(c:∀F,G F->H i F):
  Fin (ZV λa w=>∃i,Ja N (M i) a/\St ⟨w0,F0,B i,H i⟩ w) .normal N m ⟨w0,F0,bs,G⟩:=λa w ha b=>⟨i,ha.sub hm,b.imp hb c⟩
inductive OK:Sl->Sl->Prop
 |refl {m:Sl}:OK m m
 |cons {k:Nat} {v:Value} {l m:Sl} (hk:(look m k).isNone=true) (h:OK l m):OK ((k,v)::l) m
theorem OK.look{l:Sl}(h:OK l m){t:Nat}{u:Value}(hu:YtjcphjpkimmmjaaGreatDoor.look m t=some u):YtjcphjpkimmmjaaGreatDoor.look l t=some u:=by
 induction h with
 |refl=>exact hu
 |cons hk h ih =>
  rename_i k v l m;have hne:aX k t=false:=by
   cases hb:aX k t with
   |false=>rfl
   |true=>have:k=t:=(by simpa using hb);subst this;rw[hu]at hk;cases hk
  simp only[YtjcphjpkimmmjaaGreatDoor.look,hne,cond_false];exact ih hu
section
variable{P:Program}{Q:Exit->Act->World->Prop}{N:Nat}{m l:Sl}{w0:World}{F0:Gs}{bs bs1:List (Nat×Obj)}{G G1:Gs->Prop}{x y:Code}
theorem Ew(t:Nat)(v:Value)(h1:J P x (ZV λa w=>Ja N ((t,v)::m) a/\St ⟨w0,F0,bs,G⟩ w) N m ⟨w0,F0,bs,G⟩)(h2:J P y Q N ((t,v)::m) ⟨w0,F0,bs,G⟩):J P (.seq x y) Q N m ⟨w0,F0,bs,G⟩:=QAV _ _ _ h1 h2
theorem ZU{t:Nat}{v:Value}(he:OK l m)(ht:look l t=some v)(hb:bs.Sublist bs1)(c:∀F,G1 F->G F):Fin (ZV λa w=>Ja N ((t,v)::m) a/\St ⟨w0,F0,bs,G⟩ w) .normal N l ⟨w0,F0,bs1,G1⟩:=λa w ha b =>
 ⟨⟨ha.size,ha.df,λi u hi=>by
  simp only[look]at hi;cases hb:aX t i with
  |true=>rw[hb]at hi;have:t=i:=(by simpa using hb);subst this;exact ha.get _ _ (by rw[ht];simpa using hi)
  |false=>rw[hb]at hi;exact ha.get _ _ (he.look (by simpa using hi))⟩,b.imp hb c⟩
end
section
variable{P:Program}{N:Nat}{m:Sl}{S:World->Prop}{ty:TypeId}{v:Value}
theorem Qh{c:Operand}(hc:ev m c=some (.bool true))(hx:ev m x=some v)(hy:(ev m y).isSome=true):Qt P N m S (.pick c x y) ty v:=by
 obtain⟨u,hu⟩:=Option.isSome_iff_exists.1 hy;exact xa hc hx hu
theorem Qd{c:Operand}(hc:ev m c=some (.bool false))(hx:(ev m x).isSome=true)(hy:ev m y=some v):Qt P N m S (.pick c x y) ty v:=by
 obtain⟨u,hu⟩:=Option.isSome_iff_exists.1 hx;exact xa hc hu hy
theorem QBF{a:Int}(hx:ev m x=some (.int .i64 a))(hy:ev m y=some (.int .i64 1))(h:0<=a):Qt P N m S (.binOp .and T x y yT) ty (.int .i64 (a%2)):=λs w _ _ _ _ ha _=>by
 have e:IntKind.i64.wrap (((aP 64 a &&& aP 64 1).toNat:Nat):Int)=a%2:=by
  have h1:(aP 64 (1:Int)).toNat=1:=rfl;rw[fL,h1,Nat.and_one_is_mod,fA];have h2:((((a%((2^64:Nat):Int)).toNat%2:Nat)):Int)=a%2:=by
   have h3:(((2^64:Nat):Int))=18446744073709551616:=tF;rw[h3];omega
  rw[h2];exact CH O
 have h1:aP 64 (1:Int)=1#64:=rfl;rw[h1]at e;simp[execOp,ha.ev hx,ha.ev hy,eqGuard,binOp,ib,bI];exact e
theorem xY{k:IntKind}{a:Int}(hx:ev m x=some (.int .i64 a))(hy:ev m y=some (.int k 1)):Qt P N m S (.binOp .shr T x y yT) ty (.int .i64 (a/2)):=λs w _ _ _ _ ha _=>by
 have e:a.fdiv 2=a/2:=Int.fdiv_eq_ediv_of_nonneg a tF;simp[execOp,ha.ev hx,ha.ev hy,eqGuard,binOp,iS,bI,e]
theorem GS{e:TypeId}{q:Option Addr}{c:Nat}(hx:ev m x=some (.slice q n c))(hy:ev m y=some (.slice none 0 0))(b:Gp P T=some e):Qt P N m S (.binOp .eql T x y yT) ty (.bool q.isNone):=λa w _ _ _ _ ha _=>by
 have:=eu (P:=P) w T e q n c 0 0 (Q5 b);simp[execOp,ha.ev hx,ha.ev hy,eqGuard,this]
theorem RB{e:TypeId}{q:Option Addr}{c:Nat}(hx:ev m x=some (.slice q n c))(hy:ev m y=some (.slice none 0 0))(b:Gp P T=some e):Qt P N m S (.binOp .neq T x y yT) ty (.bool (!q.isNone)):=λa w _ _ _ _ ha _=>by
 have:=run_neq_slice_nil_any (P:=P) w T e q n c 0 0 (Q5 b);simp[execOp,ha.ev hx,ha.ev hy,eqGuard,this]
theorem Q4{parts:Array (Nat×Operand)}{c:List Value}(hp:GC m parts.toList=some ps)(b:Zx P T=some pl)(hz:XI P T=some z)(hb:Ex pl ps z c):Qt P N m S (.build T parts) ty (.agg c.toArray):=λa w _ _ _ _ ha _=>by
 have h:P.built T ps=some c.toArray:=by
  unfold Zx at b;unfold XI at hz;unfold Program.built;cases hi:P.info? T with
  |none=>rw[hi]at b;cases b
  |some i =>
   rw[hi]at b hz;cases hu:P.underlying T with
   |none=>rw[hu]at b;cases b
   |some d =>
    rw[hu]at b;cases d with
    |struct g =>
     dsimp only at b hz ⊢;cases f:i.zero with
     |none=>rw[f]at hz;cases hz
     |some k =>
      rw[f]at hz;simp only[aQ,ai]at hz;rw[b];have:=hb.fill;rw[<-hz]at this;simpa using this
    |_=>cases b
 have j:(parts.map λ(i,x)=>(i,a.eval x)).toList=ps:=by simpa using ha.parts hp
 have:=run_build (P:=P) w T (parts.map λ(i,x)=>(i,a.eval x)) _ (by rw[j];exact h);simp only[execOp,aj,this,ak,aG]
end
end
def extB(n:Nat)(l:Sl):Bool:=(l.take n).all λkv=>(look (l.drop n) kv.1).isNone
theorem exd(n:Nat){l m:Sl}(hb:extB n l=true)(hm:l.drop n=m):OK l m:=by
 subst hm;unfold extB at hb;have b:∀(a m:Sl),(a.all λkv=>(look m kv.1).isNone)=true->OK (a++m) m:=by
  intro a m
  induction a with
  |nil=>intro _;exact .refl
  |cons x a ih =>
   intro h;rw[List.all_cons,bF]at h;exact .cons h.1 (ih h.2)
 have:=b _ _ hb
 rwa [fi]at this
theorem wg[Dr]{P:Program}{N:Nat}{m:Sl}{w0:World}{F0:Gs}{fn:Func}{val:Unit->Value}{a:Unit->Gs->Prop}{bs:List (Nat×Obj)}{G:Gs->Prop}{t:Tmp}{v:Value}(b:fn.results=[ResultVar.tmp t].toArray)(h:look m t=some v)(c:val ()=v)(f:∀F,G F->a () F):Fin (df:=DH) (bodyPost P fn (SH w0 F0 val a)) .ret N m ⟨w0,F0,bs,G⟩ :=
 QP () b (.tmp h .nil) c f
def Hm.u1{a:Nat×Obj}{r:List (Nat×Obj)}:Hm (a::(b,o)::r) b o (λo'=>a::(b,o')::r) (a::r):=.there (.here)
def Hm.u2{a:Nat×Obj}{r:List (Nat×Obj)}:Hm (a::x1::(b,o)::r) b o (λo'=>a::x1::(b,o')::r) (a::x1::r):=.there (.there (.here))
def Hm.u3{c a:Nat×Obj}{r:List (Nat×Obj)}:Hm (c::x1::a::(b,o)::r) b o (λo'=>c::x1::a::(b,o')::r) (c::x1::a::r):=.there (.there (.there (.here)))
def Hm.u4{f c a:Nat×Obj}{r:List (Nat×Obj)}:Hm (f::x1::c::a::(b,o)::r) b o (λo'=>f::x1::c::a::(b,o')::r) (f::x1::c::a::r):=.there (.there (.there (.there (.here))))
def Hm.u5{g f c a:Nat×Obj}{r:List (Nat×Obj)}:Hm (g::x1::f::c::a::(b,o)::r) b o (λo'=>g::x1::f::c::a::(b,o')::r) (g::x1::f::c::a::r):=.there (.there (.there (.there (.there (.here)))))
def Hm.u6{h g f c a:Nat×Obj}{r:List (Nat×Obj)}:Hm (h::x1::g::f::c::a::(b,o)::r) b o (λo'=>h::x1::g::f::c::a::(b,o')::r) (h::x1::g::f::c::a::r):=.there (.there (.there (.there (.there (.there (.here))))))
theorem wS{a b:Int}(h:a=b:=by omega):some (aK .i64 a)=some (aK .i64 b):=congrArg (λz:Int=>some (aK .i64 z)) h
def wT{t:Tmp}{v:Value}(h:look m t=some v):Eu P m bs [.tmp t] [v]:=.tmp h .nil
def wU{t b:Tmp}{v a:Value}(h:look m t=some v)(c:look m b=some a):Eu P m bs [.tmp t,.tmp b] [v,a]:=.tmp h (.tmp c .nil)
def wV{v a b x y:Value}(c:pl=[(0,1),(1,1)])(ha:u.cells=[a].toArray)(hb:v.cells=[b].toArray):Ex pl [(0,u),(1,v)] [x,y] [a,b]:=by subst c;exact .cons (vs:=[a]) I ha rfl .h1 (.cons (vs:=[b]) I hb rfl (.skip .h1) .nil)
def wN[Dr][df:Df]{P:Program}{N:Nat}{m:Sl}{w0:World}{F0:Gs}{bs:List (Nat×Obj)}{G:Gs->Prop}{T T' ty:TypeId}{x:Operand}{b:Nat}{l:List Value}{a u1:Value}{fr:Nat×Nat}{f:Obj->List (Nat×Obj)}(h:ev m x=some (.pointer (some ⟨b,0,none⟩)))(ht:Z5 P T=some (true,2))(c:Own bs b (.cells (a::u1::l).toArray T' fr) f):Qt P N m (St ⟨w0,F0,bs,G⟩) (.load T x) ty (.agg [a,u1].toArray):=QJ (vs:=[a,u1]) h ht c .h2 rfl
def wO[Dr][df:Df]{P:Program}{N:Nat}{m:Sl}{w0:World}{F0:Gs}{bs:List (Nat×Obj)}{G:Gs->Prop}{T T' ty:TypeId}{x:Operand}{b:Nat}{l:List Value}{a u1 u2:Value}{fr:Nat×Nat}{f:Obj->List (Nat×Obj)}(h:ev m x=some (.pointer (some ⟨b,0,none⟩)))(ht:Z5 P T=some (true,3))(c:Own bs b (.cells (a::u1::u2::l).toArray T' fr) f):Qt P N m (St ⟨w0,F0,bs,G⟩) (.load T x) ty (.agg [a,u1,u2].toArray):=QJ (vs:=[a,u1,u2]) h ht c .h3 rfl
def wP[Dr][df:Df]{P:Program}{N:Nat}{m:Sl}{w0:World}{F0:Gs}{bs:List (Nat×Obj)}{G:Gs->Prop}{T T' ty:TypeId}{x:Operand}{b:Nat}{l:List Value}{a u1 u2 u3:Value}{fr:Nat×Nat}{f:Obj->List (Nat×Obj)}(h:ev m x=some (.pointer (some ⟨b,0,none⟩)))(ht:Z5 P T=some (true,4))(c:Own bs b (.cells (a::u1::u2::u3::l).toArray T' fr) f):Qt P N m (St ⟨w0,F0,bs,G⟩) (.load T x) ty (.agg [a,u1,u2,u3].toArray):=QJ (vs:=[a,u1,u2,u3]) h ht c .h4 rfl
def wQ[Dr][df:Df]{P:Program}{N:Nat}{m:Sl}{w0:World}{F0:Gs}{bs:List (Nat×Obj)}{G:Gs->Prop}{T T' ty:TypeId}{x:Operand}{b:Nat}{l:List Value}{c u1 u2 u3 u4 u5 u6 a:Value}{fr:Nat×Nat}{f:Obj->List (Nat×Obj)}(h:ev m x=some (.pointer (some ⟨b,0,none⟩)))(ht:Z5 P T=some (true,8))(g:Own bs b (.cells (c::u1::u2::u3::u4::u5::u6::a::l).toArray T' fr) f):Qt P N m (St ⟨w0,F0,bs,G⟩) (.load T x) ty (.agg [c,u1,u2,u3,u4,u5,u6,a].toArray):=QJ (vs:=[c,u1,u2,u3,u4,u5,u6,a]) h ht g .h8 rfl
def wR[Dr][df:Df]{P:Program}{N:Nat}{m:Sl}{w0:World}{F0:Gs}{bs:List (Nat×Obj)}{G:Gs->Prop}{T T' ty:TypeId}{x:Operand}{b:Nat}{l:List Value}{k j i g a u1 u2 u3:Value}{fr:Nat×Nat}{f:Obj->List (Nat×Obj)}(h:ev m x=some (.pointer (some ⟨b,4,none⟩)))(ht:Z5 P T=some (true,4))(c:Own bs b (.cells (k::j::i::g::a::u1::u2::u3::l).toArray T' fr) f):Qt P N m (St ⟨w0,F0,bs,G⟩) (.load T x) ty (.agg [a,u1,u2,u3].toArray):=QJ (vs:=[a,u1,u2,u3]) h ht c (.skip (.skip (.skip (.skip .h4)))) I

section
open Go Go.RowKit
section
variable[Dr][df:Df]
inductive AFr where
 |th (y:Code) | bl (id:Nat)
inductive AG where
 |j (c:Code) | s (ops:Array Oper) (l:List Oper) | f (e:Exit)
variable{P:Program}{Q:Exit->Act->World->Prop}{N:Nat}{m m':Sl}{E:Env}
@[reducible] def wF (P:Program) (Q:Exit->Act->World->Prop):List AFr->Exit->Act->World->Prop
 |[]=>Q
 |.th y::r=>Exit.then (y.wp P (wF P Q r)) (wF P Q r)
 |.bl a::r=>bc a (wF P Q r)
@[reducible] def wG (P:Program) (Q:Exit->Act->World->Prop) (N:Nat) (E:Env):AG->List AFr->Sl->Prop
 |.j c,st,m=>J P c (wF P Q st) N m E
 |.s a l,st,m=>JS P a (wF P Q st) l N m E
 |.f e,st,m=>Fin (wF P Q st) e N m E
def wH(m:Sl):Op->Option Value
 |.move x=>ev m x
 |.assign x=>ev m x
 |.binOp op _ x y _=>(ev m x).bind λvx=>(ev m y).bind λa=>It op vx a
 |.pick c x y=>match ev m c with
  |some (.bool true)=>if(ev m y).isSome then ev m x else none
  |some (.bool false)=>if(ev m x).isSome then ev m y else none
  |_=>none
 |.extract x i=>match ev m x with
  |some (.tuple vs)=>vs[i]?
  |_=>none
 |_=>none
def wI(N:Nat):AG->List AFr->Sl->Option (AG×List AFr×Sl)
 |.j (.seq x y),st,m=>some (.j x,.th y::st,m)
 |.j (.region _ ⟨l⟩ false),st,m=>some (.s l.toArray l,st,m)
 |.j (.block k c),st,m=>some (.j c,.bl k::st,m)
 |.j .skip,st,m=>some (.f .normal,st,m)
 |.j .ret,st,m=>some (.f .ret,st,m)
 |.j (.exit k),st,m=>some (.f (.exit k),st,m)
 |.f .normal,.th y::st,m=>some (.j y,st,m)
 |.f .normal,.bl _::st,m=>some (.f .normal,st,m)
 |.f (.exit i),.th _::st,m=>some (.f (.exit i),st,m)
 |.f (.exit i),.bl k::st,m=>match aX i k with
  |true=>some (.f .normal,st,m)
  |false=>some (.f (.exit i),st,m)
 |.f .ret,_::st,m=>some (.f .ret,st,m)
 |.s _ [],st,m=>some (.f .normal,st,m)
 |.s a (⟨some d,o,_,_,_,none⟩::l),st,m=>match wH m o,J5 N (some d)with
  |some v,true=>some (.s a l,st,(d,v)::m)
  |_,_=>none
 |.s a (⟨d,o,ty,pos,aft,some (g,h)⟩::l),st,m=>match ((a[g]?).bind (·.dst)).bind (look m),J5 N d with
  |some (.bool b),true=>match Bool.xor b h with
   |false=>some (.s a (⟨d,o,ty,pos,aft,none⟩::l),st,m)
   |true=>some (.s a l,st,upd m d undef)
  |_,_=>none
 |_,_,_=>none
def wJ(N:Nat):Nat->AG->List AFr->Sl->Option (AG×List AFr×Sl)
 |0,g,st,m=>some (g,st,m)
 |n+1,g,st,m=>match wI N g st m with
  |some (c,a,b)=>wJ N n c a b
  |none=>none
theorem wK{S:World->Prop}{ty:TypeId}{o:Op}{v:Value}(h:wH m o=some v):Qt P N m S o ty v:=by
 unfold wH at h;split at h
 ·exact QD h
 ·exact QF h
 ·obtain⟨vx,h1,h2⟩:=Option.bind_eq_some_iff.1 h;obtain⟨vy,h3,h4⟩:=Option.bind_eq_some_iff.1 h2;exact QT h1 h3 h4
 ·split at h
  ·rename_i hc;split at h
   ·rename_i hy;exact Qh hc h hy
   cases h
  ·rename_i hc;split at h
   ·rename_i hy;exact Qd hc hy h
   cases h
  cases h
 ·split at h
  ·rename_i hx;exact Qa hx h
  cases h
 cases h
theorem wL{g g':AG}{st st':List AFr}(h:wI N g st m=some (g',st',m'))(k:wG P Q N E g' st' m'):wG P Q N E g st m:=by
 unfold wI at h;split at h
 ·cases h;exact QG k
 ·cases h;exact QB k
 ·cases h;exact QV k
 ·cases h;exact QN k
 ·cases h;exact QX k
 ·cases h;exact Qx k
 ·cases h;exact QC k
 ·cases h;exact Qj k
 ·cases h;exact QY k
 ·split at h
  ·rename_i he;cases h;have he:=Nat.eq_of_beq_eq_true he;subst he;exact QZ k
  rename_i he;cases h;exact QO he k
 ·rename_i fr _;cases h;cases fr with
  |th y=>exact Q6 k
  |bl id=>exact Qv k
 ·cases h;exact QE k
 ·split at h
  ·rename_i hv hd;cases h;exact QA (wK hv) k hd
  cases h
 ·split at h
  ·rename_i hb hd;obtain⟨t,h1,h2⟩:=Option.bind_eq_some_iff.1 hb;split at h
   ·rename_i hx;cases h;exact QCY h1 h2 (λ_=>k) (λe=>by subst e;simp at hx) hd
   rename_i hx;cases h;exact QCY h1 h2 (λe=>by subst e;simp at hx) (λ_=>k) hd
  cases h
 cases h
theorem wM:∀(n:Nat) {g g':AG} {st st':List AFr} {m m':Sl},wJ N n g st m=some (g',st',m')->wG P Q N E g' st' m'->wG P Q N E g st m
 |0,g,g',st,st',m,m',h,k=>by cases h;exact k
 |n+1,g,g',st,st',m,m',h,k=>by
  unfold wJ at h;split at h
  ·rename_i h1;exact wL h1 (wM n h k)
  cases h
variable(n:Nat){g':AG}{st':List AFr}
theorem wA{c:Code}(h:wJ N n (.j c) [] m=some (g',st',m'))(k:wG P Q N E g' st' m'):J P c Q N m E:=wM (g:=.j c) (st:=[]) n h k
theorem wB{l:List Oper}(h:wJ N n (.s ops l) [] m=some (g',st',m'))(k:wG P Q N E g' st' m'):JS P ops Q l N m E:=wM (g:=.s ops l) (st:=[]) n h k
theorem wC{c y:Code}(h:wJ N n (.j c) [.th y] m=some (g',st',m'))(k:wG P Q N E g' st' m'):J P c (Exit.then (y.wp P Q) Q) N m E:=wM (g:=.j c) (st:=[.th y]) n h k
theorem wD{l:List Oper}{y:Code}(h:wJ N n (.s ops l) [.th y] m=some (g',st',m'))(k:wG P Q N E g' st' m'):JS P ops (Exit.then (y.wp P Q) Q) l N m E:=wM (g:=.s ops l) (st:=[.th y]) n h k
theorem wE{y:Code}(h:wJ N n (.f .normal) [.th y] m=some (g',st',m'))(k:wG P Q N E g' st' m'):Fin (Exit.then (y.wp P Q) Q) .normal N m E:=wM (g:=.f .normal) (st:=[.th y]) n h k
end
end
theorem JK:Z5 prog 3=some (false,1):=tE
theorem R4:XI prog 3=some [.int .i64 0]:=tE
theorem F6:ZK prog 3=some 8:=tE
theorem k_3:Nl prog 3=some .i64:=tE
theorem QEO:(prog.underlying 3).isSome=true:=tE
theorem QEQ:Z5 prog 5=some (false,1):=tE
theorem z_5:XI prog 5=some [.int .u8 0]:=tE
theorem QHs:ZK prog 5=some 1:=tE
theorem Du:Z5 prog 9=some (false,1):=tE
theorem z_9:XI prog 9=some [.string .empty]:=tE
theorem QHr:ZK prog 9=some 16:=tE
theorem Zm:BZ prog 9=true:=tE
theorem JF:Z5 prog 22=some (false,1):=tE
theorem Im:XI prog 22=some [.string .empty]:=tE
theorem QDD:ZK prog 22=some 16:=tE
theorem Jd:Z5 prog 40=some (true,2):=tE
theorem Xa:XI prog 40=some [.string .empty,.string .empty]:=tE
theorem QAH:ZK prog 40=some 32:=tE
theorem Zb:Zx prog 40=some [(0,1),(1,1)]:=tE
theorem V6:Yv prog 40 0=some (0,22):=tE
theorem We:Yv prog 40 1=some (1,22):=tE
theorem YS:Z5 prog 26=some (false,1):=tE
theorem Ht:XI prog 26=some [.int .i64 0]:=tE
theorem J0:Z5 prog 36=some (false,1):=tE
theorem QEI:XI prog 36=some [.slice none 0 0]:=tE
theorem QFb:ZK prog 36=some 24:=tE
theorem XF:Gp prog 36=some 40:=tE
theorem YG:Gp prog 25=some 22:=tE
theorem Vu:Z5 prog 76=some (false,1):=tE
theorem QEH:XI prog 76=some [.slice none 0 0]:=tE
theorem Zg:Gp prog 76=some 108:=tE
theorem Z6:Z5 prog 35=some (false,1):=tE
theorem VJ:Gp prog 35=some 76:=tE
theorem JM:Z5 prog 106=some (false,1):=tE
theorem Q2:Gp prog 106=some 3:=tE
theorem Xh:Z5 prog 108=some (true,2):=tE
theorem KV:XI prog 108=some [.string .empty,.slice none 0 0]:=tE
theorem BC:Zx prog 108=some [(0,1),(1,1)]:=tE
theorem GM:Yv prog 108 0=some (0,22):=tE
theorem Yh:Yv prog 108 1=some (1,106):=tE
theorem Vj:Z5 prog 131=some (false,1):=tE
theorem KB:Gp prog 131=some 297:=tE
theorem Qi:Z5 prog 133=some (true,2):=tE
theorem Ym:XI prog 133=some [.int .i64 0,.slice none 0 0]:=tE
theorem QBO:Zx prog 133=some [(0,1),(1,1)]:=tE
theorem Eb:Yv prog 133 0=some (0,3):=tE
theorem Bm:Yv prog 133 1=some (1,131):=tE
theorem QS:Z5 prog 135=some (true,4):=tE
theorem Jw:XI prog 135=some [.int .i64 0,.slice none 0 0,.int .i64 0,.slice none 0 0]:=tE
theorem QCL:ZK prog 135=some 64:=tE
theorem MG:Zx prog 135=some [(0,2),(2,2)]:=tE
theorem Zp:Yv prog 135 0=some (0,133):=tE
theorem Zo:Yv prog 135 1=some (2,133):=tE
theorem YJ:Z5 prog 190=some (false,1):=tE
theorem U6:XI prog 190=some [.slice none 0 0]:=tE
theorem kB:ZK prog 190=some 24:=tE
theorem Yt:Gp prog 190=some 263:=tE
theorem Xw:Z5 prog 263=some (true,5):=tE
theorem GN:XI prog 263=some [.int .i64 0,.slice none 0 0,.int .i64 0,.slice none 0 0,.slice none 0 0]:=tE
theorem QCI:ZK prog 263=some 88:=tE
theorem zA:Zx prog 263=some [(0,4),(4,1)]:=tE
theorem Wy:Yv prog 263 0=some (0,135):=tE
theorem V7:Yv prog 263 1=some (4,106):=tE
theorem YK:Z5 prog 186=some (false,1):=tE
theorem YT:Gp prog 186=some 190:=tE
theorem Xb:Gp prog 138=some 135:=tE
theorem ZM:Gp prog 249=some 26:=tE
theorem cZ:Nl prog 337=some .u64:=tE
theorem Pn:Z5 prog 297=some (false,1):=tE
theorem QEJ:XI prog 297=some [.int .u64 0]:=tE
theorem VU:Z5 prog 34=some (false,1):=tE
theorem Kw:Gp prog 34=some 9:=tE
theorem E8:Z5 prog 323=some (false,1):=tE
theorem Hu:Z5 prog 324=some (false,1):=tE
theorem LN:Gp prog 324=some 5:=tE
theorem uW:XI prog 326=some [.pointer none,.slice none 0 0]:=tE
theorem UZ:Yv prog 326 0=some (0,323):=tE
theorem N5:Yv prog 326 1=some (1,324):=tE
theorem mixed:prog.follows .mixedOrders=true:=tE
end Go.Proofs.YtjcphjpkimmmjaaGreatDoor
namespace Ig
def dv(b:Int):List Int->Int
 |[]=>0
 |x::l=>x+b*dv b l
def DG(b:Int)(l:List Int):Prop:=∀x∈l,0<=x/\x<b
def NZ(l:List Int):Prop:=l.getLast?≠some 0
@[simp] theorem yi (b:Int):dv b []=0:=rfl
@[simp] theorem Vi (b x:Int) (l:List Int):dv b (x::l)=x+b*dv b l:=rfl
theorem YD(b:Int)(l m:List Int):dv b (l++m)=dv b l+b^l.length*dv b m:=by
 induction l with
 |nil=>simp
 |cons x l ih=>simp only[fX,Vi,ih,aO];rw[aC];grind
def X9(b x:Int)(l:List Int):dv b (l++[x])=dv b l+b^l.length*x:=by
 rw[YD];simp
def DG.nil(b:Int):DG b []:=by intro x hx;cases hx
def DG.cons{b x:Int}{l:List Int}(h0:0<=x)(h1:x<b)(h:DG b l):DG b (x::l):=by
 intro y hy;rcases List.mem_cons.1 hy with rfl | hy
 ·exact⟨h0,h1⟩
 exact h y hy
def DG.head{b x:Int}{l:List Int}(h:DG b (x::l)):0<=x/\x<b:=h x tJ
def DG.tail{b x:Int}{l:List Int}(h:DG b (x::l)):DG b l:=λy hy=>h y (by simp[hy])
def DG.append{b:Int}{l m:List Int}(h:DG b l)(k:DG b m):DG b (l++m):=by
 intro x hx;rcases List.mem_append.1 hx with hx | hx
 ·exact h x hx
 exact k x hx
def DG.left{b:Int}{l m:List Int}(h:DG b (l++m)):DG b l:=λx hx=>h x (by simp[hx])
def DG.right{b:Int}{l m:List Int}(h:DG b (l++m)):DG b m:=λx hx=>h x (by simp[hx])
def DG.take{b:Int}{l:List Int}(h:DG b l)(n:Nat):DG b (l.take n):=λx hx=>h x (List.mem_of_mem_take hx)
def DG.drop{b:Int}{l:List Int}(h:DG b l)(n:Nat):DG b (l.drop n):=λx hx=>h x (List.mem_of_mem_drop hx)
def DG.replicate{b:Int}(hb:0<b)(n:Nat):DG b (ah n 0):=by
 intro x hx;have:=List.eq_of_mem_replicate hx;omega
def DG.getD{b:Int}{l:List Int}(hb:0<b)(h:DG b l)(i:Nat):0<=l.getD i 0/\l.getD i 0<b:=by
 by_cases hi:i<l.length
 ·have:l.getD i 0=l[i]:=by simp[bD,hi]
  rw[this];exact h _ (fW hi)
 have:l.getD i 0=0:=by simp[bD,hi]
 omega
def DG.set{b:Int}{l:List Int}(h:DG b l)(i:Nat){x:Int}(h0:0<=x)(h1:x<b):DG b (l.set i x):=by
 intro y hy;rcases List.mem_or_eq_of_mem_set hy with hy | rfl
 ·exact h y hy
 exact⟨h0,h1⟩
def pow_pos{b:Int}(hb:0<b)(n:Nat):0<b^n:=ji hb
def X0{b:Int}(hb:1<=b){m n:Nat}(h:m<=n):b^m<=b^n:=by
 obtain⟨k,rfl⟩:=Nat.exists_eq_add_of_le h;rw[fC];have h1:=pow_pos (b:=b) O m;have h2:=pow_pos (b:=b) O k;have h3:b^m*1<=b^m*b^k:=af O O;omega
def JJ{b:Int}(hb:0<b):∀ {l:List Int},DG b l->0<=dv b l
 |[],_=>tJ
 |x::l,h=>by
  have:=JJ hb h.tail;have:=aJ (bh hb) this;have:=h.head;simp;omega
def Kl{b:Int}(hb:0<b):∀ {l:List Int},DG b l->dv b l<b^l.length
 |[],_=>tJ
 |x::l,h=>by
  have h1:=Kl hb h.tail;have h2:=h.head;have h3:b*(dv b l+1)<=b*b^l.length:=af O (bh hb);rw[aO,aC,bO (b^l.length) b];rw[fD]at h3;simp;omega
def TS(b:Int)(n:Nat):dv b (ah n 0)=0:=by
 induction n with
 |zero=>rfl
 |succ n ih=>simp[bj,ih]
def Vy(b:Int)(l:List Int)(n:Nat)(h:n<=l.length):dv b l=dv b (l.take n)+b^n*dv b (l.drop n):=by
 have:=YD b (l.take n) (l.drop n);rw[fi,aq,aS h]at this;exact this
def GP{α:Type}(l:List α)(n:Nat)(h:n<l.length):l.take (n+1)=l.take n++[l[n]]:=by
 rw[List.take_succ_eq_append_getElem h]
def Bo(b:Int)(l:List Int)(n:Nat)(h:n<l.length):dv b (l.take (n+1))=dv b (l.take n)+b^n*l[n]:=by
 rw[GP l n h,X9,aq,aS O]
def Rm{b:Int}(hb:0<b){l:List Int}(h:DG b l)(c:NZ l)(a:l≠[]):b^(l.length-1)<=dv b l:=by
 obtain⟨m,x,rfl⟩:∃m x,l=m++[x]:=⟨l.dropLast,l.getLast a,(eO a).symm⟩;rw[X9];have h1:x≠0:=by intro e;subst e;exact c tJ
 have h2:=h x tJ;have h3:=JJ hb h.left;have h4:=pow_pos hb m.length;have h5:b^m.length*1<=b^m.length*x:=af O O;simp;omega
def Jf(l:List Int):List Int:=(l.reverse.dropWhile (·==0)).reverse
def Kv(l:List Int):Jf (l++[0])=Jf l:=by simp[Jf]
def Hx(l:List Int){x:Int}(h:x≠0):Jf (l++[x])=l++[x]:=by simp[Jf,h]
def IV:Jf []=[]:=rfl
def LK(l:List Int):l=[]\/∃m x,l=m++[x]:=by
 by_cases a:l=[]
 ·exact .inl a
 exact .inr ⟨l.dropLast,l.getLast a,(eO a).symm⟩
def AU{P:List Int->Prop}(h0:P [])(h1:∀l x,P l->P (l++[x]))(l:List Int):P l:=by
 have:∀m:List Int,P m.reverse:=by
  intro m;induction m with
  |nil=>exact h0
  |cons x m ih=>rw[List.reverse_cons];exact h1 _ _ ih
 simpa using this l.reverse
def Sc(l:List Int):∃n,l=Jf l++ah n 0:=by
 induction l using AU with
 |h0=>exact⟨0,rfl⟩
 |h1 l x ih =>
  by_cases hx:x=0
  ·subst hx;obtain⟨n,a⟩:=ih;refine⟨n+1,?_⟩;rw[Kv,List.replicate_succ',<-bw,<-a]
  exact⟨0,by rw[Hx l hx];simp⟩
def Pp(l:List Int):Jf l=l.take (Jf l).length:=by
 obtain⟨n,a⟩:=Sc l;have:l.take (Jf l).length=(Jf l++ah n 0).take (Jf l).length:=by rw[<-a]
 rw[this];simp
def ZH(b:Int)(l:List Int):dv b (Jf l)=dv b l:=by
 obtain⟨n,a⟩:=Sc l;have:dv b l=dv b (Jf l++ah n 0):=by rw[<-a]
 rw[this,YD,TS];simp
def Zu(l:List Int):NZ (Jf l):=by
 induction l using AU with
 |h0=>simp[IV,NZ]
 |h1 l x ih =>
  by_cases hx:x=0
  ·subst hx;rw[Kv];exact ih
  rw[Hx l hx];simp[NZ,hx]
def DG.Jf{b:Int}{l:List Int}(h:DG b l):DG b (Jf l):=by rw[Pp];exact h.take _
def Rl{b:Int}(hb:0<b):∀ {l m:List Int},DG b l->DG b m->l.length=m.length->dv b l=dv b m->l=m
 |[],[],_,_,_,_=>rfl
 |x::l,y::m,h,k,a,e=>by
  have h1:=h.head;have h2:=k.head;simp only[Vi]at e;have g:x=y:=by
   have j:(x+b*dv b l)%b=x:=by rw[fa];exact bS h1.1 h1.2
   have i:(y+b*dv b m)%b=y:=by rw[fa];exact bS h2.1 h2.2
   rw[<-j,<-i,e]
  subst g;have f:b*dv b l=b*dv b m:=O;have c:=Int.eq_of_mul_eq_mul_left O f;rw[Rl hb h.tail k.tail (by simpa using a) c]
def ZQ{b:Int}(hb:1<b){l m:List Int}(h:DG b l)(k:DG b m)(a:NZ m)(c:l.length<m.length):dv b l<dv b m:=by
 have h1:=Kl O h;have h2:=Rm O k a (by intro e;subst e;simp at c);have h3:b^l.length<=b^(m.length-1):=X0 O O;omega
def pf{b:Int}(hb:1<b){l m:List Int}(h:DG b l)(k:DG b m)(c:NZ l)(a:NZ m)(e:dv b l=dv b m):l=m:=by
 refine Rl O h k ?_ e;rcases fU l.length m.length with g | g | g
 ·have:=ZQ hb h k a g;omega
 ·exact g
 have:=ZQ hb k h c g;omega
def GF{b:Int}(hb:1<b){l:List Int}(h:DG b l)(a:NZ l):dv b l=0↔l=[]:=by
 constructor
 ·intro e;exact pf hb h (DG.nil b) a (by simp[NZ]) (by simpa using e)
 rintro rfl;rfl
def Dm(x:Int):Int:=if x<0 then -1 else if x=0 then 0 else 1
def YF(x y:Int):Int:=if x<y then -1 else if x=y then 0 else 1
def y6(x y:Int):YF x y=Dm (x-y):=by unfold YF Dm;split<;>split<;>(try split)<;>omega
def L0{b:Int}(hb:0<b){l m:List Int}{x y:Int}(h:DG b l)(k:DG b m)(a:l.length=m.length)(c:x<y):
  dv b (l++[x])<dv b (m++[y]):=by
 rw[X9,X9,a];have h1:=Kl hb h;have h2:=JJ hb k;rw[a]at h1;have h3:b^m.length*(x+1)<=b^m.length*y:=af O (bh (pow_pos hb _));rw[fD]at h3;omega
def L8{b:Int}(hb:0<b){l m:List Int}(h:DG b l)(k:DG b m)(g:l.length=m.length)(n:Nat)(f:n<l.length)
  (c:l.drop (n+1)=m.drop (n+1)) (a:l[n]<m[n]' O):dv b l<dv b m:=by
 rw[Vy b l (n+1) O,Vy b m (n+1) O,c,GP l n f,GP m n O];have:=L0 hb (h.take n) (k.take n) tK a;omega
end Ig
namespace Go.Proofs.YtjcphjpkimmmjaaGreatDoor
variable{w w' w0:World}{E N b bytes i k n off:Nat}{a:Act}{c cs l l' news z:List Value}{o:Obj}{u v1 v3 v4 v5 x2 x3 x4 x5 x6 x7 x8:Value}{A0 A1 A2 A3 A4 A5 A6 A7 A8 A9 α γ ι:Type}{T T' yT:TypeId}{ops:Array Oper}{Q Q':Exit->Act->World->Prop}{tl:List Oper}{K:Act->World->Prop}{g:Bool}{x y:Operand}{bs bs' bs0 ob:List (Nat×Obj)}{fr:Nat×Nat}{P:Program}{f:Obj->List (Nat×Obj)}{fn:Func}{aft:Array Edge}{gd:Option (Nat×Bool)}{x1:Nat×Obj}{ps:List (Nat×Value)}{s:ByteArray}{pl:List (Nat×Nat)}{ds:List Int}{h:Int}{F F0:Gs}{G:Gs->Prop}{m:Sl}
open Go.RowKit Ig
def W:Int:=18446744073709551616
def HK:W=18446744073709551616:=rfl
def Ju:0<W:=tF
def Nj:1<W:=tF
def KF(w:World)(s:Int)(q:Option Addr)(n cap:Nat)(z:Int):Prop :=
 (q=none/\n=0/\cap=0/\s=z/\-9223372036854775808<=z/\z<=9223372036854775807) \/
 ∃(b off:Nat) (l:List Int),q=some ⟨b,off,none⟩/\n=l.length/\l.length<=cap/\(cap:Int)<=9223372036854775807/\Cells w q Jm l /\
  DG W l/\NZ l/\l≠[]/\(s=1\/s = -1)/\z=s*dv W l/\9223372036854775808<=dv W l
def Xj(w:World)(v:Value)(z:Int):Prop:=∃s q n cap,v = .agg #[.int .i64 s,.slice q n cap]/\KF w s q n cap z
theorem KF.ext(h:Ext w w'){s:Int}{q:Option Addr}{n cap:Nat}{z:Int}(a:KF w s q n cap z):KF w' s q n cap z:=by
 rcases a with a | ⟨b,off,l,h1,h2,h3,h4,h5,h6⟩
 ·exact .inl a
 exact .inr ⟨b,off,l,h1,h2,h3,h4,h5.ext h,h6⟩
theorem Xj.ext(h:Ext w w'){v:Value}{z:Int}(a:Xj w v z):Xj w' v z:=by
 obtain⟨s,q,n,cap,rfl,hp⟩:=a;exact⟨s,q,n,cap,rfl,hp.ext h⟩
def Xj.small(w:World){z:Int}(h0 : -9223372036854775808<=z)(h1:z<=9223372036854775807):Xj w (.agg #[.int .i64 z,.slice none 0 0]) z :=
 ⟨z,none,0,0,rfl,.inl ⟨rfl,rfl,rfl,rfl,h0,h1⟩⟩
def Zl(w:World)(R:Value->World->Prop)(e:Ending)(w':World):Prop:=∃v,e = .returned v/\R v w'/\Ext w w'
def Js(z:Int):Int:=if z<0 then -z else z
def ET{z:Int}(h:z<0):Js z = -z:=if_pos h
def GY{z:Int}(h:0<=z):Js z=z:=if_neg O
def VQ(z:Int):Js z=z.natAbs:=by unfold Js;split<;>omega
def sg(neg:Bool)(n:Int):Int:=if neg then -n else n
theorem zj(neg:Bool)(q:Option Addr)(cap:Nat)(w:World):
  Calls prog 267 #[.bool neg,.slice q 0 cap] w λe w'=>Zl w (λv w'=>Xj w' v 0) e w':=by
 go_enter func267,ntmps267
 go_wp2
 exact bodyPost_ret (v:=.agg #[.int .i64 0,.slice none 0 0]) (by simp[results,results267,go_sem]) I ⟨_,rfl,Xj.small _ tF tF,(Ext.refl _).alloc _⟩
theorem zi(neg:Bool)(b off cap:Nat)(x:Int)(w:World)(hc:w.cell? ⟨b,off,none⟩=some (.int .u64 x))(h0:0<=x)(h1:x<=9223372036854775807)(hb:b<w.heap.size):
  Calls prog 267 #[.bool neg,.slice (some ⟨b,off,none⟩) 1 cap] w λe w'=>Zl w (λv w'=>Xj w' v (sg neg x)) e w':=by
 cases neg
 ·go_enter func267,ntmps267
  go_wp2
  exact bodyPost_ret (v:=.agg #[.int .i64 x,.slice none 0 0]) (by simp[results,results267,go_sem]) I ⟨_,rfl,Xj.small _ O O,(Ext.refl _).alloc _⟩
 go_enter func267,ntmps267
 go_wp2
 exact bodyPost_ret (v:=.agg #[.int .i64 (-x),.slice none 0 0]) (by simp[results,results267,go_sem]) I ⟨_,rfl,Xj.small _ O O,(Ext.refl _).alloc _⟩
theorem qK(neg:Bool)(b off cap:Nat)(x:Int)(w:World)(hc:w.cell? ⟨b,off,none⟩=some (.int .u64 x))(h1:9223372036854775808<=x)(hb:b<w.heap.size):
  Calls prog 267 #[.bool neg,.slice (some ⟨b,off,none⟩) 1 cap] w λe w'=>e = .returned (.agg #[.int .i64 (if neg then -1 else 1),.slice (some ⟨b,off,none⟩) 1 cap])/\Ext w w':=by
 cases neg
 ·go_enter func267,ntmps267
  go_wp2
  exact bodyPost_ret (v:=.agg #[.int .i64 1,.slice (some ⟨b,off,none⟩) 1 cap]) (by simp[results,results267,go_sem]) I ⟨rfl,(Ext.refl _).alloc _⟩
 go_enter func267,ntmps267
 go_wp2
 exact bodyPost_ret (v:=.agg #[.int .i64 (-1),.slice (some ⟨b,off,none⟩) 1 cap]) (by simp[results,results267,go_sem]) I ⟨rfl,(Ext.refl _).alloc _⟩
theorem qJ(neg:Bool)(q:Option Addr)(n cap:Nat)(w:World)(a:2<=n):
  Calls prog 267 #[.bool neg,.slice q n cap] w λe w'=>e = .returned (.agg #[.int .i64 (if neg then -1 else 1),.slice q n cap])/\Ext w w':=by
 cases neg
 ·go_enter func267,ntmps267
  go_wp2
  exact bodyPost_ret (v:=.agg #[.int .i64 1,.slice q n cap]) (by simp[results,results267,go_sem]) I ⟨rfl,(Ext.refl _).alloc _⟩
 go_enter func267,ntmps267
 go_wp2
 exact bodyPost_ret (v:=.agg #[.int .i64 (-1),.slice q n cap]) (by simp[results,results267,go_sem]) I ⟨rfl,(Ext.refl _).alloc _⟩
theorem Wa(neg:Bool)(v:Value)(l:List Int)(w:World)(g:SL w v Jm l)(hd:DG W l)(a:NZ l):
  Calls prog 267 #[.bool neg,v] w λe w'=>Zl w (λv w'=>Xj w' v (sg neg (dv W l))) e w':=by
 obtain⟨q,cap,rfl,h2,h3,h4⟩:=g
 match l,hd,a,h2,h4 with
 |[],hd,a,h2,h4=>exact(zj neg q cap w).mono λe w' h=>by cases neg<;>exact h
 |[x],hd,a,h2,h4 =>
  obtain⟨b,off,rfl,hb,hc⟩:=h4 0 tJ;have hx:=hd.head;have f:dv W [x]=x:=tJ;rw[f];by_cases c:x<=9223372036854775807
  ·exact zi neg b off cap x w hc hx.1 c hb.lt
  refine(qK neg b off cap x w hc O hb.lt).mono λe w' ⟨h,k⟩=>⟨_,h,⟨_,_,_,_,rfl,.inr ⟨b,off,[x],rfl,rfl,h2,h3,h4.ext k,hd,a,tJ,?_,?_,by rw[f];omega⟩⟩,k⟩
  ·cases neg<;>simp
  cases neg<;>simp[sg]
 |x::y::l,hd,a,h2,h4 =>
  obtain⟨b,off,rfl,hb,hc⟩:=h4 0 tJ;refine(qJ neg _ _ cap w tJ).mono λe w' ⟨h,k⟩=>⟨_,h,⟨_,_,_,_,rfl,.inr ⟨b,off,x::y::l,rfl,rfl,h2,h3,h4.ext k,hd,a,tJ,?_,?_,?_⟩⟩,k⟩
  ·cases neg<;>simp
  ·cases neg<;>simp[sg]
  have:=Rm Ju hd a tJ;have h6:=X0 (b:=W) tF (m:=1) (n:=(x::y::l).length-1) tJ;have h7:W^1=18446744073709551616:=tF;omega
theorem qE(s:Int)(b off n cap:Nat)(w:World):
  Calls prog 266 #[.agg #[.int .i64 s,.slice (some ⟨b,off,none⟩) n cap]] w λe w'=>e = .returned (.tuple #[.bool (decide (s<0)),.slice (some ⟨b,off,none⟩) n cap])/\Ext w w':=by
 have a:=λw=>run_neq_slice_nil_any (P:=prog) w 131 297 (some ⟨b,off,none⟩) n cap 0 0 underlying131;go_enter func266,ntmps266
 go_wp2
 go_quiet (fail)
 go_wp2
 go_ret2
 exact⟨rfl,((Ext.refl _).alloc _).drewN _⟩
theorem Lg(w:World):
  Calls prog 266 #[.agg #[.int .i64 0,.slice none 0 0]] w λe w'=>e = .returned (.tuple #[.bool false,.slice none 0 0])/\Ext w w':=by
 have a:=λw=>run_neq_slice_nil_any (P:=prog) w 131 297 none 0 0 0 0 underlying131;go_enter func266,ntmps266
 go_wp2
 go_ret2
 exact⟨rfl,(Ext.refl _).alloc _⟩
def Ci(n:Int)(h0 : -9223372036854775808<=n)(h:n<0):IntKind.u64.wrap (wrap64 (-n))=Js n:=by
 rw[ET h];have e:IntKind.u64.wrap (wrap64 (-n))=(wrap64 (-n))%18446744073709551616:=by simp[ij,fR,bI]
 rw[e];unfold wrap64;omega
theorem H6(n:Int)(w:World)(h0 : -9223372036854775808<=n)(h1:n<=9223372036854775807):
  Calls prog 265 #[.int .i64 n] w λe w'=>e = .returned (.int .u64 (Js n))/\w=w':=by
 by_cases h:n<0
 ·have H:=aa (Ci n h0 h);go_enter func265,ntmps265
  go_wp2
  go_ret
  exact⟨congrArg (λx=>fT (.int .u64 x)) H.out,rfl⟩
 have H:=aa (GY (z:=n) O);go_enter func265,ntmps265
 go_wp2
 go_ret
 exact⟨congrArg (λx=>fT (.int .u64 x)) H.out.symm,rfl⟩
theorem Ap(z:Int)(w:World)(hz:(z==0)=false)(h0 : -9223372036854775808<=z)(h1:z<=9223372036854775807):
  Calls prog 266 #[.agg #[.int .i64 z,.slice none 0 0]] w λe w'=>(∃b,e = .returned (.tuple #[.bool (decide (z<0)),.slice (some ⟨b,0,none⟩) 1 1])/\Y7 w' b 297 Jm [Js z])/\Ext w w':=by
 have a:=λw=>run_neq_slice_nil_any (P:=prog) w 131 297 none 0 0 0 0 underlying131;go_enter func266,ntmps266
 go_wp2
 go_region_held3 (λw'=>w'.cell? ⟨w.heap.size,0,none⟩=some (.int .i64 z)) (go_keep) (first | (go_at_call 265;refine(H6 _ _ h0 h1).mono ?_;rintro e w' ⟨rfl,rfl⟩))
 go_wp2
 go_ret2
 exact⟨⟨_,rfl,(Y7.QHc _ _ 297 Jm [Js z] _ I tJ).drew⟩,(((Ext.refl _).alloc _).alloc _).drew⟩
theorem KJ(v:Value)(z:Int)(w:World)(a:Xj w v z):
  Calls prog 266 #[v] w λe w'=>Zl w (λr w'=>∃p l,r = .tuple #[.bool (decide (z<0)),p]/\SL w' p Jm l/\DG W l/\NZ l/\dv W l=Js z) e w':=by
 obtain⟨s,q,n,cap,rfl,hp⟩:=a;rcases hp with ⟨rfl,rfl,rfl,rfl,h0,h1⟩ | ⟨b,off,l,rfl,rfl,h3,h4,h5,h6,h7,h8,h9,h10,h11⟩
 ·by_cases hz:s=0
  ·subst hz;exact(Lg w).mono λe w' ⟨h,k⟩=>⟨_,h,⟨_,[],rfl,SL.nil _ _,DG.nil _,by simp[NZ],rfl⟩,k⟩
  refine(Ap s w (by simpa using hz) h0 h1).mono λe w' ⟨⟨b,h,hb⟩,k⟩=>⟨_,h,⟨_,[Js s],rfl,SL.BE hb 1 (au _) tJ,?_,?_,tJ⟩,k⟩
  ·have:Js s=s.natAbs:=VQ s;have:=HK;exact DG.cons O O (DG.nil _)
  have:Js s=s.natAbs:=VQ s;simp[NZ];omega
 have hz:decide (s<0)=decide (z<0)/\dv W l=Js z:=by
  rcases h9 with rfl | rfl
  ·rw[jj]at h10;rw[GY O];exact⟨tK,h10.symm⟩
  have:z = -dv W l:=by rw[h10];omega
  rw[ET O];exact⟨tK,O⟩
 refine(qE s b off _ cap w).mono λe w' ⟨h,k⟩=>⟨_,h,⟨_,l,by rw[hz.1],⟨_,_,rfl,h3,h4,h5.ext k⟩,h6,h7,hz.2⟩,k⟩
def RZ{l:List Int}(h:k<l.length):l.getD k default=l[k]:=by simp[bD,h]
theorem VV(v:Value)(l:List Int)(w:World)(f:SL w v Jm l):
  Calls prog 310 #[v] w λe w'=>(∃v',e = .returned v'/\SL w v' Jm (Jf l))/\w=w':=by
 obtain⟨q,cap,rfl,c,a,hc⟩:=f;have HC:=aa hc;clear hc;go_enter func310,ntmps310
 go_wp2
 go_loop [3] (λn=>∃k:Nat,k<=l.length/\n = .int .i64 k/\Jf l=Jf (l.take k)) λn=>(intOf n).toNat
 case atStart=>exact⟨l.length,au _,rfl,by rw[bC]⟩
 case round =>
  obtain⟨k,hk,rfl,he⟩:=hrel;have HE:=aa he;clear he;cases k with
  |zero =>
   go_wp2
   go_ret
   exact⟨⟨_,rfl,by rw[HE.out];exact⟨q,cap,rfl,by simp[Jf],a,λi hi=>by simp[Jf]at hi⟩⟩,rfl⟩
  |succ k =>
   obtain⟨b,off,rfl,hb,hc⟩:=HC.out k O;simp only[Jm]at hc;have HT:=aa (GP l k O);rw[RZ O]at hc;generalize hx:l[k]=x at hc;have HX:=aa hx;clear hx;by_cases h0:x=0
   ·have h1:(x==0)=true:=by simp[h0]
    go_wp2
    go_round
    case rel=>exact⟨k,O,rfl,by rw[HE.out,HT.out,HX.out,h0,Kv]⟩
    case measure=>simp[intOf]
   have h1:(x==0)=false:=by simp[h0]
   go_wp2
   go_ret
   have g:Jf l=l.take (k+1):=by rw[HE.out,HT.out,HX.out,Hx _ h0,<-HX.out,<-HT.out]
   exact⟨⟨_,rfl,by rw[g];exact⟨_,cap,by rw[aq,aS O];rfl,by rw[aq];omega,a,HC.out.take _⟩⟩,rfl⟩
def sz(z:Int):Nat:=if z=0 then 0 else z.natAbs.log2+1
def E6(z:Int):z.natAbs<2^sz z:=by
 unfold sz;split
 ·simp[*]
 exact Nat.lt_log2_self
theorem XD(z:Int)(k:Nat):sz z<=k↔z.natAbs<2^k:=by
 constructor
 ·intro h;exact fN (E6 z) (Nat.pow_le_pow_right tF h)
 intro h;unfold sz;split
 ·exact bQ _
 rename_i hz;have:z.natAbs.log2<k:=(Nat.log2_lt O).2 h;omega
def K8(a b:Int):sz (a*b)<=sz a+sz b:=by
 rw[XD,Int.natAbs_mul,eM];have h1:=E6 a;have h2:=E6 b
 calc a.natAbs*b.natAbs<=a.natAbs*2^sz b:=fH _ (Nat.le_of_lt h2)
  _<2^sz a*2^sz b:=eV h1 (Nat.pow_pos tF)
def LC(a b:Int):sz (a+b)<=max (sz a) (sz b)+1:=by
 rw[XD,Nat.pow_succ];have h1:=(XD a (max (sz a) (sz b))).1 (Nat.le_max_left _ _);have h2:=(XD b (max (sz a) (sz b))).1 (Nat.le_max_right _ _);omega
def KX{a b:Int}(h:a.natAbs<=b.natAbs):sz a<=sz b:=by
 rw[XD];exact Nat.lt_of_le_of_lt h (E6 b)
def Vm(a:Int):sz (-a)=sz a:=by unfold sz;simp
def Nq(a:Int):sz (Js a)=sz a:=by unfold Js;split<;>simp[Vm]
theorem QBl{l:List Int}(h:DG W l)(b:NZ l):l.length<=sz (dv W l):=by
 by_cases a:l=[]
 ·subst a;simp
 have h1:=Rm Ju h b a;have h2:=E6 (dv W l);have h0:=JJ Ju h;have h3:(2:Int)^(l.length-1)<=W^(l.length-1):=by
  generalize l.length-1=k
  induction k with
  |zero=>simp
  |succ k ih=>rw[aC,aC];exact ix ih tF tF (bh (pow_pos Ju k))
 have h4:(2:Int)^(l.length-1)<2^sz (dv W l):=by
  have:((dv W l).natAbs:Int)<((2^sz (dv W l):Nat):Int):=O;rw[aU]at this;have e:((dv W l).natAbs:Int)=dv W l:=O;rw[e]at this;have c:((2:Nat):Int)=2:=rfl;rw[c]at this;omega
 have h5:2^(l.length-1)<2^sz (dv W l):=by
  have:((2^(l.length-1):Nat):Int)<((2^sz (dv W l):Nat):Int):=by
   rw[aU,aU];exact h4
  omega
 have:=(Nat.pow_lt_pow_iff_right (by decide:1<2)).1 h5;omega
theorem AX(v:Value)(z:Int)(w:World)(c:Xj w v z):
  Calls prog 181 #[v] w λe w'=>e = .returned (.int .i64 (Dm z))/\Ext w w':=by
 obtain⟨s,q,n,cap,rfl,hp⟩:=c;have a:Dm z=if s<0 then -1 else if s=0 then 0 else 1:=by
  rcases hp with ⟨_,_,_,rfl,_⟩ | ⟨b,off,l,_,_,_,_,_,_,_,_,h,hz,hb⟩
  ·rfl
  unfold Dm;rcases h with rfl | rfl
  ·rw[jj]at hz;rw[if_neg O,if_neg O];rfl
  rw[if_pos O];rfl
 have HS:=aa a;clear a hp;rcases fY s 0 with g | g | g
 all_goals
  go_enter func181,ntmps181
  go_wp2
  go_ret
  exact⟨by rw[HS.out];simp[g]<;>omega,(Ext.refl _).alloc _⟩
def KF.isNone{s:Int}{q:Option Addr}{cap:Nat}{z:Int}(h:KF w s q n cap z):
  (q=none/\n=0/\cap=0/\s=z/\-9223372036854775808<=z/\z<=9223372036854775807)\/(∃b off,q=some ⟨b,off,none⟩):=by
 rcases h with h | ⟨b,off,_,h,_⟩
 ·exact .inl h
 exact .inr ⟨b,off,h⟩
abbrev IZ:Array Value:=#[.int .i64 0,.slice none 0 0]
theorem qH(s:Int)(w:World)(h0 : -9223372036854775807<=s)(h1:s<=9223372036854775807):
  Calls prog 262 #[.agg #[.int .i64 s,.slice none 0 0]] w λe w'=>e = .returned (.agg #[.int .i64 (-s),.slice none 0 0])/\Ext w w':=by
 have b:=λw=>eu (P:=prog) w 131 297 none 0 0 0 0 underlying131;have a:(s != -9223372036854775808)=true:=tK;go_enter func262,ntmps262
 go_wp2
 exact bodyPost_ret (v:=.agg #[.int .i64 (-s),.slice none 0 0]) (by simp[results,results262,go_sem]) I ⟨rfl,((Ext.refl _).alloc _).alloc _⟩
theorem KF.kp(h:Kp w w'){s:Int}{q:Option Addr}{n cap:Nat}{z:Int}(a:KF w s q n cap z):KF w' s q n cap z:=by
 rcases a with a | ⟨b,off,l,h1,h2,h3,h4,h5,h6⟩
 ·exact .inl a
 exact .inr ⟨b,off,l,h1,h2,h3,h4,h5.kp h tF,h6⟩
def Ax:¬DT 133:=tF
def Kp.DV{a:World}(h:Kp a w){R T:Nat}(b:Ve w R T)(c:¬DT T)(v0 v1:Value):Kp a ((w.setCell ⟨R,0,none⟩ v0).setCell ⟨R,1,none⟩ v1) :=
 (h.set b c 0 v0).set (b.set _ _ _) c 1 v1
theorem TC(s:Int)(q:Option Addr)(n cap:Nat)(z:Int)(w:World)(o:KF w s q n cap z)(hq:q.isNone=false\/(s != -9223372036854775808)=false):
  Calls prog 262 #[.agg #[.int .i64 s,.slice q n cap]] w λe w'=>Zl w (λv w'=>Xj w' v (-z)) e w':=by
 have B:=λw=>eu (P:=prog) w 131 297 q n cap 0 0 underlying131;have i:Hid (sg (!decide (z<0)) (Js z) = -z):=by
  show sg (!decide (z<0)) (Js z) = -z;unfold sg Js;by_cases h:z<0<;>simp[h]
 have HV:Hid (Xj w (.agg #[.int .i64 s,.slice q n cap]) z):=⟨_,_,_,_,rfl,o⟩;have u:Bx ((w.alloc (.cells #[.int .i64 s,.slice q n cap] 133)).alloc (.cells IZ 133)) (w.heap.size+1) 133 IZ.toList:=by
  have:=Bx.new (w.alloc (.cells #[.int .i64 s,.slice q n cap] 133)) 133 IZ;simpa using this
 have HB:=aa u;clear u o;cases b:q.isNone
 all_goals
  rw[b]at hq;simp only[reduceCtorEq,true_or,false_or]at hq;rw[b]at B;clear b;go_enter func262,ntmps262
  go_wp2_with fail
  refine(KJ _ z _ (HV.out.ext (((Ext.refl _).alloc _).alloc _))).mono ?_;rintro e E ⟨_,rfl,⟨p,l,rfl,j,hd,m,a⟩,hx⟩;go_wp2_with fail
  refine(Wa _ p l _ j hd m).mono ?_;rw[a,i.out];rintro e D ⟨_,rfl,⟨x,y,A,g,rfl,k⟩,f⟩;have c:=(HB.out.ext hx).ext f;obtain⟨C,c1,G,F⟩:=c.two;have HB2:=aa c;clear a c;go_wp2
  refine bodyPost_ret (v:=.agg #[.int .i64 x,.slice y A g]) (by simp[results,results262,go_sem,C,c1]) I ⟨_,rfl,⟨_,_,_,_,rfl,k.kp ((Kp.refl _).DV HB2.out.RW Ax _ _)⟩,?_⟩;exact((((((Ext.refl w).alloc _).alloc _).trans hx).trans f).X5 tJ _).X5 tJ _
theorem UB(v:Value)(z:Int)(w:World)(a:Xj w v z):
  Calls prog 262 #[v] w λe w'=>Zl w (λv w'=>Xj w' v (-z)) e w':=by
 obtain⟨s,q,n,cap,rfl,hp⟩:=a;rcases hp.isNone with ⟨rfl,rfl,rfl,rfl,h0,h1⟩ | ⟨b,off,rfl⟩
 ·by_cases hm:s = -9223372036854775808
  ·exact TC _ _ _ _ _ w hp (.inr (by simpa using hm))
  exact(qH s w O h1).mono λe w' ⟨he,hx⟩=>⟨_,he,Xj.small _ O O,hx⟩
 exact TC _ _ _ _ _ w hp (.inl rfl)
end Go.Proofs.YtjcphjpkimmmjaaGreatDoor
namespace Ig
def Qm(l:List Int)(k:Nat):Int:=if h:k<l.length then l[k]else 0
def Z9{l:List Int}{k:Nat}(h:k<l.length):Qm l k=l[k]:=dif_pos h
def MX{l:List Int}{k:Nat}(h:l.length<=k):Qm l k=0:=dif_neg O
def DG.Qm{b:Int}(hb:0<b){l:List Int}(h:DG b l)(k:Nat):0<=Qm l k/\Qm l k<b:=by
 unfold Ig.Qm;split
 ·exact h _ (fW _)
 exact⟨bH _,hb⟩
def Hk(b:Int)(l:List Int)(k:Nat):dv b (l.take (k+1))=dv b (l.take k)+b^k*Qm l k:=by
 by_cases h:k<l.length
 ·rw[Z9 h,Bo b l k h]
 rw[MX O,ae O,ae O];simp
def Br{l:List Int}{p:Nat}(h:p<l.length)(v:Int)(r:Nat):Qm (l.set p v) r=if r=p then v else Qm l r:=by
 unfold Qm;by_cases hr:r<l.length
 ·rw[dif_pos (by simpa using hr),dif_pos hr,List.getElem_set];by_cases e:p=r
  ·subst e;simp
  rw[if_neg e,if_neg (λa=>e a.symm)]
 rw[dif_neg (by simpa using hr),dif_neg hr,if_neg O]
def Rk(b:Int){l:List Int}{p:Nat}(h:p<l.length)(v:Int):dv b (l.set p v)=dv b l+b^p*(v-Qm l p):=by
 have h1:=Vy b (l.set p v) (p+1) tK;have h2:=Vy b l (p+1) O;have c:(l.set p v).drop (p+1)=l.drop (p+1):=by rw[List.drop_set_of_lt O]
 have a:(l.set p v).take (p+1)=l.take p++[v]:=by
  rw[GP _ _ (by simpa using h)];simp[List.take_set_of_le]
 rw[h1,h2,c,a,X9,Bo b l p h,Z9 h,aq,aS O]
 grind
def Xr{l:List Int}{k:Nat}(h:k<l.length):l.drop k=Qm l k::l.drop (k+1):=by rw[bP h,Z9 h]
def CF{D a b g h t:Int}(l:0<D)(j:b<D)(k:0<=h)
  (f:0<=t) (ht:t*a<=g) (c:t<=a) (i:0<=b):(t-1)*(a*D+b)<=g*D+h:=by
 have h1:t*a*D<=g*D:=ax ht O;have h2:t*b<=t*D:=af O f;have h3:t*D<=a*D:=ax c O;have e:(t-1)*(a*D+b)=t*a*D+t*b-a*D-b:=by grind
 omega
def FR{D b a c h t:Int}(f:0<=a)(i:h<D)(j:0<D)
  (g:0<=t) (ht:c<t*b):c*D+h<t*(b*D+a):=by
 have h1:(c+1)*D<=t*b*D:=ax O O;have h2:0<=t*a:=aJ g f;have e:t*(b*D+a)=t*b*D+t*a:=by grind
 have k:(c+1)*D=c*D+D:=by grind
 omega
def YE{u v q:Int}(a:0<v)(h1:q*v<=u)(h2:u<(q+1)*v):u/v=q:=by
 have e:(q+1)*v=q*v+v:=by grind
 have:u=(u-q*v)+q*v:=O;rw[this,Int.add_mul_ediv_right _ _ O,Int.ediv_eq_zero_of_lt O O];omega
def YQ{u v q:Int}(h1:q*v<=u)(h2:u<(q+1)*v):u%v=u-q*v:=by
 have e:(q+1)*v=q*v+v:=by grind
 have:u=(u-q*v)+q*v:=O;rw[this,Int.add_mul_emod_self_right,bS O O];omega
section
variable{b:Int}(hb:1<b)
include hb
theorem Kx{l:List Int}{n:Nat}(a:DG b l)(h:l.length=n+3):
  dv b l=((Qm l (n+2)*b+Qm l (n+1))*b+Qm l n)*b^n+dv b (l.take n)/\0<=dv b (l.take n)/\dv b (l.take n)<b^n:=by
 have h1:=Hk b l n;have h2:=Hk b l (n+1);have h3:=Hk b l (n+2);rw[ae (by omega:l.length<=n+2+1)]at h3;have h4:=Kl O (a.take n);rw[aq,aS O]at h4;refine⟨?_,JJ O (a.take n),h4⟩;rw[h3,h2,h1,aC,aC];grind
theorem Wr{l:List Int}{n:Nat}(a:DG b l)(h:l.length=n+2):
  dv b l=(Qm l (n+1)*b+Qm l n)*b^n+dv b (l.take n)/\0<=dv b (l.take n)/\dv b (l.take n)<b^n:=by
 have h1:=Hk b l n;have h2:=Hk b l (n+1);rw[ae (by omega:l.length<=n+1+1)]at h2;have h4:=Kl O (a.take n);rw[aq,aS O]at h4;refine⟨?_,JJ O (a.take n),h4⟩;rw[h2,h1,aC];grind
omit hb
structure Hp(b:Int)(u v:List Int)(n:Nat):Prop where
 hu:DG b u
 hv:DG b v
 lu:u.length=n+3
 lv:v.length=n+2
 nz:0<Qm v (n+1)
 lt:dv b u<b*dv b v
include hb
theorem Hp.top{u v:List Int}{n:Nat}(h:Hp b u v n):Qm u (n+2)<=Qm v (n+1):=by
 obtain⟨j,z,y⟩:=Kx hb h.hu h.lu;obtain⟨b1,b2,b3⟩:=Wr hb h.hv h.lv;have c:=h.lt;have a:0<b:=O;have i:=h.hu.Qm a n;have g:=h.hu.Qm a (n+1);have x:=h.hv.Qm a n;have hp:=pow_pos a n;refine Int.not_lt.1 λhc=>?_;have w:(Qm v (n+1)+1)*(b*b*b^n)<=Qm u (n+2)*(b*b*b^n):=ax O (aJ (aJ O O) O);have s:0<=Qm u (n+1)*(b*b^n):=aJ g.1 (aJ O O);have o:0<=Qm u n*b^n:=aJ i.1 O;have f:(Qm v n+1)*b^n<=b*b^n:=ax O O;have m:b*((Qm v n+1)*b^n)<=b*(b*b^n):=af f O;have l:b*dv b (v.take n)<=b*b^n:=af O O;have k:b*(dv b (v.take n)+1)<=b*b^n:=af O O;rw[j,b1]at c;generalize b^n=D at *
 generalize dv b (v.take n)=v' at *
 generalize dv b (u.take n)=u' at *
 generalize Qm u (n+2)=u0 at *
 generalize Qm u (n+1)=u1 at *
 generalize Qm u n=u2 at *
 generalize Qm v (n+1)=v1 at *
 generalize Qm v n=v2 at *
 grind
end
end Ig
namespace Go.Proofs.YtjcphjpkimmmjaaGreatDoor
variable{w w' w0:World}{E N b bytes i k n off:Nat}{a:Act}{c cs l l' news z:List Value}{o:Obj}{u v1 v3 v4 v5 x2 x3 x4 x5 x6 x7 x8:Value}{A0 A1 A2 A3 A4 A5 A6 A7 A8 A9 α γ ι:Type}{T T' yT:TypeId}{ops:Array Oper}{Q Q':Exit->Act->World->Prop}{tl:List Oper}{K:Act->World->Prop}{g:Bool}{x y:Operand}{bs bs' bs0 ob:List (Nat×Obj)}{fr:Nat×Nat}{P:Program}{f:Obj->List (Nat×Obj)}{fn:Func}{aft:Array Edge}{gd:Option (Nat×Bool)}{x1:Nat×Obj}{ps:List (Nat×Value)}{s:ByteArray}{pl:List (Nat×Nat)}{ds:List Int}{h:Int}{F F0:Gs}{G:Gs->Prop}{m:Sl}
open Go.RowKit Ig
def XW(x y c:Int):Int:=(x+y+c)%W
def Xy(x y c:Int):Int:=(x+y+c)/W
def Zk(x y c:Int):Int:=(x-y-c)%W
def Vv(x y c:Int):Int:=if x<y+c then 1 else 0
def HH{x y c:Int}(hx:0<=x/\x<W)(hy:0<=y/\y<W)(hc:0<=c/\c<=1):
  XW x y c+W*Xy x y c=x+y+c/\(0<=XW x y c/\XW x y c<W)/\0<=Xy x y c/\Xy x y c<=1:=by
 unfold XW Xy;simp only[HK]at *;omega
def D7{x y c:Int}(hx:0<=x/\x<W)(hy:0<=y/\y<W)(hc:0<=c/\c<=1):
  Zk x y c-W*Vv x y c=x-y-c/\(0<=Zk x y c/\Zk x y c<W)/\0<=Vv x y c/\Vv x y c<=1:=by
 unfold Zk Vv;simp only[HK]at *;split<;>omega
theorem KH(x y c:Int)(hx:0<=x)(hy:0<=y)(hc:0<=c)(a:c<=1)(w:World):
  (callFunc 309 #[.int .u64 x,.int .u64 y,.int .u64 c]).run prog w = .ok (.value (.tuple #[.int .u64 (XW x y c),.int .u64 (Xy x y c)])) w:=by
 rw[run_callFunc_extern (fn:=f309) tE tE tE tE (e:=add64Entry) tE,run_add64 x y c hx hy hc a];rfl
def Py:Array Value->Sem Value:=λargs=>do
 let (x,y,b) <-fJ "Sub64" args
 pure (fK ((x+ep-y-b)%ep) (if x<y+b then 1 else 0))
theorem Cz(x y b:Nat)(hb:b<=1)(w:World):
  (Py #[.int .u64 x,.int .u64 y,.int .u64 b]).run prog w =
   .ok (.tuple #[.int .u64 (((x+18446744073709551616-y-b)%18446744073709551616:Nat):Int),.int .u64 ((if x<y+b then 1 else 0:Nat):Int)]) w:=by
 have:b=0\/b=1:=O;rcases this with rfl | rfl<;>rfl
theorem Bc(x y c:Int)(hx:0<=x/\x<W)(hy:0<=y/\y<W)(hc:0<=c/\c<=1)(w:World):
  (callFunc 312 #[.int .u64 x,.int .u64 y,.int .u64 c]).run prog w = .ok (.value (.tuple #[.int .u64 (Zk x y c),.int .u64 (Vv x y c)])) w:=by
 obtain⟨x,rfl⟩:=ag hx.1;obtain⟨y,rfl⟩:=ag hy.1;obtain⟨c,rfl⟩:=ag hc.1;rw[run_callFunc_extern (fn:=f312) tE tE tE tE (e:=Py) tE,Cz x y c O];simp only[Result.andThen,Zk,Vv,HK]at *
 have b:(((x+18446744073709551616-y-c)%18446744073709551616:Nat):Int)=((x:Int)-y-c)%18446744073709551616:=O;have a:((if x<y+c then 1 else 0:Nat):Int)=if(x:Int)<y+c then 1 else 0:=by split<;>split<;>omega
 rw[b,a]
def P3(ds:List α)(z x:α)(m:Nat):(ds++ah (m+1) z).set ds.length x=(ds++[x])++ah m z:=by
 rw[fj _ _ (au _),bZ,bj,fI,bw];rfl
def MQ[Inhabited α](ds:List α)(z:α)(m k:Nat)(hk:k=ds.length):(ds++ah (m+1) z).getD k default=z:=by
 subst hk;simp[bD,bj]
def Ji{l:List Int}(h:DG W l)(k:Nat):0<=Qm l k/\Qm l k<W:=h.Qm Ju k
def XS(l:List Int)(k:Nat):dv W (l.take (k+1))=dv W (l.take k)+W^k*Qm l k:=Hk W l k
def Z8{l:List Int}(h:k<l.length):l.getD k default=Qm l k:=by rw[RZ h,Z9 h]
def Mi(b a:List Int)(k:Nat)(ds:List Int)(c:Int):Prop :=
 ds.length=k/\DG W ds/\(0<=c/\c<=1)/\dv W ds+W^k*c=dv W (b.take k)+dv W (a.take k)
theorem Mi.step{g f:List Int}{c:Int}(h:Mi g f k ds c)(hx:DG W g)(hy:DG W f):
  Mi g f (k+1) (ds++[XW (Qm g k) (Qm f k) c]) (Xy (Qm g k) (Qm f k) c):=by
 obtain⟨h1,h2,h3,h4⟩:=h;obtain⟨l,i,j⟩:=HH (Ji hx k) (Ji hy k) h3;refine⟨by simp[h1],h2.append (DG.cons i.1 i.2 (DG.nil _)),j,?_⟩;rw[X9,h1,XS,XS,aC];generalize W^k=p at *
 generalize XW (Qm g k) (Qm f k) c=lo at *
 generalize Xy (Qm g k) (Qm f k) c=hi at *
 generalize Qm g k=a at *
 generalize Qm f k=b at *
 have e:p*(lo+W*hi)=p*(a+b+c):=by rw[l]
 grind
def Uq(b a:List Int)(k:Nat)(ds:List Int)(c:Int):Prop :=
 ds.length=k/\DG W ds/\(0<=c/\c<=1)/\dv W ds-W^k*c=dv W (b.take k)-dv W (a.take k)
theorem Uq.step{g f:List Int}{c:Int}(h:Uq g f k ds c)(hx:DG W g)(hy:DG W f):
  Uq g f (k+1) (ds++[Zk (Qm g k) (Qm f k) c]) (Vv (Qm g k) (Qm f k) c):=by
 obtain⟨h1,h2,h3,h4⟩:=h;obtain⟨l,i,j⟩:=D7 (Ji hx k) (Ji hy k) h3;refine⟨by simp[h1],h2.append (DG.cons i.1 i.2 (DG.nil _)),j,?_⟩;rw[X9,h1,XS,XS,aC];generalize W^k=p at *
 generalize Zk (Qm g k) (Qm f k) c=lo at *
 generalize Vv (Qm g k) (Qm f k) c=hi at *
 generalize Qm g k=a at *
 generalize Qm f k=b at *
 have e:p*(lo-W*hi)=p*(a-b-c):=by rw[l]
 grind
theorem pH:(prog.info? 297).map (λi=>(i.zero,i.size,i.bytes))=some (some (.int .u64 0),1,8):=tE
theorem Ye(n:Nat)(g:n<=1000000000000)(w:World):
  (ic 131 (.int .i64 (n:Int)) (.int .i64 (n:Int))).run prog w = .ok (.slice (some ⟨w.heap.size,0,none⟩) n n) (w.alloc (.cells (madeCells #[.int .u64 0] n) 297)):=by
 obtain⟨f,hi,c,b,a⟩:=info_parts pH;have:=run_make (P:=prog) w 131 297 f (.int .u64 0) underlying131 hi c .i64 .i64 n n O O (by rw[a];omega) O;rw[this,b];simp[Value.cells]
theorem DN(N:Bool)(q P:Option Addr)(cap y:Nat)(f j:List Int)(w:World)(hx:DG W f)(hy:DG W j)(H:Cells w q Jm f)(G:Cells w P Jm j)(hlen:f.length<=100000000000)(T:j.length<=f.length)(R:N=true->j.length<f.length):
  Calls prog 278 (if N then #[.slice P j.length y,.slice q f.length cap]else #[.slice q f.length cap,.slice P j.length y]) w λe w' =>
   Zl w (λv w'=>∃l,SL w' v Jm l/\DG W l/\NZ l/\dv W l=dv W f+dv W j) e w':=by
 have HX:=aa H;clear H;have HY:=aa G;clear G;have S:=λw=>Ye (f.length+1) O w;have ec:((f.length+1:Nat):Int)=(f.length:Int)+1:=O;simp only[ec]at S;cases N
 all_goals
  simp only[Bool.false_eq_true,if_false,if_true,forall_const,false_implies]at R ⊢;go_enter func278,ntmps278
  go_wp2
  go_loopw [22,6] (λi c Y=>∃(k:Nat) (ds:List Int) (o:Int),k<=f.length/\i = .int .i64 k/\c = .int .u64 o/\Mi f j k ds o/\Y7 Y w.heap.size 297 Jm (ds++ah (f.length+1-k) 0)/\Ext w Y)
   (λi _ _=>f.length-(intOf i).toNat)
  case atStart=>exact⟨0,[],0,bQ _,rfl,rfl,⟨rfl,DG.nil _,tF,tJ⟩,Y7.made w _ Jm 0 _ _ rfl,(Ext.refl _).alloc _⟩
  case round =>
   obtain⟨k,ds,o,hk,rfl,rfl,hI,m,L⟩:=hrel;have z:=hI.step hx hy;obtain⟨F,X,n,E⟩:=hI;have a:=aa F;clear F;have D:=aa E;clear E;by_cases C:k<f.length
   ·obtain⟨b,off,rfl,hb,hc⟩:=HX.out k C;rw[Z8 C]at hc;have hc:=L.cell hc;simp only[Jm]at hc;have M:f.length+1-k=(f.length-k)+1:=O;rw[M]at m;have g:=m.cell (i:=k) (by simp[a.out]);rw[MQ _ _ _ _ a.out.symm]at g;simp only[Jm]at g;have V:=m.frozen k;have h:=m.set k (XW (Qm f k) (Qm j k) o);rw[<-a.out,P3,a.out]at h;have HB:=aa m;clear m;have HBs:=aa h;clear h;have HS:=aa z;clear z;have B:=(Ji hx k).1;have Q:=(Ji hy k).1;by_cases u:k<j.length
    ·obtain⟨b2,Z,rfl,hb2,s⟩:=HY.out k u;rw[Z8 u]at s;have s:=L.cell s;simp only[Jm]at s;have ha:=λw=>KH (Qm f k) (Qm j k) o B Q n.1 n.2 w;go_wp2
     go_roundw
     case rel=>exact⟨k+1,_,_,O,by go_num,rfl,HS.out,by rw[show f.length+1-(k+1)=f.length-k from by omega];exact HBs.out,aR L tJ _⟩
     case measure=>simp[intOf];omega
    have H0:=aa (MX (l:=j) (k:=k) O);have ha:=λw=>KH (Qm f k) 0 o B (bH _) n.1 n.2 w;go_wp2
    go_roundw
    case rel=>exact⟨k+1,_,_,O,by go_num,rfl,by have:=HS.out;rw[H0.out]at this;exact this,by rw[show f.length+1-(k+1)=f.length-k from by omega];have:=HBs.out;rw[H0.out]at this;exact this,aR L tJ _⟩
    case measure=>simp[intOf];omega
   have U:k=f.length:=O;subst U;have M:f.length+1-f.length=0+1:=O;rw[M]at m;have g:=m.cell (i:=f.length) (by simp[a.out]);rw[MQ _ _ _ _ a.out.symm]at g;simp only[Jm]at g;have V:=m.frozen f.length;have h:=m.set f.length o;rw[<-a.out,P3,a.out]at h;simp only[ey,ig]at h;have A:=SL.BE h (f.length+1) (by simp[a.out]) (by simp[a.out];omega);have el:(ds++[o]).length=f.length+1:=by simp[a.out]
   rw[ae O,el]at A;have K:Ext w _:=aR L (p:=⟨w.heap.size,f.length,none⟩) tJ (Jm o);have x:DG W (ds++[o])/\dv W (ds++[o])=dv W f+dv W j:=by
    refine⟨X.append (DG.cons n.1 (tD HK) (DG.nil _)),?_⟩;rw[X9,a.out,D.out,ae (au _),ae T]
   have HB:=aa m;clear m;have HBs:=aa h;clear h;have HSL:=aa A;clear A;have HF:=aa x;clear x;have HES:=aa K;clear K;clear el M z;go_wp2_with (go_at_call 310;refine(VV _ _ _ HSL.out).mono ?_;rintro e w' ⟨⟨v',rfl,hv⟩,rfl⟩)
   go_ret
   exact⟨_,rfl,⟨_,hv,HF.out.1.Jf,Zu _,by rw[ZH,HF.out.2]⟩,HES.out⟩
theorem Un(v k:Value)(c b:List Int)(w:World)(hx:DG W c)(hy:DG W b)(s:SL w v Jm c)(g:SL w k Jm b)(h1:c.length<=100000000000)(h2:b.length<=100000000000):
  Calls prog 278 #[v,k] w λe w'=>Zl w (λv w'=>∃l,SL w' v Jm l/\DG W l/\NZ l/\dv W l=dv W c+dv W b) e w':=by
 obtain⟨q,cap,rfl,o,n,hc⟩:=s;obtain⟨m,a,rfl,j,i,f⟩:=g;by_cases h:c.length<b.length
 ·have:=DN true m q a cap b c w hy hx f hc h2 O (λ_=>h);rw[iY]at this;exact this
 exact DN false q m cap a c b w hx hy hc f h1 O λh=>by cases h
theorem D8(v M:Value)(f g:List Int)(w:World)(hx:DG W f)(hy:DG W g)(hs:SL w v Jm f)(P:SL w M Jm g)(h1:f.length<=100000000000)(R:g.length<=f.length)(o:dv W g<=dv W f):
  Calls prog 280 #[v,M] w λe w'=>Zl w (λv w'=>∃l,SL w' v Jm l/\DG W l/\NZ l/\dv W l=dv W f-dv W g) e w':=by
 obtain⟨q,cap,rfl,Y,X,K⟩:=hs;obtain⟨q',cap',rfl,T,Q,H⟩:=P;have HX:=aa K;clear K;have HY:=aa H;clear H;have HLE:=aa o;clear o;have hmk:=λw=>Ye f.length O w;go_enter func280,ntmps280
 go_wp2
 go_loopw [14,6] (λi c U=>∃(k:Nat) (ds:List Int) (u:Int),k<=f.length/\i = .int .i64 k/\c = .int .u64 u/\Uq f g k ds u/\Y7 U w.heap.size 297 Jm (ds++ah (f.length-k) 0)/\Ext w U)
  (λi _ _=>f.length-(intOf i).toNat)
 case atStart=>exact⟨0,[],0,bQ _,rfl,rfl,⟨rfl,DG.nil _,tF,tJ⟩,Y7.made w _ Jm 0 _ _ rfl,(Ext.refl _).alloc _⟩
 case round =>
  obtain⟨k,ds,u,hk,rfl,rfl,Z,j,L⟩:=hrel;have x:=Z.step hx hy;obtain⟨G,y,F,E⟩:=Z;have a:=aa G;clear G;have D:=aa E;clear E;by_cases C:k<f.length
  ·obtain⟨b,off,rfl,hb,hc⟩:=HX.out k C;rw[Z8 C]at hc;have hc:=L.cell hc;simp only[Jm]at hc;have e1:f.length-k=(f.length-(k+1))+1:=O;rw[e1]at j;have h:=j.cell (i:=k) (by simp[a.out]);rw[MQ _ _ _ _ a.out.symm]at h;simp only[Jm]at h;have hfr:=j.frozen k;have A:=j.set k (Zk (Qm f k) (Qm g k) u);rw[<-a.out,P3,a.out]at A;have HB:=aa j;clear j;have HBs:=aa A;clear A;have HS:=aa x;clear x;have B:=Ji hx k;have N:=Ji hy k;clear e1;by_cases n:k<g.length
   ·obtain⟨b2,V,rfl,hb2,m⟩:=HY.out k n;rw[Z8 n]at m;have m:=L.cell m;simp only[Jm]at m;have ha:=λw=>Bc (Qm f k) (Qm g k) u B N F w;go_wp2
    go_roundw
    case rel=>exact⟨k+1,_,_,O,by go_num,rfl,HS.out,HBs.out,aR L tJ _⟩
    case measure=>simp[intOf];omega
   have H0:=aa (MX (l:=g) (k:=k) O);have ha:=λw=>Bc (Qm f k) 0 u B ⟨bH _,Ju⟩ F w;go_wp2
   go_roundw
   case rel=>exact⟨k+1,_,_,O,by go_num,rfl,by have:=HS.out;rw[H0.out]at this;exact this,by have:=HBs.out;rw[H0.out]at this;exact this,aR L tJ _⟩
   case measure=>simp[intOf];omega
  have S:k=f.length:=O;subst S;rw[bZ,ey,ig]at j;have z:=SL.BE j f.length (by simp[a.out]) (by simp[a.out];omega);rw[ae (by simp[a.out]),a.out]at z;have s:dv W ds=dv W f-dv W g:=by
   have h4:=D.out;rw[ae (au _),ae R]at h4;have h5:=Kl Ju y;have h6:=JJ Ju y;have h8:=HLE.out;rw[a.out]at h5;have h7:u=0\/u=1:=O;rcases h7 with rfl | rfl<;>omega
  have HB:=aa j;clear j;have HSL:=aa z;clear z;have HF:=aa s;clear s;clear x;go_wp2_with (go_at_call 310;refine(VV _ _ _ HSL.out).mono ?_;rintro e w' ⟨⟨M,rfl,hv⟩,rfl⟩)
  go_ret
  exact⟨_,rfl,⟨_,hv,y.Jf,Zu _,by rw[ZH,HF.out]⟩,L⟩
def G7{x y:Int}(h:x<y):YF x y = -1:=if_pos h
def Em{x y:Int}(h:y<x):YF x y=1:=by unfold YF;rw[if_neg O,if_neg O]
def SE(x:Int):YF x x=0:=by unfold YF;rw[if_neg O,if_pos rfl]
theorem Zt(v A:Value)(a c:List Int)(w:World)(hx:DG W a)(hy:DG W c)(K:NZ a)(H:NZ c)(L:SL w v Jm a)(s:SL w A Jm c):
  Calls prog 279 #[v,A] w λe w'=>e = .returned (.int .i64 (YF (dv W a) (dv W c)))/\Ext w w':=by
 obtain⟨q,cap,rfl,D,C,o⟩:=L;obtain⟨P,F,rfl,z,u,n⟩:=s;have HX:=aa o;clear o;have HY:=aa n;clear n;rcases fU a.length c.length with h | h | h
 ·have HL:=aa (G7 (ZQ Nj hx hy H h));go_enter func279,ntmps279
  go_wp2
  go_ret
  exact⟨by rw[HL.out];rfl,Ext.refl _⟩
 ·go_enter func279,ntmps279
  have hb:((a.length:Int) != (c.length:Int))=false:=by simp[h]
  have HLL:=aa h;clear h;go_wp2
  go_loopw [5] (λi G=>∃k:Nat,k<=a.length/\i = .int .i64 ((k:Int)-1)/\a.drop k=c.drop k/\Ext w G) λi _=>(intOf i+1).toNat
  case atStart=>exact⟨a.length,au _,rfl,by rw[ff (au _),ff (by rw[HLL.out];exact au _)],Ext.refl _⟩
  case round =>
   obtain⟨k,hk,rfl,hd,l⟩:=hrel;have HD:=aa hd;clear hd;cases k with
   |zero =>
    have HF:Hid (YF (dv W a) (dv W c)=0):=by
     have:=HD.out;rw[iq,iq]at this;rw[this];exact SE _
    go_wp2
    go_ret
    exact⟨by rw[HF.out];rfl,l⟩
   |succ k =>
    have E:((k+1:Nat):Int)-1=(k:Int):=O;rw[E];have j:k<c.length:=tD HLL.out;obtain⟨b,off,rfl,N,hc⟩:=HX.out k O;obtain⟨b2,B,rfl,M,f⟩:=HY.out k j;rw[RZ O]at hc f;have hc:=l.cell hc;have f:=l.cell f;simp only[Jm]at hc f;have HLT:=aa (L8 Ju hx hy HLL.out k O HD.out);have HGT:=aa (L8 Ju hy hx HLL.out.symm k j HD.out.symm);have HEQ:Hid (a[k]=c[k]->a.drop k=c.drop k):=by
     intro e;rw[bP O,bP j,e,HD.out]
    generalize a[k]=x at *
    generalize c[k]=y at *
    clear E;rcases fY x y with g | g | g
    ·have m:(x != y)=true:=tK;have HL:=aa (G7 (HLT.out g));go_wp2
     go_quiet (fail)
     go_wp2
     go_quiet (fail)
     go_wp2
     go_ret
     exact⟨by rw[HL.out];rfl,(l.drewN _).drewN _⟩
    ·have m:(x != y)=false:=tK;go_wp2
     go_quiet (fail)
     go_wp2
     go_roundw
     case rel=>exact⟨k,O,by go_num,HEQ.out g,l.drewN _⟩
     case measure=>simp[intOf]
    have m:(x != y)=true:=tK;have HL:=aa (Em (HGT.out g));go_wp2
    go_quiet (fail)
    go_wp2
    go_quiet (fail)
    go_wp2
    go_ret
    exact⟨by rw[HL.out];rfl,(l.drewN _).drewN _⟩
 have HL:=aa (Em (ZQ Nj hy hx K h));go_enter func279,ntmps279
 go_wp2
 go_ret
 exact⟨by rw[HL.out];rfl,Ext.refl _⟩
end Go.Proofs.YtjcphjpkimmmjaaGreatDoor
namespace Go.Proofs
open Go.Shelf
def M3:ar:=⟨λ| 169=>290 | n=>n,λ| 70=>323 | 9=>9 | 0=>0 | 72=>326 | 37=>324 | 127=>349 | 3=>3 | 5=>5 | n=>n,λ| n=>n⟩
theorem dh:iJ prog M3:={
 mixed:=tE
 f169:=func290.trans tU
 t0:=underlying0
 a0:=isAgg0
 z0:=sizeOf0
 v0:=zeroValue0
 t3:=underlying3
 a3:=isAgg3
 z3:=sizeOf3
 v3:=zeroValue3
 t9:=underlying9
 a9:=isAgg9
 z9:=sizeOf9
 v9:=zeroValue9
 t37:=underlying324
 a37:=isAgg324
 z37:=sizeOf324
 v37:=zeroValue324
 t70:=underlying323
 a70:=isAgg323
 z70:=sizeOf323
 v70:=zeroValue323
 t72:=underlying326
 a72:=isAgg326
 z72:=sizeOf326
 v72:=zeroValue326
 t127:=underlying349
 a127:=isAgg349
 z127:=sizeOf349
 v127:=zeroValue349 }
theorem Ey:ia prog M3:={
 sizeBuilder:=tE
 liesBuilder:=tE
 t5:=underlying5
 a5:=isAgg5
 z5:=sizeOf5
 v5:=zeroValue5
 infoByte:=tE
 cellsByte:=tE
 sizeByte:=tE
 neB5:=by decide }
open Go.RowKit in
theorem Builder_String_any(B b:Nat)(l:List UInt8)(w:World)(h:Lib.IsBuilder 326 5 B b (Lib.byteCells l) w)(a:B<=w.heap.size):
  Calls prog 290 #[.pointer (some ⟨b,0,none⟩)] w λe w'=>e = .returned (.string ⟨l.toArray⟩)/\Below B w w':=Any.Builder_String_any dh Ey B b l w h a
def FN:ar:=⟨λ| 125=>315 | 128=>348 | 129=>311 | n=>n,λ| 46=>337 | 3=>3 | 51=>365 | 53=>297 | 4=>4 | 5=>5 | 9=>9 | n=>n,λ| n=>n⟩
theorem dn:iN prog FN:={
 mixed:=tE
 f125:=func315.trans tU
 f128:=func348.trans tU
 f129:=func311.trans tU
 t3:=underlying3
 a3:=isAgg3
 z3:=sizeOf3
 v3:=zeroValue3
 t4:=underlying4
 a4:=isAgg4
 z4:=sizeOf4
 v4:=zeroValue4
 t5:=underlying5
 a5:=isAgg5
 z5:=sizeOf5
 v5:=zeroValue5
 t9:=underlying9
 a9:=isAgg9
 z9:=sizeOf9
 v9:=zeroValue9
 t46:=underlying337
 a46:=isAgg337
 z46:=sizeOf337
 v46:=zeroValue337
 t51:=underlying365
 a51:=isAgg365
 z51:=sizeOf365
 v51:=zeroValue365
 t53:=underlying297
 a53:=isAgg297
 z53:=sizeOf297
 v53:=zeroValue297 }
theorem bits_Len(x:Int)(w:World)(h0:0<=x)(h1:x<=18446744073709551615):
  Calls prog 315 #[.int .u64 x] w λe w'=>e = .returned (.int .i64 (ba x.toNat))/\w'=w:=Any.bits_Len dn x w h0 h1
def FL:ar:=⟨λ| 134=>322 | 129=>311 | n=>n,λ| 53=>297 | 3=>3 | 4=>4 | 46=>337 | 5=>5 | 9=>9 | n=>n,λ| n=>n⟩
theorem dj:iL prog FL:={
 mixed:=tE
 f129:=func311.trans tU
 f134:=func322.trans tU
 t3:=underlying3
 a3:=isAgg3
 z3:=sizeOf3
 v3:=zeroValue3
 t4:=underlying4
 a4:=isAgg4
 z4:=sizeOf4
 v4:=zeroValue4
 t5:=underlying5
 a5:=isAgg5
 z5:=sizeOf5
 v5:=zeroValue5
 t9:=underlying9
 a9:=isAgg9
 z9:=sizeOf9
 v9:=zeroValue9
 t46:=underlying337
 a46:=isAgg337
 z46:=sizeOf337
 v46:=zeroValue337
 t53:=underlying297
 a53:=isAgg297
 z53:=sizeOf297
 v53:=zeroValue297 }
theorem bits_LeadingZeros64(x:Int)(w:World)(h0:0<=x)(h1:x<=18446744073709551615):
  Calls prog 322 #[.int .u64 x] w λe w'=>e = .returned (.int .i64 (64-(ba x.toNat:Int)))/\w'=w:=Any.bits_LeadingZeros64 dj x w h0 h1
def FP:ar:=⟨λ| 103=>175 | 210=>254 | 206=>305 | n=>n,λ| 9=>9 | 4=>4 | 24=>231 | 3=>3 | n=>n,λ| n=>n⟩
theorem dw:iQ prog FP:={
 mixed:=tE
 f103:=func175.trans tU
 f206:=func305.trans tU
 f210:=func254.trans tU
 t3:=underlying3
 a3:=isAgg3
 z3:=sizeOf3
 v3:=zeroValue3
 t4:=underlying4
 a4:=isAgg4
 z4:=sizeOf4
 v4:=zeroValue4
 t9:=underlying9
 a9:=isAgg9
 z9:=sizeOf9
 v9:=zeroValue9
 t24:=underlying231
 a24:=isAgg231
 z24:=sizeOf231
 v24:=zeroValue231 }
open Go.RowKit in
theorem strings_CutPrefix(s p:ByteArray)(w:World):
  Calls prog 175 #[.string s,.string p] w λe w'=>e = .returned (.tuple #[.string ⟨(iB s.data.toList p.data.toList).toArray⟩,.bool (iT s.data.toList p.data.toList)])/\w'=w:=Any.strings_CutPrefix dw s p w
def FO:ar:=⟨λ| 122=>317 | 215=>349 | n=>n,λ| 3=>3 | 4=>4 | n=>n,λ| n=>n⟩
theorem dp:iO prog FO:={
 mixed:=tE
 f122:=func317.trans tU
 f215:=func349.trans tU
 t3:=underlying3
 a3:=isAgg3
 z3:=sizeOf3
 v3:=zeroValue3
 t4:=underlying4
 a4:=isAgg4
 z4:=sizeOf4
 v4:=zeroValue4 }
open Go.RowKit in
theorem cmp_Compare_int(x y:Int)(w:World):
  Calls prog 317 #[.int .i64 x,.int .i64 y] w λe w'=>e = .returned (.int .i64 (Lib.compareInt x y))/\w'=w:=Any.cmp_Compare_int dp x y w
def FJ:ar:=⟨λ| 172=>260 | 244=>307 | 245=>308 | 247=>335 | 279=>336 | 280=>337 | 281=>338 | 282=>339 | 287=>360 | 316=>361 | 171=>285 | 205=>362 | 321=>373 | 322=>374 | 243=>320 | 246=>350 | 283=>351 | 284=>352 | 285=>353 | 286=>354 | 129=>311 | 317=>368 | 318=>369 | 319=>370 | 320=>371 | 337=>376 | 338=>377 | n=>n,λ| 9=>9 | 3=>3 | 75=>294 | 76=>295 | 4=>4 | 5=>5 | 167=>351 | 37=>324 | 0=>0 | 85=>352 | 2=>2 | 168=>354 | 53=>297 | 175=>377 | 46=>337 | 210=>381 | 127=>349 | 145=>396 | 143=>394 | 21=>21 | 171=>368 | 173=>370 | 212=>390 | 51=>365 | 20=>20 | 213=>391 | 232=>400 | 233=>401 | 80=>270 | n=>n,λ| 15=>3 | 16=>4 | 17=>5 | 18=>6 | 19=>7 | n=>n⟩
theorem de:iI prog FJ:={
 mixed:=tE
 f129:=func311.trans tU
 f171:=func285.trans tU
 f172:=func260.trans tU
 f205:=func362.trans tU
 f243:=func320.trans tU
 f244:=func307.trans tU
 f245:=func308.trans tU
 f246:=func350.trans tU
 f247:=func335.trans tU
 f279:=func336.trans tU
 f280:=func337.trans tU
 f281:=func338.trans tU
 f282:=func339.trans tU
 f283:=func351.trans tU
 f284:=func352.trans tU
 f285:=func353.trans tU
 f286:=func354.trans tU
 f287:=func360.trans tU
 f316:=func361.trans tU
 f317:=func368.trans tU
 f318:=func369.trans tU
 f319:=func370.trans tU
 f320:=func371.trans tU
 f321:=func373.trans tU
 f322:=func374.trans tU
 f337:=func376.trans tU
 f338:=func377.trans tU
 t0:=underlying0
 a0:=isAgg0
 z0:=sizeOf0
 v0:=zeroValue0
 t2:=underlying2
 a2:=isAgg2
 z2:=sizeOf2
 v2:=zeroValue2
 t3:=underlying3
 a3:=isAgg3
 z3:=sizeOf3
 v3:=zeroValue3
 t4:=underlying4
 a4:=isAgg4
 z4:=sizeOf4
 v4:=zeroValue4
 t5:=underlying5
 a5:=isAgg5
 z5:=sizeOf5
 v5:=zeroValue5
 t9:=underlying9
 a9:=isAgg9
 z9:=sizeOf9
 v9:=zeroValue9
 t20:=underlying20
 a20:=isAgg20
 z20:=sizeOf20
 v20:=zeroValue20
 t21:=underlying21
 a21:=isAgg21
 z21:=sizeOf21
 v21:=zeroValue21
 t37:=underlying324
 a37:=isAgg324
 z37:=sizeOf324
 v37:=zeroValue324
 t46:=underlying337
 a46:=isAgg337
 z46:=sizeOf337
 v46:=zeroValue337
 t51:=underlying365
 a51:=isAgg365
 z51:=sizeOf365
 v51:=zeroValue365
 t53:=underlying297
 a53:=isAgg297
 z53:=sizeOf297
 v53:=zeroValue297
 t75:=underlying294
 a75:=isAgg294
 z75:=sizeOf294
 v75:=zeroValue294
 t76:=underlying295
 a76:=isAgg295
 z76:=sizeOf295
 v76:=zeroValue295
 t85:=underlying352
 a85:=isAgg352
 z85:=sizeOf352
 v85:=zeroValue352
 t127:=underlying349
 a127:=isAgg349
 z127:=sizeOf349
 v127:=zeroValue349
 t143:=underlying394
 a143:=isAgg394
 z143:=sizeOf394
 v143:=zeroValue394
 t145:=underlying396
 a145:=isAgg396
 z145:=sizeOf396
 v145:=zeroValue396
 t167:=underlying351
 a167:=isAgg351
 z167:=sizeOf351
 v167:=zeroValue351
 t168:=underlying354
 a168:=isAgg354
 z168:=sizeOf354
 v168:=zeroValue354
 t171:=underlying368
 a171:=isAgg368
 z171:=sizeOf368
 v171:=zeroValue368
 t173:=underlying370
 a173:=isAgg370
 z173:=sizeOf370
 v173:=zeroValue370
 t175:=underlying377
 a175:=isAgg377
 z175:=sizeOf377
 v175:=zeroValue377
 t210:=underlying381
 a210:=isAgg381
 z210:=sizeOf381
 v210:=zeroValue381
 t212:=underlying390
 a212:=isAgg390
 z212:=sizeOf390
 v212:=zeroValue390
 t213:=underlying391
 a213:=isAgg391
 z213:=sizeOf391
 t232:=underlying400
 a232:=isAgg400
 z232:=sizeOf400
 v232:=zeroValue400
 t233:=underlying401
 a233:=isAgg401
 z233:=sizeOf401
 v233:=zeroValue401
 g15:=tE
 g16:=tE
 g17:=tE
 g18:=tE
 g19:=by kernel_rfl }
open Go.RowKit in
theorem strconv_Atoi(s:ByteArray)(n:Int)(a:s.size<=18)(h:Lib.atoi s.data.toList=some n)(w:World):
  Calls prog 260 #[.string s] w λe w'=>e = .returned (.tuple #[.int .i64 n,.nilIface])/\∃t,w'=Lib.bytesWorld w 5 t:=Any.strconv_Atoi de s n a h w
def FM:ar:=⟨λ| 129=>311 | n=>n,λ| 53=>297 | 3=>3 | 4=>4 | 46=>337 | 5=>5 | 9=>9 | n=>n,λ| n=>n⟩
theorem dm:iM prog FM:={
 mixed:=tE
 f129:=func311.trans tU
 t3:=underlying3
 a3:=isAgg3
 z3:=sizeOf3
 v3:=zeroValue3
 t4:=underlying4
 a4:=isAgg4
 z4:=sizeOf4
 v4:=zeroValue4
 t5:=underlying5
 a5:=isAgg5
 z5:=sizeOf5
 v5:=zeroValue5
 t9:=underlying9
 a9:=isAgg9
 z9:=sizeOf9
 v9:=zeroValue9
 t46:=underlying337
 a46:=isAgg337
 z46:=sizeOf337
 v46:=zeroValue337
 t53:=underlying297
 a53:=isAgg297
 z53:=sizeOf297
 v53:=zeroValue297 }
theorem bits_Len64(x:Int)(w:World)(h0:0<=x)(h1:x<=18446744073709551615):
  Calls prog 311 #[.int .u64 x] w λe w'=>e = .returned (.int .i64 (ba x.toNat))/\w'=w:=Any.bits_Len64 dm x w h0 h1
def FH:ar:=⟨λ| 283=>351 | n=>n,λ| 3=>3 | 9=>9 | 4=>4 | n=>n,λ| n=>n⟩
theorem dZ:iG prog FH:={
 mixed:=tE
 f283:=func351.trans tU
 t3:=underlying3
 a3:=isAgg3
 z3:=sizeOf3
 v3:=zeroValue3
 t4:=underlying4
 a4:=isAgg4
 z4:=sizeOf4
 v4:=zeroValue4
 t9:=underlying9
 a9:=isAgg9
 z9:=sizeOf9
 v9:=zeroValue9 }
open Go.Lib in
theorem internal_strconv_small(i:Nat)(h:i<100)(w:World):
  Calls prog 351 #[.int .i64 i] w λe w'=>e = .returned (.string ⟨(Lib.decDigits i).toArray⟩)/\w'=w:=Any.internal_strconv_small dZ i h w
def UM:ar:=⟨λ| 284=>352 | 129=>311 | 317=>368 | 318=>369 | n=>n,λ| 53=>297 | 3=>3 | 212=>390 | 0=>0 | 4=>4 | 46=>337 | 5=>5 | 9=>9 | n=>n,λ| 17=>5 | n=>n⟩
theorem z6:iz prog UM:={
 mixed:=tE
 f129:=func311.trans tU
 f284:=func352.trans tU
 f317:=func368.trans tU
 f318:=func369.trans tU
 t0:=underlying0
 a0:=isAgg0
 z0:=sizeOf0
 v0:=zeroValue0
 t3:=underlying3
 a3:=isAgg3
 z3:=sizeOf3
 v3:=zeroValue3
 t4:=underlying4
 a4:=isAgg4
 z4:=sizeOf4
 v4:=zeroValue4
 t5:=underlying5
 a5:=isAgg5
 z5:=sizeOf5
 v5:=zeroValue5
 t9:=underlying9
 a9:=isAgg9
 z9:=sizeOf9
 v9:=zeroValue9
 t46:=underlying337
 a46:=isAgg337
 z46:=sizeOf337
 v46:=zeroValue337
 t53:=underlying297
 a53:=isAgg297
 z53:=sizeOf297
 v53:=zeroValue297
 t212:=underlying390
 a212:=isAgg390
 z212:=sizeOf390
 v212:=zeroValue390
 g17:=tE
 i0:=tE
 i3:=tE
 i4:=tE
 i5:=tE
 i9:=tE
 i46:=tE
 i53:=tE
 i212:=tE
 m17:=by kernel_rfl }
open Go.Lib in
theorem internal_strconv_numDigits(u:Nat)(h1:1<=u)(h2:u<18446744073709551616)(w:World)(a:Lib.TabIs prog w "internal/strconv.uint64pow10" .u64 je):
  Calls prog 352 #[.int .u64 u] w λe w'=>e = .returned (.int .i64 (Lib.nDigits u))/\w'=w:=Any.internal_strconv_numDigits z6 u h1 h2 w a
def FG:ar:=⟨λ| 285=>353 | n=>n,λ| 37=>324 | 53=>297 | 3=>3 | 4=>4 | 51=>365 | 9=>9 | 5=>5 | 0=>0 | n=>n,λ| n=>n⟩
theorem dY:iF prog FG:={
 mixed:=tE
 f285:=func353.trans tU
 t0:=underlying0
 a0:=isAgg0
 z0:=sizeOf0
 v0:=zeroValue0
 t3:=underlying3
 a3:=isAgg3
 z3:=sizeOf3
 v3:=zeroValue3
 t4:=underlying4
 a4:=isAgg4
 z4:=sizeOf4
 v4:=zeroValue4
 t5:=underlying5
 a5:=isAgg5
 z5:=sizeOf5
 v5:=zeroValue5
 t9:=underlying9
 a9:=isAgg9
 z9:=sizeOf9
 v9:=zeroValue9
 t37:=underlying324
 a37:=isAgg324
 z37:=sizeOf324
 v37:=zeroValue324
 t51:=underlying365
 a51:=isAgg365
 z51:=sizeOf365
 v51:=zeroValue365
 t53:=underlying297
 a53:=isAgg297
 z53:=sizeOf297
 v53:=zeroValue297 }
open Go.RowKit Go.Sort Go.Lib in
theorem internal_strconv_formatBase10(Hs off cap:Nat)(u:Nat)(d:Array UInt8)(w:World)(f:Holds (λ(b:UInt8)=>aK .u8 (b.toNat:Int)) w Hs off d)(hu:u<10^d.size)(a:u<18446744073709551616)(c:d.size<4611686018427387904):
  Calls prog 353 #[.slice (some ⟨Hs,off,none⟩) d.size cap,.int .u64 u] w λe w' =>
   e = .returned (.tuple #[])/\∃(n v':Nat) (dk:Array UInt8),w'=(putRow (λ(b:UInt8)=>aK .u8 (b.toNat:Int)) w Hs off dk).drewN n/\FmtInv d.size u 0 v' dk:=Any.internal_strconv_formatBase10 dY Hs off cap u d w f hu a c
def UN:ar:=⟨λ| 171=>285 | 243=>320 | 246=>350 | 283=>351 | 284=>352 | 285=>353 | 286=>354 | 129=>311 | 317=>368 | 318=>369 | 319=>370 | 320=>371 | 337=>376 | 338=>377 | n=>n,λ| 3=>3 | 9=>9 | 2=>2 | 4=>4 | 171=>368 | 0=>0 | 53=>297 | 37=>324 | 5=>5 | 173=>370 | 212=>390 | 51=>365 | 20=>20 | 213=>391 | 46=>337 | 232=>400 | 233=>401 | n=>n,λ| 17=>5 | 18=>6 | 19=>7 | n=>n⟩
theorem z7:iA prog UN:={
 mixed:=tE
 f129:=func311.trans tU
 f171:=func285.trans tU
 f243:=func320.trans tU
 f246:=func350.trans tU
 f283:=func351.trans tU
 f284:=func352.trans tU
 f285:=func353.trans tU
 f286:=func354.trans tU
 f317:=func368.trans tU
 f318:=func369.trans tU
 f319:=func370.trans tU
 f320:=func371.trans tU
 f337:=func376.trans tU
 f338:=func377.trans tU
 t0:=underlying0
 a0:=isAgg0
 z0:=sizeOf0
 v0:=zeroValue0
 t2:=underlying2
 a2:=isAgg2
 z2:=sizeOf2
 v2:=zeroValue2
 t3:=underlying3
 a3:=isAgg3
 z3:=sizeOf3
 v3:=zeroValue3
 t4:=underlying4
 a4:=isAgg4
 z4:=sizeOf4
 v4:=zeroValue4
 t5:=underlying5
 a5:=isAgg5
 z5:=sizeOf5
 v5:=zeroValue5
 t9:=underlying9
 a9:=isAgg9
 z9:=sizeOf9
 v9:=zeroValue9
 t20:=underlying20
 a20:=isAgg20
 z20:=sizeOf20
 v20:=zeroValue20
 t37:=underlying324
 a37:=isAgg324
 z37:=sizeOf324
 v37:=zeroValue324
 t46:=underlying337
 a46:=isAgg337
 z46:=sizeOf337
 v46:=zeroValue337
 t51:=underlying365
 a51:=isAgg365
 z51:=sizeOf365
 v51:=zeroValue365
 t53:=underlying297
 a53:=isAgg297
 z53:=sizeOf297
 v53:=zeroValue297
 t171:=underlying368
 a171:=isAgg368
 z171:=sizeOf368
 v171:=zeroValue368
 t173:=underlying370
 a173:=isAgg370
 z173:=sizeOf370
 v173:=zeroValue370
 t212:=underlying390
 a212:=isAgg390
 z212:=sizeOf390
 v212:=zeroValue390
 t213:=underlying391
 a213:=isAgg391
 z213:=sizeOf391
 t232:=underlying400
 a232:=isAgg400
 z232:=sizeOf400
 v232:=zeroValue400
 t233:=underlying401
 a233:=isAgg401
 z233:=sizeOf401
 v233:=zeroValue401
 g17:=tE
 g18:=tE
 g19:=tE
 i0:=tE
 i2:=tE
 i3:=tE
 i4:=tE
 i5:=tE
 i9:=tE
 i20:=tE
 i37:=tE
 i46:=tE
 i51:=tE
 i53:=tE
 i171:=tE
 i173:=tE
 i212:=tE
 i232:=tE
 i233:=tE
 m17:=tE
 m18:=tE
 m19:=by kernel_rfl }
open Go.RowKit Go.Sort Go.Lib in
theorem strconv_Itoa(n:Int)(h0 : -9223372036854775808<=n)(h1:n<=9223372036854775807)(w:World)(a:Lib.TabIs prog w "internal/strconv.uint64pow10" .u64 je):
  Calls prog 285 #[.int .i64 n] w λe w'=>e = .returned (.string ⟨(Lib.itoa n).toArray⟩)/\∃k os,w'=grow (w.drewN k) os:=Any.strconv_Itoa z7 n h0 h1 w a
def FK:ar:=⟨λ| 145=>174 | 220=>253 | 219=>304 | 217=>331 | 225=>332 | 224=>333 | 267=>334 | 266=>358 | 314=>359 | n=>n,λ| 9=>9 | 4=>4 | 59=>229 | 3=>3 | 5=>5 | 46=>337 | 146=>372 | 51=>365 | n=>n,λ| 1=>0 | n=>n⟩
theorem di:iK prog FK:={
 mixed:=tE
 f145:=func174.trans tU
 f217:=func331.trans tU
 f219:=func304.trans tU
 f220:=func253.trans tU
 f224:=func333.trans tU
 f225:=func332.trans tU
 f266:=func358.trans tU
 f267:=func334.trans tU
 f314:=func359.trans tU
 t3:=underlying3
 a3:=isAgg3
 z3:=sizeOf3
 v3:=zeroValue3
 t4:=underlying4
 a4:=isAgg4
 z4:=sizeOf4
 v4:=zeroValue4
 t5:=underlying5
 a5:=isAgg5
 z5:=sizeOf5
 v5:=zeroValue5
 t9:=underlying9
 a9:=isAgg9
 z9:=sizeOf9
 v9:=zeroValue9
 t46:=underlying337
 a46:=isAgg337
 z46:=sizeOf337
 v46:=zeroValue337
 t51:=underlying365
 a51:=isAgg365
 z51:=sizeOf365
 v51:=zeroValue365
 t59:=underlying229
 a59:=isAgg229
 z59:=sizeOf229
 v59:=zeroValue229
 t146:=underlying372
 a146:=isAgg372
 z146:=sizeOf372
 v146:=zeroValue372
 g1:=by kernel_rfl }
open Go.RowKit Go.Lib in
theorem strings_Cut(s a:ByteArray)(m:Int)(w:World)(b:s.size<4294967281)(hm:w.cell? ⟨0,0,none⟩=some (.int .i64 m)):
  Calls prog 174 #[.string s,.string a] w λe w'=>e = .returned (.tuple #[.string ⟨(jf s.data.toList a.data.toList).1.toArray⟩,.string ⟨(jf s.data.toList a.data.toList).2.1.toArray⟩,.bool (jf s.data.toList a.data.toList).2.2])/\∃n,w'=w.drewN n:=Any.strings_Cut di s a m w b hm
def Ls:ar:=⟨λ| 99=>258 | 206=>305 | n=>n,λ| 9=>9 | 4=>4 | 3=>3 | n=>n,λ| n=>n⟩
theorem QBm:iE prog Ls:={
 mixed:=tE
 f99:=func258.trans tU
 f206:=func305.trans tU
 t3:=underlying3
 a3:=isAgg3
 z3:=sizeOf3
 v3:=zeroValue3
 t4:=underlying4
 a4:=isAgg4
 z4:=sizeOf4
 v4:=zeroValue4
 t9:=underlying9
 a9:=isAgg9
 z9:=sizeOf9
 v9:=zeroValue9 }
open Go.RowKit Go.Lib in
theorem strings_HasPrefix(s p:ByteArray)(w:World):
  Calls prog 258 #[.string s,.string p] w λe w'=>e = .returned (.bool (iT s.data.toList p.data.toList))/\w'=w:=Any.strings_HasPrefix QBm s p w
def FQ:ar:=⟨λ| 101=>259 | 208=>306 | 206=>305 | n=>n,λ| 9=>9 | 4=>4 | 3=>3 | n=>n,λ| n=>n⟩
theorem dx:iR prog FQ:={
 mixed:=tE
 f101:=func259.trans tU
 f206:=func305.trans tU
 f208:=func306.trans tU
 t3:=underlying3
 a3:=isAgg3
 z3:=sizeOf3
 v3:=zeroValue3
 t4:=underlying4
 a4:=isAgg4
 z4:=sizeOf4
 v4:=zeroValue4
 t9:=underlying9
 a9:=isAgg9
 z9:=sizeOf9
 v9:=zeroValue9 }
open Go.RowKit Go.Lib in
theorem strings_TrimPrefix(s p:ByteArray)(w:World):
  Calls prog 259 #[.string s,.string p] w λe w'=>e = .returned (.string ⟨(iB s.data.toList p.data.toList).toArray⟩)/\w'=w:=Any.strings_TrimPrefix dx s p w
def FI:ar:=⟨λ| 264=>264 | n=>n,λ| 53=>297 | 46=>337 | n=>n,λ| n=>n⟩
theorem dc:iH prog FI:={
 mixed:=tE
 f264:=func264.trans tU
 t46:=underlying337
 a46:=isAgg337
 z46:=sizeOf337
 v46:=zeroValue337
 t53:=underlying297
 a53:=isAgg297
 z53:=sizeOf297
 v53:=zeroValue297 }
open Go.RowKit Go.Lib in
theorem bits_Mul64(x y:Nat)(hx:x<18446744073709551616)(hy:y<18446744073709551616)(w:World):
  Calls prog 264 #[.int .u64 x,.int .u64 y] w λe w'=>e = .returned (.tuple #[.int .u64 ((x*y/18446744073709551616:Nat):Int),.int .u64 ((x*y%18446744073709551616:Nat):Int)])/\w'=w:=Any.bits_Mul64 dc x y hx hy w
def M4:ar:=⟨λ| 105=>288 | 212=>326 | 99=>258 | 165=>327 | 166=>289 | 170=>328 | 169=>290 | 263=>355 | 264=>264 | 206=>305 | 240=>329 | 241=>356 | 276=>357 | 277=>372 | n=>n,λ| 9=>9 | 3=>3 | 4=>4 | 20=>20 | 0=>0 | 46=>337 | 109=>346 | 5=>5 | 72=>326 | 76=>295 | 51=>365 | 146=>372 | 53=>297 | 148=>298 | 70=>323 | 37=>324 | 75=>294 | 127=>349 | 164=>374 | 80=>270 | n=>n,λ| n=>n⟩
theorem dt:iP prog M4:={
 mixed:=tE
 f99:=func258.trans tU
 f105:=func288.trans tU
 f165:=func327.trans tU
 f166:=func289.trans tU
 f169:=func290.trans tU
 f170:=func328.trans tU
 f206:=func305.trans tU
 f212:=func326.trans tU
 f240:=func329.trans tU
 f241:=func356.trans tU
 f263:=func355.trans tU
 f264:=func264.trans tU
 f276:=func357.trans tU
 f277:=func372.trans tU
 t0:=underlying0
 a0:=isAgg0
 z0:=sizeOf0
 v0:=zeroValue0
 t3:=underlying3
 a3:=isAgg3
 z3:=sizeOf3
 v3:=zeroValue3
 t4:=underlying4
 a4:=isAgg4
 z4:=sizeOf4
 v4:=zeroValue4
 t5:=underlying5
 a5:=isAgg5
 z5:=sizeOf5
 v5:=zeroValue5
 t9:=underlying9
 a9:=isAgg9
 z9:=sizeOf9
 v9:=zeroValue9
 t20:=underlying20
 a20:=isAgg20
 z20:=sizeOf20
 v20:=zeroValue20
 t37:=underlying324
 a37:=isAgg324
 z37:=sizeOf324
 v37:=zeroValue324
 t46:=underlying337
 a46:=isAgg337
 z46:=sizeOf337
 v46:=zeroValue337
 t51:=underlying365
 a51:=isAgg365
 z51:=sizeOf365
 v51:=zeroValue365
 t53:=underlying297
 a53:=isAgg297
 z53:=sizeOf297
 v53:=zeroValue297
 t70:=underlying323
 a70:=isAgg323
 z70:=sizeOf323
 v70:=zeroValue323
 t72:=underlying326
 a72:=isAgg326
 z72:=sizeOf326
 v72:=zeroValue326
 t75:=underlying294
 a75:=isAgg294
 z75:=sizeOf294
 v75:=zeroValue294
 t76:=underlying295
 a76:=isAgg295
 z76:=sizeOf295
 v76:=zeroValue295
 t109:=underlying346
 a109:=isAgg346
 z109:=sizeOf346
 v109:=zeroValue346
 t127:=underlying349
 a127:=isAgg349
 z127:=sizeOf349
 v127:=zeroValue349
 t146:=underlying372
 a146:=isAgg372
 z146:=sizeOf372
 v146:=zeroValue372
 t148:=underlying298
 a148:=isAgg298
 z148:=sizeOf298
 v148:=zeroValue298
 t164:=underlying374
 a164:=isAgg374
 z164:=sizeOf374
 v164:=zeroValue374 }
theorem Ez:ia prog M4:={
 sizeBuilder:=tE
 liesBuilder:=tE
 t5:=underlying5
 a5:=isAgg5
 z5:=sizeOf5
 v5:=zeroValue5
 infoByte:=tE
 cellsByte:=tE
 sizeByte:=tE
 neB5:=by decide }
open Go.RowKit Go.Lib in
theorem strings_Repeat(s:ByteArray)(c:Nat)(w:World)(hc:c<=9223372036854775807)(a:s.size*c<=140737488355328):
  Calls prog 288 #[.string s,.int .i64 c] w λe w'=>e = .returned (.string ⟨(Lib.repeatL s.data.toList c).toArray⟩)/\Below w.heap.size w w':=Any.strings_Repeat dt Ez s c w hc a
end Go.Proofs
namespace Go.Proofs.YtjcphjpkimmmjaaGreatDoor
variable{w w' w0:World}{E N b bytes i k n off:Nat}{a:Act}{c cs l l' news z:List Value}{o:Obj}{u v1 v3 v4 v5 x2 x3 x4 x5 x6 x7 x8:Value}{A0 A1 A2 A3 A4 A5 A6 A7 A8 A9 α γ ι:Type}{T T' yT:TypeId}{ops:Array Oper}{Q Q':Exit->Act->World->Prop}{tl:List Oper}{K:Act->World->Prop}{g:Bool}{x y:Operand}{bs bs' bs0 ob:List (Nat×Obj)}{fr:Nat×Nat}{P:Program}{f:Obj->List (Nat×Obj)}{fn:Func}{aft:Array Edge}{gd:Option (Nat×Bool)}{x1:Nat×Obj}{ps:List (Nat×Value)}{s:ByteArray}{pl:List (Nat×Nat)}{ds:List Int}{h:Int}{F F0:Gs}{G:Gs->Prop}{m:Sl}
open Go.RowKit
section
variable{P:Program}{N:Nat}{m:Sl}{S:World->Prop}{ty:TypeId}{T yT:TypeId}{x y:Operand}{a b:Nat}{k:IntKind}
def AH(n:Int):IntKind.u64.wrap n=n%18446744073709551616:=IntKind.wrap_u64 n
theorem LZ(hx:ev m x=some (.int .u64 (a:Int)))(hy:ev m y=some (.int k (b:Int)))(z:Nat)(h:b<=64/\a*2^b%18446744073709551616=z):Qt P N m S (.binOp .shl T x y yT) ty (.int .u64 (z:Int)):=λs w _ _ _ _ ha _=>by
 have h1:min b 64=b:=O;have h2:¬((b:Int)<0):=O;have h3:IntKind.u64.wrap ((a:Int)*2^b)=(z:Int):=by
  rw[AH,<-h.2,bV,aV,aU];rfl
 simp[execOp,ha.ev hx,ha.ev hy,eqGuard,binOp,iS,bI,h1,h2,h3]
theorem T4(hx:ev m x=some (.int .u64 (a:Int)))(hy:ev m y=some (.int k (b:Int)))(z:Nat)(h:b<=64/\a/2^b=z):Qt P N m S (.binOp .shr T x y yT) ty (.int .u64 (z:Int)):=λs w _ _ _ _ ha _=>by
 have h1:min b 64=b:=O;have h2:¬((b:Int)<0):=O;have h3:(a:Int)/2^b=(z:Int):=by
  rw[<-h.2,bW,aU];rfl
 simp[execOp,ha.ev hx,ha.ev hy,eqGuard,binOp,iS,bI,h1,h2];exact h3
def Ww(n:Nat)(h:n<18446744073709551616):(aP 64 (n:Int)).toNat=n:=by
 rw[fA];have h3:(((2^64:Nat):Int))=18446744073709551616:=tF;rw[h3];omega
theorem xj(hx:ev m x=some (.int .u64 (a:Int)))(hy:ev m y=some (.int .u64 ((4294967295:Nat):Int)))(z:Nat)(h:a<18446744073709551616/\a%4294967296=z):Qt P N m S (.binOp .and T x y yT) ty (.int .u64 (z:Int)):=λs w _ _ _ _ ha _=>by
 have e:IntKind.u64.wrap (((aP 64 (a:Int) &&& aP 64 ((4294967295:Nat):Int)).toNat:Nat):Int)=(z:Int):=by
  rw[fL,Ww a h.1,Ww _ tF,show(4294967295:Nat)=2^32-1 by decide,Nat.and_two_pow_sub_one_eq_mod,AH];have:=h.2;omega
 have b:(do eqGuard .and T x y (.int .u64 (a:Int)) (.int .u64 ((4294967295:Nat):Int));binOp .and T (.int .u64 (a:Int)) (.int .u64 ((4294967295:Nat):Int)):Sem Value).run P w = .ok (.int .u64 (z:Int)) w:=by
  simp only[eqGuard,binOp,ib,aj,aG,ak];rw[<-e];rfl
 simp only[execOp,ha.ev hx,ha.ev hy];simp only[aj]at b ⊢;rw[b];rfl
theorem QEu(hx:ev m x=some (.int .u64 (a:Int)))(hy:ev m y=some (.int .u64 (b:Int)))(z:Nat)(h:a<18446744073709551616/\(∃c k,a=c*2^k/\b<2^k)/\b<18446744073709551616/\a+b=z):Qt P N m S (.binOp .or T x y yT) ty (.int .u64 (z:Int)):=λs w _ _ _ _ ha _=>by
 obtain⟨h1,⟨c,k,h2,h3⟩,h4,h5⟩:=h;have e:IntKind.u64.wrap (((aP 64 (a:Int) ||| aP 64 (b:Int)).toNat:Nat):Int)=(z:Int):=by
  have h7:a ||| b=a+b:=by rw[h2,aB,eU h3]
  have h8:a ||| b<2^64:=Nat.or_lt_two_pow h1 h4
  rw[BitVec.toNat_or,Ww a h1,Ww b h4,AH];omega
 have f:(do eqGuard .or T x y (.int .u64 (a:Int)) (.int .u64 (b:Int));binOp .or T (.int .u64 (a:Int)) (.int .u64 (b:Int)):Sem Value).run P w = .ok (.int .u64 (z:Int)) w:=by
  simp only[eqGuard,binOp,ib,aj,aG,ak];rw[<-e];rfl
 simp only[execOp,ha.ev hx,ha.ev hy];simp only[aj]at f ⊢;rw[f];rfl
def Gu(hx:ev m x=some (.int .u64 (a:Int)))(hy:ev m y=some (.int .u64 (b:Int)))(z:Nat)(h:(a+b)%18446744073709551616=z):Qt P N m S (.binOp .add T x y yT) ty (.int .u64 (z:Int)) :=
 QT hx hy (by show some (aK .u64 (IntKind.u64.wrap ((a:Int)+b)))=_;rw[AH];congr 2;omega)
def WY(hx:ev m x=some (.int .u64 (a:Int)))(hy:ev m y=some (.int .u64 (b:Int)))(z:Nat)(h:a*b%18446744073709551616=z):Qt P N m S (.binOp .mul T x y yT) ty (.int .u64 (z:Int)) :=
 QT hx hy (by show some (aK .u64 (IntKind.u64.wrap ((a:Int)*b)))=_;rw[AH,<-aV];congr 2;omega)
def Gt(hx:ev m x=some (.int .u64 (a:Int)))(hy:ev m y=some (.int .u64 (b:Int)))(z:Nat)(h:b<18446744073709551616/\(a+18446744073709551616-b)%18446744073709551616=z):Qt P N m S (.binOp .sub T x y yT) ty (.int .u64 (z:Int)) :=
 QT hx hy (by show some (aK .u64 (IntKind.u64.wrap ((a:Int)-b)))=_;rw[AH];congr 2;omega)
def La(hx:ev m x=some (.int .u64 (a:Int)))(hy:ev m y=some (.int .u64 (b:Int)))(z:Nat)(h:0<b/\a<18446744073709551616/\a/b=z):Qt P N m S (.binOp .quo T x y yT) ty (.int .u64 (z:Int)):=by
 have:=vQ (P:=P) (N:=N) (m:=m) (S:=S) (ty:=ty) (T:=T) (yT:=yT) hx hy O;have e:IntKind.u64.wrap ((a:Int).tdiv b)=(z:Int):=by
  have h1:a/b<=a:=Nat.div_le_self a b;rw[Int.tdiv_eq_ediv_of_nonneg O,<-bW,AH,h.2.2];omega
 rw[e]at this;exact this
def QBE(hx:ev m x=some (.int .u64 (a:Int)))(hy:ev m y=some (.int .u64 (b:Int)))(z:Nat)(h:0<b/\a%b=z):Qt P N m S (.binOp .rem T x y yT) ty (.int .u64 (z:Int)):=by
 have:=H9 (P:=P) (N:=N) (m:=m) (S:=S) (ty:=ty) (T:=T) (yT:=yT) hx hy O O;rw[<-bV,h.2]at this;exact this
end
section
variable{D yn1 yn0 u un q r:Nat}
def yO(a:D=4294967296)(h:q*yn1+r=u)(hc:q*yn0<=D*r+un):q*(yn1*D+yn0)<=u*D+un:=by
 subst a;rw[jh,<-iD,<-h];generalize q*yn1=A at *
 generalize q*yn0=B at *
 omega
def pM(hy:0<yn1*D+yn0)(hq:(u*D+un)/(yn1*D+yn0)<=q)(h:q*(yn1*D+yn0)<=u*D+un):q=(u*D+un)/(yn1*D+yn0) :=
 Nat.le_antisymm ((Nat.le_div_iff_mul_le hy).2 h) hq
def MP(a:D=4294967296)(hy:0<yn1*D+yn0)(h:q*yn1+r=u)(hq:(u*D+un)/(yn1*D+yn0)<=q)(hc:q*yn0<=D*r+un):q=(u*D+un)/(yn1*D+yn0):=pM hy hq (yO a h hc)
def EV(b:D=4294967296)(hy:0<yn1*D+yn0)(h0:yn0<D)(h:q*yn1+r=u)(hq:(u*D+un)/(yn1*D+yn0)<=q)(a:q<=D)(hr:D<=r):q=(u*D+un)/(yn1*D+yn0):=by
 refine MP b hy h hq ?_;have h1:q*yn0<=D*D:=iw a O;have h2:D*D<=D*r:=fH D hr;omega
def KM(b:D=4294967296)(hy:0<yn1*D+yn0)(hu:u<yn1*D+yn0)(a:un<D)(h:q*yn1+r=u)(hc:D<=q\/D*r+un<q*yn0):(u*D+un)/(yn1*D+yn0)<q:=by
 rw[aW hy];rcases hc with hc | hc
 ·have h1:D*(yn1*D+yn0)<=q*(yn1*D+yn0):=aZ _ hc;have h2:(u+1)*D<=(yn1*D+yn0)*D:=aZ _ hu;rw[aE]at h2;rw[aB D]at h1;omega
 subst b;rw[jh,<-iD,<-h];generalize q*yn1=A at *
 generalize q*yn0=B at *
 omega
def RX(a:D=4294967296)(h1:2147483648<=yn1)(b:un<D):(u*D+un)/(yn1*D+yn0)<=u/yn1:=by
 have h2:0<yn1*D:=by subst a;omega
 refine eI (Nat.div_le_div_left (Nat.le_add_right _ yn0) h2) ?_;rw[aB yn1,<-Nat.div_div_eq_div_mul];have:(u*D+un)/D=u:=by subst a;omega
 rw[this];exact au _
def M5(a:D=4294967296)(h1:2147483648<=yn1)(h0:yn0<D)(hu:u<yn1*D+yn0):u/yn1<=D+1:=by
 have:u/yn1<D+2:=by
  rw[aW O];subst a;omega
 omega
end
structure Tg(yn1 yn0 u un:Nat) where
 q:Nat
 r:Nat
 h:q*yn1+r=u
 le:(u*4294967296+un)/(yn1*4294967296+yn0)<=q
 up:q<=4294967297
 lo:r<4294967296
theorem KL{q a r u:Nat}(h:q*a+r=u)(hq:1<=q):(q-1)*a+(r+a)=u:=by
 obtain⟨k,rfl⟩:∃k,q=k+1:=⟨q-1,O⟩;rw[aE]at h;rw[Nat.add_sub_cancel];omega
def CJ{q a:Nat}(hq:q<4294967296)(ha:a<4294967296):q*a<18446744073709551616:=by
 have:q*a<=4294967295*4294967295:=iw O O;omega
def O0{S:World->Prop}{ty:TypeId}{a b:TypeId}{c:IntKind}{n:Nat}(hx:ev m x=some (.int c (n:Int)))(f:(P.underlying a).isSome=true)(hk:Nl P b=some .u64)(h:n<18446744073709551616):Qt P N m S (.convert a b x) ty (.int .u64 (n:Int)):=by
 have:=Ib (P:=P) (N:=N) (m:=m) (S:=S) (ty:=ty) hx f hk;rw[AH,bS O O]at this;exact this
def QU.same[Dr]{P:Program}{f:FuncId}{args:List Value}{w:World}{F:Gs}{v:Value}(he:Enters P f)(a:Fits F w)(h:Calls P f args.toArray w λe w'=>e = .returned v/\w'=w):QU P f args w F (λ(_:Unit)=>v) (λ_ _=>True) :=
 ⟨he,h.mono λe w' ⟨h1,h2⟩=>⟨(),F,h1,by rw[h2];exact SX.refl _,Gs.le_refl F,λ_ _=>rfl,by rw[h2];exact a,λ_ _=>trivial⟩⟩
theorem CB{y:Nat}(h0:0<y)(h1:y<18446744073709551616):∃s:Nat,(64-(ba y:Int))=s/\s<64/\y*2^s<18446744073709551616/\9223372036854775808<=y*2^s:=by
 obtain⟨c,b,a⟩:=Lib.bitLenAux_bounds 64 y h1 O;have f:ba y<=64:=Lib.bitLen_le y 64 O h1;change 1<=ba y at c;change 2^(ba y-1)<=y at b;change y<2^ba y at a;generalize ba y=n at *
 refine⟨64-n,O,O,?_,?_⟩
 ·have e:2^n*2^(64-n)=18446744073709551616:=by rw[<-eM,show n+(64-n)=64 by omega]
  rw[<-e];exact eV a (eQ _)
 have e:2^(n-1)*2^(64-n)=9223372036854775808:=by rw[<-eM,show n-1+(64-n)=63 by omega]
 rw[<-e];exact aZ _ b
theorem QBj{y s:Nat}(b:Fits F w)(h1:y<18446744073709551616)(a:(64-(ba y:Int))=s):QU prog 322 [.int .u64 (y:Int)] w F (λ(_:Unit)=>.int .i64 (s:Int)) (λ_ _=>True) :=
 QU.same (enters_of func322 tH rfl) b ((bits_LeadingZeros64 (y:Int) w O O).mono λe w' ⟨h2,h3⟩=>⟨by rw[h2,eK,a],h3⟩)
def qN{A B R1 a u v v1 v0:Nat}(h1:A+R1=u*4294967296+v1)(h2:B+a=R1*4294967296+v0)(h3:v=v1*4294967296+v0):A*4294967296+B+a=u*18446744073709551616+v:=by
 subst h3;omega
def Fb{q a r:Nat}(h:((q*a:Nat):Int)>(r:Int)):1<=q:=by
 rcases fO q with h0 | h0
 ·subst h0;simp at h;omega
 exact h0
def QB9{q:Nat}(h:q<4294967296):q*4294967296%18446744073709551616=q*4294967296:=O
def QCA{q p:Nat}(h:q<4294967296)(k:p<4294967296):(q*4294967296+p)%18446744073709551616=q*4294967296+p:=O
theorem ph{h l y:Nat}(hF:Fits F w)(hh:h<y)(hl:l<18446744073709551616)(hy:y<18446744073709551616):
  QU prog 321 [.int .u64 (h:Int),.int .u64 (l:Int),.int .u64 (y:Int)] w F (λ(_:Unit)=>.tuple #[.int .u64 (((h*18446744073709551616+l)/y:Nat):Int),.int .u64 (((h*18446744073709551616+l)%y:Nat):Int)]) (λ_ _=>True):=by
 obtain⟨s,hs,hs64,hY1,hY2⟩:=CB O hy;obtain⟨Y,E⟩:∃Y,Y=y*2^s:=⟨_,rfl⟩;obtain⟨c,ha1⟩:∃c,c=Y/4294967296:=⟨_,rfl⟩;obtain⟨m,ha0⟩:∃m,m=Y%4294967296:=⟨_,rfl⟩;obtain⟨u,hu⟩:∃u,u=h*2^s+l/2^(64-s):=⟨_,rfl⟩;obtain⟨v,hv⟩:∃v,v=l*2^s%18446744073709551616:=⟨_,rfl⟩;obtain⟨v1,X⟩:∃v1,v1=v/4294967296:=⟨_,rfl⟩;obtain⟨v0,Z⟩:∃v0,v0=v%4294967296:=⟨_,rfl⟩;rw[<-E]at hY1 hY2;have K:2147483648<=c:=O;have j:m<4294967296:=O;have P:v1<4294967296:=O;have Q:v0<4294967296:=O;have A:c*4294967296+m=Y:=O;have V:2^(64-s)*2^s=18446744073709551616:=by rw[<-eM,show 64-s+s=64 by omega]
 have hp:=eQ s;have R:l/2^(64-s)<2^s:=by rw[aW (eQ _),aB,V];exact hl
 have hhs:h*2^s+2^s<=Y:=by have:=aZ (2^s) hh;rw[Nat.succ_mul]at this;omega
 have huY:u<Y:=O;have hNv:u*18446744073709551616+v=(h*18446744073709551616+l)*2^s:=by
  have h1:l*2^s/18446744073709551616=l/2^(64-s):=by rw[<-V,fp _ _ hp]
  have h2:=aT (l*2^s) 18446744073709551616;rw[h1,<-hv]at h2;rw[hu,aE,aE,fM];omega
 obtain⟨Q1,o⟩:∃Q1,Q1=(u*4294967296+v1)/(c*4294967296+m):=⟨_,rfl⟩;obtain⟨R1,S⟩:∃R1,R1=(u*4294967296+v1)%(c*4294967296+m):=⟨_,rfl⟩;have H:0<c*4294967296+m:=O;have hR1l:R1<Y:=by rw[S,<-A];exact eG _ H
 have hD1:Q1*Y+R1=u*4294967296+v1:=by rw[o,S,<-A,aB];exact aT _ _
 have N:Q1<4294967296:=by rw[o,aW H,A];omega
 obtain⟨Q0,x⟩:∃Q0,Q0=(R1*4294967296+v0)/(c*4294967296+m):=⟨_,rfl⟩;obtain⟨R0,T⟩:∃R0,R0=(R1*4294967296+v0)%(c*4294967296+m):=⟨_,rfl⟩;have M:R0<Y:=by rw[T,<-A];exact eG _ H
 have hD0:Q0*Y+R0=R1*4294967296+v0:=by rw[x,T,<-A,aB];exact aT _ _
 have U:Q0<4294967296:=by rw[x,aW H,A];omega
 have L:(Q1*4294967296+Q0)*Y+R0=(h*18446744073709551616+l)*2^s:=by
  rw[<-hNv,aE,fM];exact qN hD1 hD0 O
 have hq:(h*18446744073709551616+l)/y=Q1*4294967296+Q0:=by
  have:=fp (h*18446744073709551616+l) y hp;rw[<-this,<-L,<-E,aB _ Y,Nat.mul_add_div O,Nat.div_eq_of_lt M,fh]
 have hr:(h*18446744073709551616+l)%y=R0/2^s:=by
  have:=Nat.mul_mod_mul_right (2^s) (h*18446744073709551616+l) y;rw[<-L,<-E,aB _ Y,Nat.mul_add_mod,bG M]at this;rw[this,Nat.mul_div_cancel _ hp]
 refine QU.intro (G:=λ_=>True) func321 rfl tH rfl rfl hF tL<|wa<|wX rfl<|wZ rfl<|QG<|wb rfl<|QA (QT rfl rfl rfl)<|QE<|QC ?_
 refine QQ I (λhc=>?_) λhc=>?_
 ·exact absurd hc (by simp at hc;omega)
 refine wC 10 I ?_;refine QQ I (λhc=>?_) λhc=>?_
 ·exact absurd hc (by simp at hc;omega)
 refine wC 9 I ?_;refine QQ I (λhc=>?_) λhc=>?_
 ·refine QG<|JG we mixed tE<|QK (QD I)<|QK (QD I)<|QK (La I I (l/y) (⟨O,O,rfl⟩))<|QK (QD I)<|QK (QD I)<|QK (QBE I I (l%y) (⟨O,rfl⟩))<|QK (QF I)<|QK (QF I)<|Q7<|QC<|QX ?_
  exact Je () I (wU I I) (by have h0:h=0:=(by simp at hc;omega);subst h0;simp) tL
 refine wC 5 I<|QI I (λ_ _ f k=>QBj (s:=s) f O hs) λc35=>QA (O0 I QEO cZ O)<|wD 7 I<|QA (LZ I I (Y) (⟨O,by rw[<-E];omega⟩))<|wD 6 I<|QA (T4 (b:=32) rfl rfl (c) (⟨tF,ha1.symm⟩))<|wD 3 I ?_
 refine wb I<|QA (xj I I (m) (⟨O,ha0.symm⟩))<|wD 7 I<|QA (LZ I I (h*2^s) (⟨O,bG O⟩))<|wB 2 I<|QA (Gt (a:=64) rfl rfl (64-s) (⟨O,O⟩))<|QA (T4 I I (l/2^(64-s)) (⟨O,rfl⟩))<|QA (QEu I I (u) (⟨O,⟨h,s,rfl,R⟩,O,hu.symm⟩))<|wD 7 I<|QA (LZ I I (v) (⟨O,hv.symm⟩)) ?_
 refine wD 6 I<|QA (T4 (b:=32) rfl rfl (v1) (⟨tF,X.symm⟩))<|wD 6 I<|QA (xj I I (v0) (⟨O,Z.symm⟩))<|wD 7 I<|QA (La I I (u/c) (⟨O,O,rfl⟩))<|wD 3 I ?_
 refine wA 5 I<|QA (WY I I (u/c*c) (tD<|bL u c))<|QA (Gt I I (u%c) (by have:=aT u c;rw[aB]at this;have:=bL u c;omega))<|wD 3 I ?_
 refine BR (ι:=Unit) (λ_=>[(2,.int .u64 ((Y:Nat):Int)),(8,.int .u64 ((s:Nat):Int)),(9,.int .u64 ((c:Nat):Int)),(10,.int .u64 ((m:Nat):Int)),(11,.int .u64 ((u:Nat):Int)),(13,.int .u64 ((v1:Nat):Int)),(14,.int .u64 ((v0:Nat):Int)),(15,.int .u64 ((Q1:Nat):Int))]) (λ_=>[]) (λ_ _=>True) ?_ ?_
 ·refine QV<|YB (ι:=Tg c m u v1) (λi=>[(2,.int .u64 ((Y:Nat):Int)),(8,.int .u64 ((s:Nat):Int)),(9,.int .u64 ((c:Nat):Int)),(10,.int .u64 ((m:Nat):Int)),(11,.int .u64 ((u:Nat):Int)),(13,.int .u64 ((v1:Nat):Int)),(14,.int .u64 ((v0:Nat):Int)),(15,.int .u64 ((i.q:Nat):Int)),(16,.int .u64 ((i.r:Nat):Int))]) (λ_=>[]) (λ_ _=>True) (λi=>i.q) ⟨u/c,u%c,by rw[aB];exact aT u c,RX I K P,M5 I K j O,by have:=eG u (show c>0 by omega);omega⟩ w9 we tL λi=>wA 6 I ?_
  refine Qn (t:=69) rfl (λC=>?_) λC=>?_
  ·refine wD 11 I ?_;refine QQ I (λhc=>?_) λhc=>?_
   ·refine wC 6 I<|QA (Gt (b:=1) rfl rfl (i.q-1) (⟨tF,by have:=i.up;have:=wi C;omega⟩))<|wD 7 I<|QA (Gu I I (i.r+c) (tD i.lo))<|wD 9 I ?_
    refine QQ I (λhc=>?_) λhc=>?_
    ·refine Qx ?_
     repeat first|refine QY ?_|refine QO tH ?_
     refine QZ ?_;simp only[decide_eq_true_eq]at *;have g:=KM (un:=v1) (D:=4294967296) rfl O O O i.h (.inl O);exact Za () ⟨rfl,rfl,rfl,rfl,rfl,rfl,rfl,congrArg (λn:Nat=>some (aK .u64 (n:Int))) ((EV I O j (KL i.h O) (by rw[<-o];rw[<-o]at g;omega) (tD i.up) O).trans o.symm),trivial⟩ we tL
    refine QN<|Qj ?_
    simp only[decide_eq_true_eq,decide_eq_false_iff_not]at *;have g:=KM (un:=v1) (D:=4294967296) rfl O O O i.h (.inl O);exact Ql (⟨i.q-1,i.r+c,KL i.h O,O,tD i.up,O⟩:Tg c m u v1) (by show i.q-1<i.q;omega) w9 we tL
   refine Qx ?_
   repeat first|refine QY ?_|refine QO tH ?_
   refine QZ ?_;cases hc
  refine wB 5 I<|QA (WY I I (i.q*m) (bG (CJ (tD<|wj C) j)))<|wB 3 I<|QA (WY (a:=4294967296) rfl rfl (4294967296*i.r) (tD i.lo))<|wB 3 I<|QA (Gu I I (4294967296*i.r+v1) (tD i.lo))<|wD 5 I ?_
  refine QQ I (λhc=>?_) λhc=>?_
  ·refine wC 6 I<|QA (Gt (b:=1) rfl rfl (i.q-1) (⟨tF,by have:=i.up;have:=Fb (wi hc);omega⟩))<|wD 7 I<|QA (Gu I I (i.r+c) (tD i.lo))<|wD 9 I ?_
   refine QQ I (λhc=>?_) λhc=>?_
   ·refine Qx ?_
    repeat first|refine QY ?_|refine QO tH ?_
    refine QZ ?_;simp only[decide_eq_true_eq]at *;have g:=KM (un:=v1) (D:=4294967296) rfl O O O i.h (.inr O);exact Za () ⟨rfl,rfl,rfl,rfl,rfl,rfl,rfl,congrArg (λn:Nat=>some (aK .u64 (n:Int))) ((EV I O j (KL i.h O) (by rw[<-o];rw[<-o]at g;omega) (tD i.up) O).trans o.symm),trivial⟩ we tL
   refine QN<|Qj ?_
   simp only[decide_eq_true_eq,decide_eq_false_iff_not]at *;have g:=KM (un:=v1) (D:=4294967296) rfl O O O i.h (.inr O);exact Ql (⟨i.q-1,i.r+c,KL i.h O,O,tD i.up,O⟩:Tg c m u v1) (by show i.q-1<i.q;omega) w9 we tL
  refine Qx ?_
  repeat first|refine QY ?_|refine QO tH ?_
  refine QZ ?_;simp only[decide_eq_false_iff_not]at *;exact Za () ⟨rfl,rfl,rfl,rfl,rfl,rfl,rfl,congrArg (λn:Nat=>some (aK .u64 (n:Int))) ((MP I O i.h i.le O).trans o.symm),trivial⟩ we tL
 intro i;refine wb I<|QA (WY (b:=4294967296) rfl rfl (u*4294967296%18446744073709551616) (rfl))<|wW I<|QA (Gu I I ((u*4294967296+v1)%18446744073709551616) O)<|wB 2 I<|QA (WY I I (Q1*Y%18446744073709551616) (rfl))<|QA (Gt I I (R1) (⟨O,by generalize Q1*Y=B at *;omega⟩))<|wD 7 I<|QA (La I I (R1/c) (⟨O,O,rfl⟩))<|wD 7 I ?_
 refine wW I<|QA (WY I I (R1/c*c) (tD<|bL R1 c))<|QA (Gt I I (R1%c) (by have:=aT R1 c;rw[aB]at this;have:=bL R1 c;omega))<|wD 3 I ?_
 refine BR (ι:=Unit) (λ_=>[(2,.int .u64 ((Y:Nat):Int)),(8,.int .u64 ((s:Nat):Int)),(14,.int .u64 ((v0:Nat):Int)),(15,.int .u64 ((Q1:Nat):Int)),(17,.int .u64 ((R1:Nat):Int)),(18,.int .u64 ((Q0:Nat):Int))]) (λ_=>[]) (λ_ _=>True) ?_ ?_
 ·refine QV<|YB (ι:=Tg c m R1 v0) (λi=>[(2,.int .u64 ((Y:Nat):Int)),(8,.int .u64 ((s:Nat):Int)),(9,.int .u64 ((c:Nat):Int)),(10,.int .u64 ((m:Nat):Int)),(14,.int .u64 ((v0:Nat):Int)),(15,.int .u64 ((Q1:Nat):Int)),(17,.int .u64 ((R1:Nat):Int)),(18,.int .u64 ((i.q:Nat):Int)),(16,.int .u64 ((i.r:Nat):Int))]) (λ_=>[]) (λ_ _=>True) (λi=>i.q) ⟨R1/c,R1%c,by rw[aB];exact aT R1 c,RX I K Q,M5 I K j O,by have:=eG R1 (show c>0 by omega);omega⟩ w9 we tL λi=>wA 6 I ?_
  refine Qn (t:=104) rfl (λz=>?_) λz=>?_
  ·refine wD 11 I ?_;refine QQ I (λhc=>?_) λhc=>?_
   ·refine wC 6 I<|QA (Gt (b:=1) rfl rfl (i.q-1) (⟨tF,by have:=i.up;have:=wi z;omega⟩))<|wD 7 I<|QA (Gu I I (i.r+c) (tD i.lo))<|wD 9 I ?_
    refine QQ I (λhc=>?_) λhc=>?_
    ·refine Qx ?_
     repeat first|refine QY ?_|refine QO tH ?_
     refine QZ ?_;simp only[decide_eq_true_eq]at *;have g:=KM (un:=v0) (D:=4294967296) rfl O O O i.h (.inl O);exact Za () ⟨rfl,rfl,rfl,rfl,rfl,congrArg (λn:Nat=>some (aK .u64 (n:Int))) ((EV I O j (KL i.h O) (by rw[<-x];rw[<-x]at g;omega) (tD i.up) O).trans x.symm),trivial⟩ we tL
    refine QN<|Qj ?_
    simp only[decide_eq_true_eq,decide_eq_false_iff_not]at *;have g:=KM (un:=v0) (D:=4294967296) rfl O O O i.h (.inl O);exact Ql (⟨i.q-1,i.r+c,KL i.h O,O,tD i.up,O⟩:Tg c m R1 v0) (by show i.q-1<i.q;omega) w9 we tL
   refine Qx ?_
   repeat first|refine QY ?_|refine QO tH ?_
   refine QZ ?_;cases hc
  refine wB 5 I<|QA (WY I I (i.q*m) (bG (CJ (tD<|wj z) j)))<|wB 3 I<|QA (WY (a:=4294967296) rfl rfl (4294967296*i.r) (tD i.lo))<|wB 3 I<|QA (Gu I I (4294967296*i.r+v0) (tD i.lo))<|wD 5 I ?_
  refine QQ I (λhc=>?_) λhc=>?_
  ·refine wC 6 I<|QA (Gt (b:=1) rfl rfl (i.q-1) (⟨tF,by have:=i.up;have:=Fb (wi hc);omega⟩))<|wD 7 I<|QA (Gu I I (i.r+c) (tD i.lo))<|wD 9 I ?_
   refine QQ I (λhc=>?_) λhc=>?_
   ·refine Qx ?_
    repeat first|refine QY ?_|refine QO tH ?_
    refine QZ ?_;simp only[decide_eq_true_eq]at *;have g:=KM (un:=v0) (D:=4294967296) rfl O O O i.h (.inr O);exact Za () ⟨rfl,rfl,rfl,rfl,rfl,congrArg (λn:Nat=>some (aK .u64 (n:Int))) ((EV I O j (KL i.h O) (by rw[<-x];rw[<-x]at g;omega) (tD i.up) O).trans x.symm),trivial⟩ we tL
   refine QN<|Qj ?_
   simp only[decide_eq_true_eq,decide_eq_false_iff_not]at *;have g:=KM (un:=v0) (D:=4294967296) rfl O O O i.h (.inr O);exact Ql (⟨i.q-1,i.r+c,KL i.h O,O,tD i.up,O⟩:Tg c m R1 v0) (by show i.q-1<i.q;omega) w9 we tL
  refine Qx ?_
  repeat first|refine QY ?_|refine QO tH ?_
  refine QZ ?_;simp only[decide_eq_false_iff_not]at *;exact Za () ⟨rfl,rfl,rfl,rfl,rfl,congrArg (λn:Nat=>some (aK .u64 (n:Int))) ((MP I O i.h i.le O).trans x.symm),trivial⟩ we tL
 intro i;refine wb I<|QA (WY (b:=4294967296) rfl rfl (Q1*4294967296) (QB9 N))<|wW I<|QA (Gu I I (Q1*4294967296+Q0) (QCA N U))<|wW I<|QA (WY (b:=4294967296) rfl rfl (R1*4294967296%18446744073709551616) (rfl))<|wW I<|QA (Gu I I ((R1*4294967296+v0)%18446744073709551616) O)<|wB 2 I<|QA (WY I I (Q0*Y%18446744073709551616) (rfl))<|QA (Gt I I (R0) (⟨O,by generalize Q0*Y=B at *;omega⟩))<|wW I<|QA (T4 I I (R0/2^s) (⟨O,rfl⟩))<|wD 5 I ?_
 exact Je () I (wU I I) (by rw[hq,hr]) tL
open Go.RowKit Ig
def X6(x y:Int):Int:=x*y/W
def XG(x y:Int):Int:=x*y%W
theorem KK(x y:Int)(w:World)(hx:0<=x/\x<W)(hy:0<=y/\y<W):
  Calls prog 264 #[.int .u64 x,.int .u64 y] w λe w'=>e = .returned (.tuple #[.int .u64 (X6 x y),.int .u64 (XG x y)])/\w=w':=by
 obtain⟨a,rfl⟩:=ag hx.1;obtain⟨b,rfl⟩:=ag hy.1;have c:W=18446744073709551616:=rfl;refine(bits_Mul64 a b O O w).mono ?_;rintro e w' ⟨rfl,rfl⟩;refine⟨?_,rfl⟩;unfold X6 XG;rw[c];simp only[bW,bV,aV];rfl
def L4(h l y:Int):Int:=(h*W+l)/y
def qU(h l y:Int):Int:=(h*W+l)%y
def LR(w:World):Gs:=λb=>match w.heap[b]? with | some (.cells c T _)=>some (c,T) | _=>none
theorem Ag(w:World):Fits (LR w) w:=by
 refine⟨λb c T h=>?_,λb c fr h=>?_⟩
 ·unfold LR at h;split at h
  ·rename_i c' T' fr e;cases h;exact⟨fr,e⟩
  cases h
 unfold LR;rw[h]
theorem TT(h l y:Int)(w:World)(g:0<=h/\h<y)(f:0<=l/\l<W)(hy:y<W):
  Calls prog 321 #[.int .u64 h,.int .u64 l,.int .u64 y] w λe w'=>e = .returned (.tuple #[.int .u64 (L4 h l y),.int .u64 (qU h l y)])/\Ext w w':=by
 obtain⟨a,rfl⟩:=ag g.1;obtain⟨b,rfl⟩:=ag f.1;obtain⟨c,rfl⟩:=ag (show 0<=y by omega);have i:W=18446744073709551616:=rfl;refine(ph (Ag w) (h:=a) (l:=b) (y:=c) O O O).2.mono ?_;rintro e w' ⟨_,F',rfl,hx,_⟩;refine⟨?_,hx.toBelow⟩;unfold L4 qU;rw[i];simp only[bW,bV,aV,Int.natCast_add];rfl
theorem zo(x:Int)(w:World)(hx:0<x/\x<W):
  Calls prog 322 #[.int .u64 x] w λe w'=>(∃s:Nat,e = .returned (.int .i64 s)/\s<64/\x*2^s<W/\9223372036854775808<=x*2^s)/\w=w':=by
 obtain⟨a,rfl⟩:=ag (show 0<=x by omega);have b:W=18446744073709551616:=rfl;obtain⟨s,h1,h2,h3,h4⟩:=CB (y:=a) O O;refine(bits_LeadingZeros64 (a:Int) w O O).mono ?_;rintro e w' ⟨rfl,rfl⟩;refine⟨⟨s,?_,h2,?_,?_⟩,rfl⟩
 ·rw[eK,h1]
 ·rw[b];have:((a*2^s:Nat):Int)<18446744073709551616:=O;simpa[aV,aU]using this
 have:(9223372036854775808:Int)<=((a*2^s:Nat):Int):=O;simpa[aV,aU]using this
theorem Ny{x y o c:Int}(hx:0<=x/\x<W)(hy:0<=y/\y<W)(h:0<=o/\o<W)(hc:0<=c/\c<W):
  (0<=X6 x y/\X6 x y<W)/\(0<=XG x y/\XG x y<W) /\
  (0<=XW (XG x y) o 0/\XW (XG x y) o 0<W) /\
  (0<=X6 x y+Xy (XG x y) o 0/\X6 x y+Xy (XG x y) o 0<W) /\
  (0<=XW (XW (XG x y) o 0) c 0/\XW (XW (XG x y) o 0) c 0<W) /\
  (0<=X6 x y+Xy (XG x y) o 0+Xy (XW (XG x y) o 0) c 0/\X6 x y+Xy (XG x y) o 0+Xy (XW (XG x y) o 0) c 0<W) /\
  XW (XW (XG x y) o 0) c 0+W*(X6 x y+Xy (XG x y) o 0+Xy (XW (XG x y) o 0) c 0)=x*y+o+c:=by
 have b:0<=x*y:=aJ hx.1 hy.1;have i:x*y<=(W-1)*(W-1):=ix O O hy.1 (by simp only[HK];omega);have j:XG x y+W*X6 x y=x*y:=by unfold XG X6;rw[iY];exact fw _ _
 have g:0<=XG x y:=eR _ tF;have f:XG x y<W:=fQ _ Ju;have h0:0<=X6 x y:=ir b tF;generalize x*y=m at *
 generalize XG x y=lo at *
 generalize X6 x y=hi at *
 have a:=HH (x:=lo) (y:=o) (c:=0) ⟨g,f⟩ h tF;generalize XW lo o 0=lo1 at *
 generalize Xy lo o 0=c1 at *
 have k:=HH (x:=lo1) (y:=c) (c:=0) a.2.1 hc tF;generalize XW lo1 c 0=lo2 at *
 generalize Xy lo1 c 0=c2 at *
 simp only[HK]at *
 omega
def Ko(la lb:List Int)(i j:Nat)(x:Int)(o:List Int)(c:Int):Prop :=
 o.length=la.length+lb.length/\DG W o/\(∀p,i+lb.length<=p->Qm o p=0)/\(0<=c/\c<W) /\
  dv W o+W^(i+j)*c=dv W (la.take i)*dv W lb+W^i*(x*dv W (lb.take j))
theorem Ko.step{la lb o:List Int}{j:Nat}{x c:Int}(h:Ko la lb i j x o c)(hx:0<=x/\x<W)(hb:DG W lb)(g:j<lb.length)(hi:i<la.length):
  Ko la lb i (j+1) x (o.set (i+j) (XW (XW (XG x (Qm lb j)) (Qm o (i+j)) 0) c 0))
   (X6 x (Qm lb j)+Xy (XG x (Qm lb j)) (Qm o (i+j)) 0+Xy (XW (XG x (Qm lb j)) (Qm o (i+j)) 0) c 0):=by
 obtain⟨h1,h2,h3,h4,h5⟩:=h;obtain⟨_,_,_,_,a,f,b⟩:=Ny hx (Ji hb j) (Ji h2 (i+j)) h4;refine⟨by simpa using h1,h2.set _ a.1 a.2,?_,f,?_⟩
 ·intro p hp;rw[Br O,if_neg O];exact h3 p hp
 rw[Rk W O,XS,<-Nat.add_assoc,aC];generalize XW (XW (XG x (Qm lb j)) (Qm o (i+j)) 0) c 0=lo at *
 generalize X6 x (Qm lb j)+Xy (XG x (Qm lb j)) (Qm o (i+j)) 0+Xy (XW (XG x (Qm lb j)) (Qm o (i+j)) 0) c 0=hi at *
 have e:W^(i+j)*(lo+W*hi)=W^(i+j)*(x*Qm lb j+Qm o (i+j)+c):=by rw[b]
 rw[fC]at *
 grind
theorem Ko.row{la lb o:List Int}{x c:Int}(h:Ko la lb i lb.length x o c)(hi:i<la.length)(hx:x=Qm la i):
  Ko la lb (i+1) 0 0 (o.set (i+lb.length) c) 0:=by
 obtain⟨h1,h2,h3,h4,h5⟩:=h;refine⟨by simpa using h1,h2.set _ h4.1 h4.2,?_,⟨bH _,Ju⟩,?_⟩
 ·intro p hp;rw[Br O,if_neg O];exact h3 p O
 rw[Rk W O,h3 _ (au _),XS,<-hx];rw[bC]at h5;simp only[Int.mul_zero,Int.add_zero,Int.zero_mul,Int.sub_zero];rw[h5];grind
def Ko.start(la lb:List Int):Ko la lb 0 0 0 (ah (la.length+lb.length) 0) 0:=by
 refine⟨tJ,DG.replicate Ju _,?_,⟨bH _,Ju⟩,by rw[TS];simp⟩;intro p _;unfold Qm;split<;>simp
def Ko.next{la lb o:List Int}{c y:Int}(h:Ko la lb i 0 0 o c)(x:Int)(hc:c=0)(hy:y=0):Ko la lb i 0 x o y:=by
 obtain⟨h1,h2,h3,h4,h5⟩:=h;subst hc hy;exact⟨h1,h2,h3,h4,by simpa using h5⟩
theorem EM(v v':Value)(la lb:List Int)(w:World)(ha:DG W la)(hb:DG W lb)(hs:SL w v Jm la)(hs':SL w v' Jm lb)(h1:la.length<=100000000000)(h2:lb.length<=100000000000):
  Calls prog 268 #[v,v'] w λe w'=>Zl w (λv w'=>∃l,SL w' v Jm l/\DG W l/\NZ l/\dv W l=dv W la*dv W lb) e w':=by
 obtain⟨q,cap,rfl,hcap,hmax,hca⟩:=hs;obtain⟨q',cap',rfl,hcap',hmax',hcb⟩:=hs';have HA:=aa hca;clear hca;have HB:=aa hcb;clear hcb;have hmk:=λw=>Ye (la.length+lb.length) O w;have ec:((la.length+lb.length:Nat):Int)=(la.length:Int)+lb.length:=O;simp only[ec]at hmk;clear ec;go_enter func268,ntmps268
 go_wp2
 go_loopw [22] (λi wr=>∃(k:Nat) (o:List Int),k<=la.length/\i = .int .i64 k/\Ko la lb k 0 0 o 0/\Y7 wr w.heap.size 297 Jm o/\Ext w wr)
  (λi _=>la.length-(intOf i).toNat)
 case atStart=>exact⟨0,_,bQ _,rfl,Ko.start la lb,Y7.made w _ Jm 0 _ _ rfl,(Ext.refl _).alloc _⟩
 case round =>
  obtain⟨k,o,hk,rfl,hI,hBl,hE⟩:=hrel;rename_i wr _;obtain⟨wo,rfl⟩:∃wo:World,wo=wr:=⟨_,rfl⟩;clear hmk;by_cases hlt:k<la.length
  ·obtain⟨b,off,rfl,hbl,hc⟩:=HA.out k hlt;rw[Z8 hlt]at hc;have hc:=hE.cell hc;simp only[Jm]at hc;have hx:=Ji ha k;have HI:=aa hI;clear hI;have HBl:=aa hBl;clear hBl;go_wp2
   go_loopw [29,8] (λj c wr=>∃(m:Nat) (o:List Int) (cc:Int),m<=lb.length/\j = .int .i64 m/\c = .int .u64 cc/\Ko la lb k m (Qm la k) o cc/\Y7 wr w.heap.size 297 Jm o/\Ext w wr)
    (λj _ _=>lb.length-(intOf j).toNat)
   case atStart=>exact⟨0,o,0,bQ _,rfl,rfl,HI.out.next _ rfl rfl,HBl.out,hE⟩
   case round =>
    clear HI HBl hE hc;obtain⟨m,o,cc,hm,rfl,rfl,hI,hBl,hE⟩:=hrel;by_cases hlt2:m<lb.length
    ·obtain⟨b2,off2,rfl,hb2,hc2⟩:=HB.out m hlt2;rw[Z8 hlt2]at hc2;have hc2:=hE.cell hc2;simp only[Jm]at hc2;have hst:=hI.step hx hb hlt2 hlt;obtain⟨hd1,hd2,hd3,hd4,hd5⟩:=hI;clear hd3 hd5;have hd1':=aa hd1;have hol:k+m<o.length:=O;clear hd1;have hy:=Ji hb m;have ho:=Ji hd2 (k+m);have hcell:=hBl.cell (i:=k+m) hol;rw[Z8 hol]at hcell;simp only[Jm]at hcell;have hfr:=hBl.frozen (k+m);have HBs:=aa (hBl.set (k+m) (XW (XW (XG (Qm la k) (Qm lb m)) (Qm o (k+m)) 0) cc 0));have HS:=aa hst;clear hst hBl;obtain⟨g1,g2,g3,g4,g5,g6,_⟩:=Ny hx hy ho hd4;generalize hmy:X6 (Qm la k) (Qm lb m)=mh at *
     generalize hml:XG (Qm la k) (Qm lb m)=ml at *
     have HMH:=aa hmy;have HML:=aa hml;clear hmy hml;have ha1:=λw=>KH ml (Qm o (k+m)) 0 g2.1 ho.1 tF tF w;have ha2:=λw=>KH (XW ml (Qm o (k+m)) 0) cc 0 g3.1 hd4.1 tF tF w;have b1:0<=mh+Xy ml (Qm o (k+m)) 0:=g4.1;have b2:mh+Xy ml (Qm o (k+m)) 0<=18446744073709551615:=by have:=g4.2;simp only[HK]at this;omega
     have b3:0<=mh+Xy ml (Qm o (k+m)) 0+Xy (XW ml (Qm o (k+m)) 0) cc 0:=g6.1;have b4:mh+Xy ml (Qm o (k+m)) 0+Xy (XW ml (Qm o (k+m)) 0) cc 0<=18446744073709551615:=by have:=g6.2;simp only[HK]at this;omega
     go_wp2_with (go_at_call 264;refine(KK _ _ _ hx hy).mono ?_;rw[HMH.out,HML.out];rintro e w' ⟨rfl,rfl⟩)
     go_roundw
     case rel=>exact⟨m+1,_,_,O,by go_num,rfl,HS.out,HBs.out,aR hE tJ _⟩
     case measure=>simp[intOf];omega
    have hk':m=lb.length:=O;subst hk';have hst:=hI.row hlt rfl;obtain⟨hd1,hd2,hd3,hd4,hd5⟩:=hI;clear hd3 hd5;have hol:k+lb.length<o.length:=O;clear hd1;have hcell:=hBl.cell (i:=k+lb.length) hol;rw[Z8 hol]at hcell;simp only[Jm]at hcell;have hfr:=hBl.frozen (k+lb.length);have HBs:=aa (hBl.set (k+lb.length) cc);have HS:=aa hst;clear hst hBl;go_wp2
    go_roundw
    case rel=>exact⟨k+1,_,O,by go_num,HS.out,HBs.out,aR hE tJ _⟩
    case measure=>simp[intOf];omega
  have hk':k=la.length:=O;subst hk';obtain⟨hd1,hd2,hd3,hd4,hd5⟩:=hI;have hSL:=SL.BE hBl (la.length+lb.length) O O;rw[ae O,hd1]at hSL;have HSL:=aa hSL;rw[bC]at hd5;have HF:=aa hd5;clear hd5 hSL hd1 hBl;go_wp2_with (go_at_call 310;refine(VV _ _ _ HSL.out).mono ?_;rintro e w' ⟨⟨v',rfl,hv⟩,rfl⟩)
  go_ret
  exact⟨_,rfl,⟨_,hv,hd2.Jf,Zu _,by rw[ZH];have:=HF.out;simpa using this⟩,hE⟩
def p2(s:Nat):Int:=2^s
def YU(s:Nat):0<p2 s:=ji tF
def Gv{s:Nat}(h:s<64):p2 (64-s)*p2 s=W:=by
 unfold p2;rw[<-fC,show 64-s+s=64 from by omega];rfl
def T8:p2 0=1:=rfl
def cJ{s:Nat}(h:s<64):2*p2 s<=W:=by
 have h1:=Gv h;have h2:2<=p2 (64-s):=by
  unfold p2;rw[show 64-s=(63-s)+1 from by omega,aC];have:=YU (63-s);unfold p2 at this;omega
 have h3:2*p2 s<=p2 (64-s)*p2 s:=ax h2 (bh (YU s));omega
def Og{x:Int}{s:Nat}(a:s<64):x*p2 s%W=p2 s*(x%p2 (64-s)):=by
 rw[<-Gv a,bO (p2 (64-s)) (p2 s),bO x (p2 s),Int.mul_emod_mul_of_pos _ _ (YU s)]
def xG{x:Int}{s:Nat}(a:s<64):x*p2 s/W=x/p2 (64-s):=by
 rw[<-Gv a];exact Int.mul_ediv_mul_of_pos_left x _ (YU s)
theorem T9{x:Int}{s:Nat}(f:s<64)(h0:0<=h)(h1:h<p2 s):bits .or .u64 h (x*p2 s%W)=h+x*p2 s%W/\h+x*p2 s%W<W:=by
 have e:=Og (x:=x) f;have i:=YU (64-s);have g:0<=x%p2 (64-s):=eR _ O;have b1:x%p2 (64-s)<p2 (64-s):=fQ _ i;have hb:p2 s*(x%p2 (64-s))+h<W:=by
  have:p2 s*(x%p2 (64-s)+1)<=p2 s*p2 (64-s):=af O (bh (YU s));rw[bO (p2 s) (p2 (64-s)),Gv f,fD]at this;omega
 have j:0<=p2 s*(x%p2 (64-s)):=aJ (bh (YU s)) g;rw[e];refine⟨?_,O⟩;obtain⟨a,ha⟩:=ag g;obtain⟨c,rfl⟩:=ag h0;rw[ha]at *
 have k:p2 s*(a:Int)=((2^s*a:Nat):Int):=by simp[p2]
 have b:c<2^s:=by
  have:(c:Int)<((2^s:Nat):Int):=(by simpa[p2]using h1);omega
 rw[k]at hb ⊢;have l:=HK;rw[u64_or_nat _ _ O O,Nat.or_comm,<-eU b];omega
def Md(l:List Int)(s k:Nat)(ds:List Int)(h:Int):Prop :=
 ds.length=k/\DG W ds/\(0<=h/\h<p2 s)/\dv W ds+W^k*h=dv W (l.take k)*p2 s
theorem Md.step{l:List Int}{s:Nat}(hi:Md l s k ds h)(f:s<64)(g:DG W l):
  Md l s (k+1) (ds++[h+Qm l k*p2 s%W]) (Qm l k/p2 (64-s)):=by
 obtain⟨h1,h2,h3,h4⟩:=hi;obtain⟨_,b⟩:=T9 (x:=Qm l k) f h3.1 h3.2;have hd:=Ji g k;have i:0<=Qm l k*p2 s%W:=eR _ tF;have q:=fw (Qm l k*p2 s) W;have hk:0<=Qm l k/p2 (64-s)/\Qm l k/p2 (64-s)<p2 s:=by
  refine⟨ir hd.1 (bh (YU _)),?_⟩;refine Int.ediv_lt_of_lt_mul (YU _) ?_;rw[bO,Gv f];exact hd.2
 refine⟨by simp[h1],h2.append (DG.cons O b (DG.nil _)),hk,?_⟩;rw[X9,h1,XS,aC,<-xG f];generalize Qm l k*p2 s/W=a at *
 generalize Qm l k*p2 s%W=c at *
 have e:W^k*(W*a+c)=W^k*(Qm l k*p2 s):=by rw[q]
 grind
def Md.zero{l:List Int}(hi:Md l 0 k ds h):h=0:=by
 have:=hi.2.2.1;rw[T8]at this;omega
def Ph(x:Int)(s:Nat):IntKind.u64.wrap (x*2^s)=x*p2 s%W:=by
 simp[ij,fR,bI,p2,HK]
def Gq(ds:List α)(x y:α)(r:List α)(k:Nat)(h:ds.length=k):(ds++x::r).set k y=ds++y::r:=by
 subst h;rw[fj _ _ (au _),bZ,fI]
def xL(ds:List α)(x y z:α)(r:List α)(k:Nat)(h:ds.length=k):(ds++z::x::r).set (k+1) y=(ds++[z])++y::r:=by
 have:=Gq (ds++[z]) x y r (k+1) (by simp[h]);rw[bw]at this;exact this
set_option maxRecDepth 100000 in
theorem Tt(s:Nat)(q:Option Addr)(cap:Nat)(l:List Int)(w:World)(E:s<64)(S:DG W l)(hc:Cells w q Jm l)(K:l.length<=100000000000):
  Calls prog 323 #[.slice q l.length cap,.int .i64 s] w λe w' =>
   Zl w (λv w'=>∃l':List Int,v = .slice (some ⟨w.heap.size,0,none⟩) (l.length+1) (l.length+1)/\Y7 w' w.heap.size 297 Jm l'/\l'.length=l.length+1/\DG W l'/\dv W l'=dv W l*p2 s) e w':=by
 have HC:=aa hc;clear hc;have A:=λw=>Ye (l.length+1) O w;have N:((l.length+1:Nat):Int)=(l.length:Int)+1:=O;simp only[N]at A;clear N;go_enter func323,ntmps323
 go_wp2
 go_loopw [14] (λi H=>∃(k:Nat) (ds:List Int) (h:Int),k<=l.length/\i = .int .i64 k/\Md l s k ds h/\Y7 H w.heap.size 297 Jm (ds++h::ah (l.length-k) 0)/\Ext w H)
  (λi _=>l.length-(intOf i).toNat)
 case atStart=>exact⟨0,[],0,bQ _,rfl,⟨rfl,DG.nil _,⟨bH _,YU _⟩,tJ⟩,Y7.made w _ Jm 0 _ _ rfl,(Ext.refl _).alloc _⟩
 case round =>
  obtain⟨k,ds,h,hk,rfl,G,o,D⟩:=hrel;clear A;by_cases B:k<l.length
  ·obtain⟨b,off,rfl,hb,hc⟩:=HC.out k B;rw[Z8 B]at hc;have hc:=D.cell hc;simp only[Jm]at hc;have u:=G.step E S;obtain⟨a,C,n,j⟩:=G;have y:=(T9 (x:=Qm l k) E n.1 n.2).1;have HO:=aa y;clear y j;have g:k<(ds++h::ah (l.length-k) 0).length:=by simp[a]
   have f:k+1<(ds++h::ah (l.length-k) 0).length:=by simp[a];omega
   have m:=o.cell g;have c:=o.cell f;have L:(ds++h::ah (l.length-k) 0).getD k default=h:=by subst a;simp[bD]
   rw[L]at m;simp only[Jm]at m c;have U:=o.frozen k;have M:=o.frozen (k+1);have Q:(0:Int)<=(k:Int):=O;have P:(k:Int)<(l.length:Int)+1:=O;generalize (ds++h::ah (l.length-k) 0).getD (k+1) default=z at c;have HD1:=aa a;have HB:=aa o;clear L a o g f;by_cases R:0<s
   ·go_wp2
    go_still_tail 9,tE
    go_wp2
    go_roundw
    case rel =>
     refine⟨k+1,ds++[h+Qm l k*p2 s%W],Qm l k/p2 (64-s),O,by go_num,u,?_,((D.X5 tJ _).X5 tJ _).drew⟩;rw[Ph,HO.out];have h1:=HB.out.set k (h+Qm l k*p2 s%W);rw[Gq _ _ _ _ _ HD1.out,show l.length-k=(l.length-(k+1))+1 from by omega,bj]at h1;have h2:=h1.set (k+1) (Qm l k/p2 (64-s));rw[xL _ _ _ _ _ _ HD1.out]at h2;exact h2.drew
    case measure=>simp[intOf];omega
   have hz:Hid (Qm l k/p2 (64-s)=0):=by
    have e:s=0:=O;subst e;exact u.zero
   go_wp2
   go_still_tail 9,tE
   go_wp2
   go_roundw
   case rel =>
    refine⟨k+1,ds++[h+Qm l k*p2 s%W],Qm l k/p2 (64-s),O,by go_num,u,?_,(D.X5 tJ _).drew⟩;rw[Ph,HO.out,hz.out];have h1:=HB.out.set k (h+Qm l k*p2 s%W);rw[Gq _ _ _ _ _ HD1.out,show l.length-k=(l.length-(k+1))+1 from by omega,bj]at h1;rw[bw];exact h1.drew
   case measure=>simp[intOf];omega
  have F:k=l.length:=O;subst F;obtain⟨a,C,n,j⟩:=G;have HF:Hid (dv W ds+W^l.length*h=dv W l*p2 s):=by rw[bC]at j;exact j
  have HD1:=aa a;rw[bZ,ey]at o;have HB:=aa o;have T:h<W:=by have:=cJ E;have:=YU s;omega
  clear a j o;go_wp2
  go_ret
  exact⟨_,rfl,⟨_,rfl,HB.out,by simp[HD1.out],C.append (DG.cons n.1 T (DG.nil _)),by rw[X9,HD1.out,HF.out]⟩,D⟩
theorem Mr(s:Nat)(v:Value)(l:List Int)(w:World)(c:s<64)(f:DG W l)(b:SL w v Jm l)(a:l.length<=100000000000):
  Calls prog 323 #[v,.int .i64 s] w λe w' =>
   Zl w (λv w'=>∃l':List Int,v = .slice (some ⟨w.heap.size,0,none⟩) (l.length+1) (l.length+1)/\Y7 w' w.heap.size 297 Jm l'/\l'.length=l.length+1/\DG W l'/\dv W l'=dv W l*p2 s) e w':=by
 obtain⟨q,cap,rfl,_,_,hc⟩:=b;exact Tt s q cap l w c f hc a
end Go.Proofs.YtjcphjpkimmmjaaGreatDoor
