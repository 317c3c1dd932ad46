/- Steps of the proof of the theorem in the last file. -/
import Derived.WalkKit
import Derived.WalkSpells
import Derived.WalkLawsBesides
import Derived.Lib.Hide
import Derived.Deep.RegionHeld3
import Derived.StillTail
import Derived.Deep.LoopGhost
import Derived.IntWalk
import Derived.Test.YtjcphjpkimmmjaaGreatDoorProg
import Derived.KernelRfl
import Derived.Deep.QuietTactic
import Derived.BigQuiet
import Derived.Laws.Externs
import Derived.Shelf.Strings.Builder1
import Derived.Shelf.Strings.Builder2
import Derived.Shelf.Small.Bits
import Derived.Shelf.Small.Wraps
import Derived.Shelf.Strconv.Atoi
import Derived.Shelf.Strconv.Itoa0
import Derived.Shelf.Strconv.Itoa1
import Derived.Shelf.LaysM
import Derived.Shelf.Strconv.Itoa2
import Derived.Shelf.Strconv.Itoa3
import Derived.Shelf.Strings.Search1
import Derived.Shelf.Strings.Search2
import Derived.Shelf.Strings.Cut
import Derived.Shelf.Strings.Prefix
import Derived.Shelf.Bits.Mul64
import Derived.Shelf.Strings.Repeat
import Derived.Ground.Names2Prog
import Derived.Shelf.Slices.Clone
import Derived.Shelf.Slices.SearchI
import Derived.Ground.SlgnProg
import Derived.Shelf.SlicesE.Clone
import Derived.Laws.BitsAllLaws
import Derived.StillTailTactics
set_option linter.all false
set_option maxHeartbeats 4000000
open Go.Lib renaming hid → aa,bitLen → aY,run_eql_slice_nil → ei,trimPrefix → ik,hasPrefix → iI,pow10Tab → iQ,cut → iR
open Array renaming getElem?_eq_none → ab,getElem?_setIfInBounds_ne → az,getElem?_modify → aH,replicate → bG,ext_getElem? → bM,ext' → bY,foldl_toList → eu,range → fb,ext → iX
open List renaming take_of_length_le → ae,replicate → ah,length_take → aj,length_append → aG,getElem?_eq_none → aI,length_cons → aN,getD → aZ,replicate_succ → bf,map_append → bj,append_assoc → bp,take_length → bA,Sublist → bJ,getElem?_drop → bN,drop_eq_getElem_cons → bO,map_cons → bR,nil_sublist → bT,sublist_cons_self → bZ,nil_append → eb,getElem?_append → ek,replicate_zero → ep,foldl_cons → eG,dropLast_concat_getLast → eH,range → eP,mapM_cons → eQ,drop_eq_nil_of_le → eX,take_append_drop → e8,set_append_right → e9,erase_cons_head → ff,mem_map_of_mem → fk,set_cons_zero → fw,nodup_append → fF,zipIdx_cons → fL,length_drop → fM,getElem_mem → fN,cons_append → fO,append_nil → fV,take_zero → fZ,drop_zero → hJ,range' → iM
open Int renaming mul_le_mul_of_nonneg_left → af,eq_ofNat_of_zero_le → ag,mul_le_mul_of_nonneg_right → aw,pow_succ → aB,mul_nonneg → aJ,natCast_pow → aT,natCast_mul → aU,le_of_lt → bc,le_refl → bD,mul_comm → bL,emod_eq_of_lt → bS,natCast_emod → bV,natCast_ediv → bW,toNat_natCast → eC,emod_nonneg → eK,ediv_nonneg → eL,tdiv_eq_ediv_of_nonneg → eT,add_mul_emod_self_left → eU,mul_ediv_add_emod → fg,pow_add → fl,mul_add → fm,emod_lt_of_pos → fG,lt_trichotomy → fP,mul_le_mul → ic,add_comm → iN,pow_pos → iU,one_mul → iV
open Option.some renaming injEq → ai,inj → ax
open Go.Sem renaming run_bind → ak,run_pure → aF
open Go.Region renaming wanted → ao,ready → ay,binds → aE,Mode → aW,waitsFor → bh,chainB → eR,sinkB → eW,waitsFor_spec → eY,seqB → ie
open Go.Result renaming andThen_ok → aq,ok → iP
open Go.Shelf renaming Ren → ar
open Nat renaming lt_or_ge → au,le_refl → av,mul_comm → aA,add_mul → aD,min_eq_left → aR,div_add_mod → aS,div_lt_iff_lt_mul → aV,mul_le_mul_right → aX,beq → ba,zero_add → bw,mod_eq_of_lt → bC,div_mul_le_self → bI,zero_le → bQ,sub_self → ea,mod_lt → ew,add_right_comm → ey,le_trans → eB,pow_add → eF,two_pow_pos → eJ,two_pow_add_eq_or_of_lt → eN,mul_lt_mul_of_pos_right → eO,add_zero → eZ,mul_div_mul_right → fc,le_of_ble_eq_true → fe,mul_le_mul_left → fu,mul_right_comm → fB,lt_of_lt_of_le → fC,eq_zero_or_pos → fD,lt_trichotomy → fK,strongRecOn → fY,testBit_or → ia,mul_le_mul → ib,mul_assoc → im,add_assoc → iq,sub_zero → iK,ble → iL,one_mul → iS,mul_add → iT
open Go.Builtin renaming zeroCells → aC,append_ → bU,lenOf → eM,firstCells → fa,len_ → fX
open Go.Value renaming int → aK
open Go.Oper renaming upon → aL,wp → bK,apart_spec → eI
open Go.Instr renaming sureAddr → aM,loadAt → bH,fill → bX,buildSlice → fI,makeSlice → fT,slice → iJ
open BitVec renaming ofInt → aO,toNat_ofInt → fj,toNat_and → fA
open Option renaming map_some → aP
open Go.RowKit.Below renaming setCell → aQ,heap_alloc → eD,heap_setCell → fp,cell → iO
open Go.IntWalk renaming i64_in → bm
open Go.Exit renaming inBlock → bt
open Go.Act renaming put_comm → bz,eval → fq,put → fU
open Bool renaming and_eq_true → bB,false_or → il
open Go.IntKind renaming bits → bF,signed → fH,wrap → fW
open Go.World renaming setCell → bP,cell? → ef,frozen? → eV
open Go.Extern.MathBitsCarry renaming m64 → ee,three → fy,pair → fz
open Go.Calls renaming mono → er
open Ne renaming symm → eE
open List.Sublist renaming refl → eS
open Go.Code renaming region → fh
open Go.Addr renaming add → fi
open Go.Ending renaming returned → fJ
open Go.Rows renaming mono → fQ
open Go.Proofs.Builder renaming Extra → fR
open Go.Op renaming intBits → fS,shift → iH
open Go.Proofs.LaysM renaming n284 → ig,n171 → ij
open Go.Proofs.Lays renaming n99 → ir,n285 → iu,n283 → iv,n264 → iw,n172 → ix,n169 → iy,n145 → iz,n134 → iA,n129 → iB,n125 → iC,n122 → iD,n105 → iE,n103 → iF,n101 → iG
open Go.Next renaming value → iW
theorem I{α:Sort _}{a:α}:a=a:=.refl a
theorem O{p:Prop}(h:p:=by omega):p:=h
theorem y0{p:Prop}(h:p:=by kernel_rfl):p:=h
theorem wa{p:Prop}(h:p:=by decide):p:=h
theorem wb{p:Prop}(h:p:=by decide +kernel):p:=h
theorem wc{p:Prop}(h:p:=by rfl):p:=h
theorem we{p:Prop}(h:p:=by simp):p:=h
theorem wg{p:Prop}(h:p:=by simp;omega):p:=h
theorem wh{α:Sort _}{G:α→Prop}(a:α)(_:G a):True:=trivial
theorem wi{α:Sort _}{G:α→Prop}(a:α)(h:G a):G a:=h
theorem wj{α:Sort _}{G H:α→Prop}(a:α)(h:G a∧H a):G a:=h.1
theorem wk{α:Sort _}{G H:α→Prop}(a:α)(h:G a∧H a):H a:=h.2
theorem wm{α:Type _}{l:List α}:bJ l l:=.refl l
theorem wu{α:Type _}{l:List α}:bJ [] l:=bT l
theorem wv{α:Type _}{a:α}{l:List α}:bJ [a] (a::l):=.cons_cons _ (bT _)
theorem wy{α:Type _}{a b:α}{l:List α}:bJ [a,b] (a::b::l):=.cons_cons _ (.cons_cons _ (bT _))
theorem wz{α:Type _}{a b c:α}{l:List α}:bJ [a,b,c] (a::b::c::l):=.cons_cons _ (.cons_cons _ (.cons_cons _ (bT _)))
theorem w6{α:Type _}{a b:α}(h:a=b:=by kernel_rfl):some a=some b:=congrArg some h
namespace Go.Proofs.YtjcphjpkimmmjaaGreatDoor
variable{w w' w0:World}{E N b bytes i id k n off:Nat}{a:Act}{c cs l l' news z:List Value}{o:Obj}{u v1 v3 v4 v5 x2 x3 x4 x5 x6 x7 x8:Value}{A0 A1 A2 A3 A4 A5 A6 A7 A8 A9 α γ ι:Type}{T T' t yT:TypeId}{ops:Array Oper}{Q Q':Exit->Act->World->Prop}{tl:List Oper}{K:Act->World->Prop}{g:Bool}{x y:Operand}{bs bs' bs0 ob:List (Nat×Obj)}{fr:Nat×Nat}{P:Program}{f:Obj->List (Nat×Obj)}{fn:Func}{aft:Array Edge}{gd:Option (Nat×Bool)}{x1:Nat×Obj}{ps:List (Nat×Value)}{k':IntKind}{s:ByteArray}{pl:List (Nat×Nat)}{ds:List Int}{h:Int}
open Go.RowKit
structure EB(α:Type) where
 val:α->Value
 ty:TypeId
instance{α:Type}:CoeFun (EB α) (λ_=>α->Value):=⟨EB.val⟩
def Jl:EB Int:=⟨λx=>.int .u64 x,297⟩
def QII:EB Int:=⟨λx=>.int .i64 x,3⟩
def Vl(w:World)(b:Nat)(E:TypeId):Prop:=∃c fr,w.heap[b]?=some (.cells c E fr)
theorem Vl.lt(h:Vl w b E):b<w.heap.size:=by
 obtain⟨c,fr,h⟩:=h
 rcases au b w.heap.size with g | g
 ·exact g
 ·rw[ab g]at h;cases h
theorem Vl.uniq{E':Nat}(h:Vl w b E)(h':Vl w b E'):E=E':=by
 obtain⟨c,fr,h⟩:=h;obtain⟨c',fr',h'⟩:=h'
 rw[h]at h';cases h';rfl
def Row{α:Type}[Inhabited α](w:World)(b off:Nat)(enc:EB α)(l:List α):Prop:=∀i,i<l.length->w.cell? ⟨b,off+i,none⟩=some (enc (l.getD i default))
abbrev Ext(w w':World):Prop:=Below w.heap.size w w'
theorem Ext.refl(w:World):Ext w w:=Below.refl _ _
theorem Ext.trans{a b c:World}(h:Ext a b)(k:Ext b c):Ext a c:=Below.trans h (Below.mono k h.size)
theorem Ext.QBA{a:World}(h:Ext a w)(h1:w'.os=w.os)(h2:w'.tape=w.tape)(h3:w'.output=w.output)(h4:w.heap.size<=w'.heap.size)(h5:∀i,i<a.heap.size->w'.heap[i]?=w.heap[i]?):Ext a w' :=
 ⟨h1.trans h.os,h2.trans h.tape,h3.trans h.output,eB h.size h4,λi hi=>(h5 i hi).trans (h.block i hi)⟩
theorem Ext.alloc{a:World}(h:Ext a w)(o:Obj):Ext a (w.alloc o):=Below.alloc h h.size o
theorem Ext.drew{a:World}(h:Ext a w):Ext a w.drew:=Below.drew h
theorem Ext.drewN{a:World}(h:Ext a w)(n:Nat):Ext a (w.drewN n):=⟨h.os,h.tape,h.output,h.size,h.block⟩
theorem Ext.cell(h:Ext w w'){p:Addr}{v:Value}(hv:w.cell? p=some v):w'.cell? p=some v:=by
 rw[iO h (World.block_lt_of_cell? w p hv)];exact hv
theorem Ext.ZD{a:World}(h:Ext a w){p:Addr}(hp:a.heap.size<=p.block)(u:Value):Ext a (w.setCell p u):=aQ h hp u
theorem Vl.ext(h:Vl w b E)(k:Below w.heap.size w w'):Vl w' b E:=by
 obtain⟨c,fr,e⟩:=id h
 exact⟨c,fr,by rw[k.block b h.lt];exact e⟩
theorem Ext.of_eq(h:w=w'):Ext w w':=h ▸ Ext.refl w
def Cells{α:Type}[Inhabited α](w:World)(q:Option Addr)(enc:EB α)(l:List α):Prop :=
 ∀i,i<l.length->∃b off,q=some ⟨b,off,none⟩/\Vl w b enc.ty/\w.cell? ⟨b,off+i,none⟩=some (enc (l.getD i default))
theorem X3{o b' o':Nat}{v:Value}(h:b≠b')(hc:w.cell? ⟨b,o,none⟩=some u):(w.setCell ⟨b',o',none⟩ v).cell? ⟨b,o,none⟩=some u:=by
 rw[World.cell?_setCell_other _ _ _ _ (λe=>h (congrArg Addr.block e).symm)];exact hc
theorem Ext.rules{W:World}(h:Ext W w):(∀b o,b<W.heap.size->w.cell? ⟨b,o,none⟩=W.cell? ⟨b,o,none⟩)/\(∀b o,b<W.heap.size->w.frozen? ⟨b,o,none⟩=W.frozen? ⟨b,o,none⟩)/\W.heap.size<=w.heap.size :=
 ⟨λb o hb=>iO h (p:=⟨b,o,none⟩) hb,λb o hb=>Below.frozen h (p:=⟨b,o,none⟩) hb,h.size⟩
def SL{α:Type}[Inhabited α](w:World)(v:Value)(enc:EB α)(l:List α):Prop :=
 ∃q cap,v = .slice q l.length cap/\l.length<=cap/\(cap:Int)<=9223372036854775807/\Cells w q enc l
theorem Cells.ext[Inhabited α]{w w':World}(h:Ext w w'){q:Option Addr}{enc:EB α}{l:List α}(hr:Cells w q enc l):Cells w' q enc l:=by
 intro i hi;obtain⟨b,off,h1,h2,h3⟩:=hr i hi
 exact⟨b,off,h1,h2.ext h,h.cell h3⟩
theorem SL.ext[Inhabited α]{w w':World}(h:Ext w w'){v:Value}{enc:EB α}{l:List α}(hs:SL w v enc l):SL w' v enc l:=by
 obtain⟨q,cap,h1,h2,h3,h4⟩:=hs
 exact⟨q,cap,h1,h2,h3,h4.ext h⟩
theorem SL.nil[Inhabited α](w:World)(enc:EB α):SL w (.slice none 0 0) enc ([]:List α) :=
 ⟨none,0,rfl,av _,wa,λi hi=>by cases hi⟩
theorem Cells.take[Inhabited α]{w:World}{q:Option Addr}{enc:EB α}{l:List α}(hr:Cells w q enc l)(n:Nat):Cells w q enc (l.take n):=by
 intro i hi
 have h1:i<l.length:=by rw[aj]at hi;omega
 have h2:i<n:=by rw[aj]at hi;omega
 have e:(l.take n).getD i default=l.getD i default:=by simp[aZ,h2]
 rw[e];exact hr i h1
theorem Row.cells[Inhabited α]{w:World}{b off:Nat}{enc:EB α}{l:List α}(hr:Row w b off enc l)(hb:Vl w b enc.ty):Cells w (some ⟨b,off,none⟩) enc l :=
 λi hi=>⟨b,off,rfl,hb,hr i hi⟩
theorem Row.take[Inhabited α]{w:World}{b off:Nat}{enc:EB α}{l:List α}(hr:Row w b off enc l)(n:Nat):Row w b off enc (l.take n):=by
 intro i hi
 have h1:i<l.length:=by rw[aj]at hi;omega
 have h2:i<n:=by rw[aj]at hi;omega
 have e:(l.take n).getD i default=l.getD i default:=by simp[aZ,h2]
 rw[e];exact hr i h1
theorem Row.drop[Inhabited α]{w:World}{b off:Nat}{enc:EB α}{l:List α}(hr:Row w b off enc l)(n:Nat):Row w b (off+n) enc (l.drop n):=by
 intro i hi
 have h1:n+i<l.length:=by rw[fM]at hi;omega
 have e:(l.drop n).getD i default=l.getD (n+i) default:=by simp[aZ,bN]
 rw[e,iq];exact hr _ h1
def KX{α:Type}(w:World)(b:Nat)(E:TypeId)(enc:EB α)(l:List α):Prop:=w.heap[b]?=some (.cells (l.map enc.val).toArray E (0,0))
theorem KX.cell[Inhabited α]{w:World}{b E:Nat}{enc:EB α}{l:List α}(h:KX w b E enc l){i:Nat}(hi:i<l.length):w.cell? ⟨b,i,none⟩=some (enc (l.getD i default)):=by
 have h':w.heap[b]?=some (.cells (l.map enc.val).toArray E (0,0)):=h
 simp[ef,h',hi,aZ]
theorem KX.frozen{enc:EB α}{l:List α}(h:KX w b E enc l)(i:Nat):w.frozen? ⟨b,i,none⟩=false:=by
 have h':w.heap[b]?=some (.cells (l.map enc.val).toArray E (0,0)):=h
 simp[eV,h']
theorem KX.lt{enc:EB α}{l:List α}(h:KX w b E enc l):b<w.heap.size:=by
 have h':w.heap[b]?=some (.cells (l.map enc.val).toArray E (0,0)):=h
 rcases au b w.heap.size with g | g
 ·exact g
 ·rw[ab g]at h';cases h'
theorem KX.set{enc:EB α}{l:List α}(h:KX w b E enc l)(i:Nat)(x:α):KX (w.setCell ⟨b,i,none⟩ (enc x)) b E enc (l.set i x):=by
 have h':w.heap[b]?=some (.cells (l.map enc.val).toArray E (0,0)):=h
 have hs:(l.set i x).map enc.val=(l.map enc.val).set i (enc x):=List.map_set
 unfold KX bP
 simp[aH,h',hs]
theorem KX.ext{enc:EB α}{l:List α}(h:KX w b E enc l)(k:Ext w w'):KX w' b E enc l:=by
 have:=k.block b h.lt
 unfold KX;rw[this];exact h
theorem KX.row[Inhabited α]{w:World}{b E:Nat}{enc:EB α}{l:List α}(h:KX w b E enc l):Row w b 0 enc l:=by
 intro i hi;rw[bw];exact h.cell hi
theorem KX.new(w:World)(E:Nat)(enc:EB α)(l:List α)(c:Array Value)(hc:c=(l.map enc.val).toArray):KX (w.alloc (.cells c E)) w.heap.size E enc l:=by
 subst hc;show(w.heap.push _)[w.heap.size]?=_;simp
theorem KX.QGS(w:World)(b E:Nat)(enc:EB α)(l:List α)(c:Array Value)(hc:c=(l.map enc.val).toArray)(hb:b=w.heap.size):KX (w.alloc (.cells c E)) b E enc l:=by
 subst hb;exact KX.new w E enc l c hc
theorem KX.drew{enc:EB α}{l:List α}(h:KX w b E enc l):KX w.drew b E enc l:=h
theorem KX.made(w:World)(E:Nat)(enc:EB α)(x:α)(n:Nat)(z:Value)(hz:z=enc x):KX (w.alloc (.cells (madeCells #[z] n) E)) w.heap.size E enc (ah n x):=by
 refine KX.new w E enc _ _ ?_
 subst hz
 apply iX
 ·simp[madeCells]
 ·intro i h1 h2;simp[madeCells,Nat.mod_one]
theorem KX.SF{enc:EB α}{l:List α}(h:KX w b E enc l):Vl w b E:=⟨_,_,h⟩
theorem SL.BS[Inhabited α]{w:World}{b:Nat}{enc:EB α}{l:List α}(h:KX w b enc.ty enc l)(n:Nat)(hn:n<=l.length)(hm:(l.length:Int)<=9223372036854775807):
  SL w (.slice (some ⟨b,0,none⟩) n l.length) enc (l.take n) :=
 ⟨_,l.length,by rw[aj,aR hn],by rw[aj];omega,hm,(h.row.cells h.SF).take n⟩
def Bx(w:World)(b:Nat)(T:TypeId)(cs:List Value):Prop:=w.heap[b]?=some (.cells cs.toArray T (0,0))
theorem Bx.new(w:World)(T:TypeId)(c:Array Value):Bx (w.alloc (.cells c T)) w.heap.size T c.toList:=by
 show(w.heap.push _)[w.heap.size]?=_;simp
theorem Bx.lt{T:Nat}(h:Bx w b T cs):b<w.heap.size:=by
 have h':w.heap[b]?=some (.cells cs.toArray T (0,0)):=h
 rcases au b w.heap.size with g | g
 ·exact g
 ·rw[ab g]at h';cases h'
theorem Bx.ext{T:Nat}(h:Bx w b T cs)(k:Ext w w'):Bx w' b T cs:=by
 unfold Bx;rw[k.block b h.lt];exact h
theorem Bx.alloc{T:Nat}(h:Bx w b T cs)(o:Obj):Bx (w.alloc o) b T cs:=h.ext ((Ext.refl w).alloc o)
theorem Bx.drew{T:Nat}(h:Bx w b T cs):Bx w.drew b T cs:=h
theorem Bx.at{T:Nat}(h:Bx w b T cs)(i:Nat)(c:Value)(hi:cs[i]?=some c):w.cell? ⟨b,i,none⟩=some c:=by
 have h':w.heap[b]?=some (.cells cs.toArray T (0,0)):=h
 simp[ef,h',hi]
theorem Bx.free{T:Nat}(h:Bx w b T cs)(i:Nat):w.frozen? ⟨b,i,none⟩=false:=by
 have h':w.heap[b]?=some (.cells cs.toArray T (0,0)):=h
 simp[eV,h']
theorem Bx.two{T:Nat}{c0 c1:Value}(h:Bx w b T [c0,c1]):w.cell? ⟨b,0,none⟩=some c0/\w.cell? ⟨b,1,none⟩=some c1/\w.frozen? ⟨b,0,none⟩=false/\w.frozen? ⟨b,1,none⟩=false :=
 ⟨h.at 0 c0 rfl,h.at 1 c1 rfl,h.free 0,h.free 1⟩
theorem Bx.set{T:Nat}(h:Bx w b T cs)(i:Nat)(c:Value):Bx (w.setCell ⟨b,i,none⟩ c) b T (cs.set i c):=by
 have h':w.heap[b]?=some (.cells cs.toArray T (0,0)):=h
 unfold Bx bP;simp[aH,h']
theorem Bx.SF{T:Nat}(h:Bx w b T cs):Vl w b T:=⟨_,_,h⟩
def DT(E:TypeId):Prop:=E=297\/E=3
instance(E:TypeId):Decidable (DT E):=by unfold DT;infer_instance
structure Kp(w w':World):Prop where
 size:w.heap.size<=w'.heap.size
 block:∀b E,Vl w b E->DT E->w'.heap[b]?=w.heap[b]?
theorem Kp.refl(w:World):Kp w w:=⟨av _,λ_ _ _ _=>rfl⟩
theorem Kp.trans{a b c:World}(h:Kp a b)(k:Kp b c):Kp a c :=
 ⟨eB h.size k.size,λi E hi hE=>by
  have e:=h.block i E hi hE
  have hi':Vl b i E:=by obtain⟨x,fr,hx⟩:=hi;exact⟨x,fr,by rw[e];exact hx⟩
  exact(k.block i E hi' hE).trans e⟩
theorem Kp.set{a:World}(h:Kp a w){R T:Nat}(hT:Vl w R T)(hD:¬DT T)(i:Nat)(v:Value):Kp a (w.setCell ⟨R,i,none⟩ v) :=
 h.trans ⟨by simp[bP],λb E hb hE=>fp _ _ _ _ (by rintro rfl;exact hD ((hb.uniq hT) ▸ hE))⟩
theorem Vl.set{T:Nat}(h:Vl w b T)(R i:Nat)(v:Value):Vl (w.setCell ⟨R,i,none⟩ v) b T:=by
 obtain⟨c,fr,h⟩:=h
 by_cases e:b=R
 ·subst e;exact⟨_,_,by unfold bP;simp[aH,h];exact⟨rfl,rfl⟩⟩
 ·exact⟨c,fr,by rw[fp _ _ _ _ e];exact h⟩
theorem Vl.kp(h:Vl w b E)(k:Kp w w')(hE:DT E):Vl w' b E:=by
 obtain⟨c,fr,e⟩:=id h
 exact⟨c,fr,by rw[k.block b E h hE];exact e⟩
theorem Cells.kp[Inhabited α]{w w':World}(k:Kp w w'){q:Option Addr}{enc:EB α}(hE:DT enc.ty){l:List α}(hr:Cells w q enc l):Cells w' q enc l:=by
 intro i hi;obtain⟨b,off,h1,h2,h3⟩:=hr i hi
 exact⟨b,off,h1,h2.kp k hE,by rw[World.cell?_of_block (w:=w) (k.block b _ h2 hE)];exact h3⟩
open Go
section
variable{P:Program}{md:aW}
def Vc(md:aW)(ops:Array Oper)(n:Nat):Bool :=
 (eP n).all λi=>match ops[i]? with
  |some o=>o.after.all λe=>!Region.binds md e||decide (e.on<i)
  |none=>false
theorem ZL(h:Vc md ops n=true){i:Nat}(hi:i<n):∃o,ops[i]?=some o/\∀e∈o.after,aE md e=true->e.on<i:=by
 have h1:=List.all_eq_true.1 h i (List.mem_range.2 hi)
 cases ho:ops[i]? with
 |none=>rw[ho]at h1;cases h1
 |some o =>
  rw[ho]at h1
  refine⟨o,rfl,λe he hb=>?_⟩
  have h2:=Array.all_eq_true_iff_forall_mem.1 h1 e he
  simpa[hb]using h2
def Yp(n m:Nat):Array Bool:=(fb m).map λi=>decide (i<n)
theorem Nb{m:Nat}{listed:Array Bool}(hs:listed.size=m)(h1:∀i,i<n->i<m->listed.getD i false=true)(h2:∀i,n<=i->i<m->listed.getD i false=false):listed=Yp n m:=by
 apply iX
 ·simp[Yp,hs]
 ·intro i hi hj
  have him:i<m:=O
  by_cases h:i<n
  ·have:=h1 i h him
   simp[hi]at this
   simp[Yp,h,this]
  ·have:=h2 i O him
   simp[hi]at this
   simp[Yp,h,this]
def Fe(P:Program)(ops:Array Oper)(Q:Exit->Act->World->Prop)(tl:List Oper):Exit->Act->World->Prop
 |.normal,a,w=>wpList P ops Q tl a w
 |e,a,w=>Q e a w
theorem FO{o:Oper}{K':Act->World->Prop}(h:∀a w,K a w->K' a w)
  (hh:o.wp P a w K (Fe P ops Q tl)):o.wp P a w K' Q:=by
 unfold bK at *
 generalize (execOp a.eval o).run P w=r at *
 cases r with
 |ok n w' =>
  cases n<;>simp only[aL]at hh ⊢ <;>
   first
    |exact h _ _ hh
    |exact er hh (λe w'' he=>by cases e<;>first | exact h _ _ he | exact he)
    |exact fQ hh (λ_ _ he=>h _ _ he)
 |halt x w'=>cases x<;>simp only[aL]at hh ⊢<;>exact hh
theorem BZ{l:List Oper}(hi:i<n):(l.take n).toArray[i]?=l.toArray[i]?:=by
 simp[hi]
theorem G5{l:List Oper}{lh la:Array Bool}(hn:n<l.length)(hs:eW md l.toArray n=true)(hc:eR md l.toArray n=true)(ho:Vc md l.toArray n=true)
  (inv:HeadInv md l.toArray n la) (hsz:lh.size=n) (hrel:∀i,i<n->la.getD i true=lh.getD i true) {k:Nat} (hk:k<n) (hun:lh.getD k true=false) :
  (∀i,i∈ay md l.toArray la↔i∈ay md (l.take n).toArray lh)/\ay md (l.take n).toArray lh≠[]:=by
 have hrel2:∀i,i<n->la.getD i false=lh.getD i false:=by
  intro i hi
  have h:=hrel i hi
  have h1:i<la.size:=by rw[inv.size];simp;omega
  have h2:i<lh.size:=O
  simp[h1,h2]at h ⊢;exact h
 have hhead:∀i,i<n->(i∈ay md l.toArray la↔i∈ay md (l.take n).toArray lh):=by
  intro i hi
  rw[mem_ready,mem_ready,hrel i hi,BZ hi]
  refine and_congr_right λ_=>exists_congr λo=>and_congr_right λhoi=>?_
  obtain⟨o',ho',hed⟩:=ZL ho hi
  have:o'=o:=ax (ho'.symm.trans hoi)
  subst this
  refine forall_congr' λe=>forall_congr' λhe=>forall_congr' λhb=>?_
  rw[hrel2 e.on (by have:=hed e he hb;omega)]
 have hex:∃i,i<n/\lh.getD i true=false/\∀j,j<i->lh.getD j true=true:=by
  clear hhead hrel hrel2
  induction k using fY with
  |_ k ih =>
   by_cases h:∃j,j<k/\lh.getD j true=false
   ·obtain⟨j,hj,hj2⟩:=h;exact ih j hj O hj2
   ·exact⟨k,hk,hun,λj hj=>by
     cases hv:lh.getD j true with
     |true=>rfl
     |false=>exact absurd ⟨j,hj,hv⟩ h⟩
 refine⟨λi=>?_,?_⟩
 ·by_cases hi:i<n
  ·exact hhead i hi
  ·constructor
   ·intro h
    exact absurd h (tail_waits hs hc (by simpa using hn) inv _ k rfl hk (by rw[hrel k hk];exact hun) i O)
   ·intro h
    obtain⟨_,o,ho',_⟩:=mem_ready.1 h
    have:=(Array.getElem?_eq_some_iff.1 ho').1
    simp at this;omega
 ·obtain⟨i,hi,h1,h2⟩:=hex
  intro hnil
  have:i∈ay md (l.take n).toArray lh:=by
   rw[mem_ready]
   obtain⟨o',ho',hed⟩:=ZL ho hi
   refine⟨h1,o',by rw[BZ hi];exact ho',λe he hb=>?_⟩
   have h3:=h2 e.on (hed e he hb)
   have h4:e.on<lh.size:=by have:=hed e he hb;omega
   simp[h4]at h3 ⊢;exact h3
  rw[hnil]at this;cases this
theorem RM:∀(f:Nat) (listed:Array Bool) (a:Act) (w:World),wpAny P md ops Q f listed a w->wpAny P md ops Q (f+1) listed a w
 |0,listed,a,w,h=>⟨λ_=>h.2,λi hi=>(by rw[h.1]at hi;cases hi)⟩
 |f+1,listed,a,w,h=>⟨h.1,λi hi=>wpOp_mono (λa' w' h'=>RM f _ a' w' h') (h.2 i hi)⟩
theorem FT(f:Nat)(listed:Array Bool)(a:Act)(w:World)(g:Nat)(h:wpAny P md ops Q g listed a w):wpAny P md ops Q (f+g) listed a w:=by
 induction f with
 |zero=>rw[bw];exact h
 |succ f ih=>rw[show f+1+g=(f+g)+1 by omega];exact RM _ _ _ _ ih
theorem TM(h:LetsOut (Fe P ops Q tl)):LetsOut Q:=by
 obtain⟨a,w,h⟩:=h;exact⟨a,w,h⟩
def Et(ops:Array Oper)(n:Nat):Bool :=
 (eP n).all λi=>match ops[i]? with
  |some o=>(match o.guard with | none=>true | some (g,_)=>decide (g<n))
  |none=>false
theorem EG{l:List Oper}{g:Nat}(hg:g<n)(t:Array Value):yielded (l.take n).toArray t g=yielded l.toArray t g:=by
 unfold yielded;rw[BZ hg]
theorem qy{l:List Oper}(hi:i<n)(hgd:Et l.toArray n=true)
  (h:wpOp P (l.take n).toArray (Fe P l.toArray Q tl) i K a w):wpOp P l.toArray Q i K a w:=by
 unfold wpOp at *
 rw[BZ hi]at h
 cases ho:l.toArray[i]? with
 |none=>simp only[ho]at h ⊢;exact h
 |some o =>
  simp only[ho]at h ⊢
  have hw:ao o (yielded (l.take n).toArray a.tmps)=ao o (yielded l.toArray a.tmps):=by
   have h1:=List.all_eq_true.1 hgd i (List.mem_range.2 hi)
   rw[ho]at h1
   unfold ao
   cases hg:o.guard with
   |none=>rfl
   |some gw =>
    obtain⟨g,want⟩:=gw
    simp only[hg]at h1
    simp only[EG (l:=l) (by simpa using h1)]
  rw[hw]at h
  split
  ·rename_i hw2
   rw[if_pos hw2]at h
   rcases h with h | ⟨h1,h2⟩
   ·exact .inl (FO (λ_ _ h=>h) h)
   ·exact .inr ⟨h1,TM h2⟩
  ·rename_i hw2
   rw[if_neg hw2]at h;exact h
theorem FR{l:List Oper}(hn:n<l.length)(hs:eW md l.toArray n=true)(hc:eR md l.toArray n=true)(ho:Vc md l.toArray n=true)
  (hgd:Et l.toArray n=true) (hseq:ie md l.toArray (l.length - n) n (Yp n l.length)=true) :
  ∀(f:Nat) (lh la:Array Bool) (a:Act) (w:World),HeadInv md l.toArray n la->lh.size=n->(∀i,i<n->la.getD i true=lh.getD i true) ->
   wpAny P md (l.take n).toArray (Fe P l.toArray Q (l.drop n)) f lh a w->wpAny P md l.toArray Q (f+(l.length - n)) la a w:=by
 have fin:∀(f:Nat) (lh la:Array Bool) (a:Act) (w:World),HeadInv md l.toArray n la->lh.size=n->(∀i,i<n->la.getD i true=lh.getD i true) ->
   ay md (l.take n).toArray lh=[]->wpList P l.toArray Q (l.drop n) a w->wpAny P md l.toArray Q (f+(l.length - n)) la a w:=by
  intro f lh la a w inv hsz hrel hr h
  have hall:∀i,i<n->lh.getD i true=true:=by
   intro i hi
   cases hv:lh.getD i true with
   |true=>rfl
   |false=>exact absurd hr (G5 hn hs hc ho inv hsz hrel hi hv).2
  have hla:la=Yp n l.length:=by
   refine Nb (by simpa using inv.size) (λi hi hi2=>?_) (λi hi hi2=>?_)
   ·have h1:=(hrel i hi).trans (hall i hi)
    have h2:i<la.size:=by rw[inv.size];simpa using hi2
    simp[h2]at h1 ⊢;exact h1
   ·exact getD_both (inv.tail i hi (by simpa using hi2))
  subst hla
  refine FT f _ _ _ _ ?_
  have:=wpAny_of_seq (P:=P) (Q':=Q) (l.drop n) n (Yp n l.length) a w (λj=>by simp[bN]) (by simpa using hseq) h
  simpa using this
 intro f
 induction f with
 |zero=>intro lh la a w inv hsz hrel h;exact fin 0 lh la a w inv hsz hrel h.1 h.2
 |succ f ih =>
  intro lh la a w inv hsz hrel h
  by_cases hr:ay md (l.take n).toArray lh=[]
  ·exact fin (f+1) lh la a w inv hsz hrel hr (h.1 hr)
  ·obtain⟨k,hk⟩:=List.exists_mem_of_ne_nil _ hr
   have hk2:=(mem_ready.1 hk)
   have hkn:k<n:=by
    obtain⟨_,o,ho',_⟩:=hk2
    have:=(Array.getElem?_eq_some_iff.1 ho').1
    simp at this;omega
   have hiff:=(G5 hn hs hc ho inv hsz hrel hkn hk2.1).1
   rw[show f+1+(l.length - n)=(f+(l.length - n))+1 by omega]
   refine⟨λh0=>absurd ((hiff k).2 hk) (by rw[h0];simp),λi hi=>?_⟩
   have hi':=(hiff i).1 hi
   have hin:i<n:=by
    obtain⟨_,o,ho',_⟩:=mem_ready.1 hi'
    have:=(Array.getElem?_eq_some_iff.1 ho').1
    simp at this;omega
   have h2:=qy hin hgd (h.2 i hi')
   refine wpOp_mono (λa' w' h3=>ih _ _ a' w' (inv.set hi hin) (by simpa using hsz) (λj hj=>?_) h3) h2
   by_cases hij:i=j
   ·subst hij
    have h1:i<la.size:=by rw[inv.size];simp;omega
    have h2:i<lh.size:=O
    simp[h1,h2]
   ·rw[getD_set_ne true hij,getD_set_ne true hij];exact hrel j hj
def Dl(l:List Oper)(n:Nat):Bool :=
 decide (n<l.length)&&eW .any l.toArray n&&eR .any l.toArray n&&Vc .any l.toArray n&&Et l.toArray n&&ie .any l.toArray (l.length - n) n (Yp n l.length)
theorem N4{l:List Oper}(n:Nat)(hm:P.follows .mixedOrders=true)(hB:Dl l n=true)
  (h:wpAny P .any (l.take n).toArray (Fe P l.toArray Q (l.drop n)) n (bG n false) a { w with drawn:=w.drawn+1 }):(fh id l.toArray true).wp P Q a w:=by
 simp only[Dl,bB,decide_eq_true_eq]at hB
 obtain⟨⟨⟨⟨⟨hn,hs⟩,hc⟩,ho⟩,hg⟩,hseq⟩:=hB
 refine wp_region_any hm ?_
 have k7:HeadInv .any l.toArray n (bG l.toArray.size false) :=
  ⟨we,λj oj _ hl=>(by rw[getD_replicate_false]at hl;cases hl),λt _ ht=>getD_in (by simpa using ht) (getD_replicate_false _ _)⟩
 have:=FR (P:=P) (md:=.any) (Q:=Q) hn hs hc ho hg hseq n (bG n false) (bG l.toArray.size false) a { w with drawn:=w.drawn+1 } k7 we
  (λi hi=>by
   have h1:i<l.length:=O
   simp[hi,h1]) h
 rw[show n+(l.length - n)=l.toArray.size by simp;omega]at this
 exact this
def J0:Op->Bool
 |.move _ | .assign _ | .pick .. | .nilCheck _ | .binOp .. | .unOp .. | .convert .. | .fieldAddr .. | .field .. | .indexAddr .. | .index .. | .extract .. | .slice .. | .build .. | .load .. | .makeFunc .. | .lookup ..=>true
 |.call { callee:=.builtin b,.. }=>match b with | .len | .cap | .min | .max=>true | _=>false
 |_=>false
section
variable{ops:Array Oper}{Q:Exit->Act->World->Prop}{S:World->Prop}
def TL(P:Program)(ops:Array Oper)(Q:Exit->Act->World->Prop)(S:World->Prop):List Nat->Act->World->Prop
  | [],a,w=>Q .normal a w
  | i::r,a,w=>∃o,ops[i]?=some o /\
      ((J0 o.op=true/\∃v,YieldsIf P ops S o v a/\TL P ops Q S r (a.put o.dst v) w) \/
       (J0 o.op=false/\wpOp P ops (λ_ _ _=>False) i (λa' w'=>S w'/\TL P ops Q S r a' w') a w))
theorem dW{o:Oper}(hi:ops[i]?=some o)(h:wpOp P ops (λ_ _ _=>False) i K a w):
  ∃u w' d,K ({ a with defers:=d }.put o.dst u) w':=by
 unfold wpOp at h
 simp only[hi]at h
 split at h
 ·rcases h with h | ⟨_,_,_,h⟩
  ·unfold bK at h
   generalize (execOp a.eval o).run P w=r at *
   cases r with
   |ok n w' =>
    cases n<;>simp only[aL]at h
    case value u=>exact⟨u,w',a.defers,h⟩
    case skip=>exact⟨undef,w',a.defers,h⟩
    case defer d=>exact⟨undef,w',d::a.defers,h⟩
    case enter f args =>
     obtain⟨e,w'',fr,hR,_⟩:=h []
     cases e with
     |returned u=>exact⟨u,w'',a.defers,hR⟩
     |panicked c=>exact hR.elim
     |outgrown=>obtain⟨_,_,h⟩:=hR;exact h.elim
    case row row args =>
     obtain⟨u,w'',hR,_⟩:=h default []
     exact⟨u,w'',a.defers,hR⟩
    all_goals exact h.elim
   |halt x w'=>cases x<;>simp only[aL]at h<;>exact h.elim
  ·exact h.elim
 ·exact⟨undef,w,a.defers,h⟩
theorem FP{j:Nat}{oi oj:Oper}{v:Value}(hj:ops[j]?=some oj)(hap:oi.apart ops oj=true)(hsj:∀cs b,oj.op≠.select cs b)
  {K:Act->World->Prop} {a:Act} {w:World} (h:wpOp P ops (λ_ _ _=>False) j (λa' w'=>K (a'.put oi.dst v) w') a w) :
  wpOp P ops (λ_ _ _=>False) j K (a.put oi.dst v) w:=by
 obtain⟨h1,h2,h3⟩:=eI hap
 unfold wpOp at *
 simp only[hj]at *
 rw[wanted_put oj a oi.dst v h1]
 split
 ·rename_i hw
  simp only[hw,if_true]at h
  rcases h with h | ⟨hasks,hlets⟩
  case inr=>exact .inr ⟨by unfold Oper.asks at *;rw[execOp_put oj hsj a oi.dst v h1];exact hasks,hlets⟩
  refine .inl ?_
  unfold bK at *
  rw[execOp_put oj hsj a oi.dst v h1]
  generalize (execOp a.eval oj).run P w=r at *
  cases r with
  |ok n w' =>
   cases n<;>simp only[aL]at h ⊢
   case value u=>rw[bz a v u h2];exact h
   case skip=>rw[bz a v undef h2];exact h
   case defer d=>rw[Act.put_defers,bz _ v undef h2];exact h
   case enter f args =>
    refine er h λe w'' he=>?_
    cases e with
    |returned u=>show K _ _;rw[bz a v u h2];exact he
    |panicked c=>exact he
    |outgrown=>exact he
   case row row args=>exact fQ h λu w'' he=>(by rw[bz a v u h2];exact he)
  |halt x w'=>cases x<;>simp only[aL]at h ⊢
 ·rename_i hw
  simp only[hw]at h
  rw[bz a v undef h2];exact h
theorem YieldsIf.uniq{o:Oper}{v v':Value}(hS:S w)(h:YieldsIf P ops S o v a)(h':YieldsIf P ops S o v' a):v=v':=by
 rcases h with ⟨h1,h2⟩ | ⟨h1,h2⟩<;>rcases h' with ⟨g1,g2⟩ | ⟨g1,g2⟩
 ·have:=(h2 w hS).symm.trans (g2 w hS)
  simpa using this
 ·rw[h1]at g1;cases g1
 ·rw[h1]at g1;cases g1
 ·rw[h2,g2]
theorem Sn{x y:Oper}(h:x.apart ops y=true):y.apart ops x=true:=by
 obtain⟨h1,h2,h3⟩:=eI h
 unfold Oper.apart
 cases hx:x.dst with
 |none=>cases hy:y.dst with
  |none=>rfl
  |some e=>simpa using h3 e hy
 |some d =>
  have g1:=h1 d hx
  have g2:=h2 d hx
  cases hy:y.dst with
  |none=>simpa using g1
  |some e =>
   have g3:=h3 e hy
   rw[hy]at g2
   simp only[ne_eq,ai]at g2
   simp[g3,g1]
   exact λh=>g2 h.symm
theorem Dy{j:Nat}{oj:Oper}{post:List Nat}(hoj:ops[j]?=some oj)(hq:J0 oj.op=true)(hsel:∀(j:Nat) (o:Oper) cs b,ops[j]?=some o->o.op≠.select cs b):
  ∀(pre:List Nat) (a:Act) (w:World),(∀k∈pre,∀ok,ops[k]?=some ok->oj.apart ops ok=true)->TL P ops Q S (pre++j::post) a w ->
   ∃v,YieldsIf P ops S oj v a/\TL P ops Q S (pre++post) (a.put oj.dst v) w
 |[],a,w,_,h=>by
  obtain⟨o,ho,h⟩:=h
  have:o=oj:=ax (ho.symm.trans hoj)
  subst this
  rcases h with ⟨_,v,h1,h2⟩ | ⟨h1,_⟩
  ·exact⟨v,h1,h2⟩
  ·rw[hq]at h1;cases h1
 |k::pre,a,w,hap,h=>by
  obtain⟨ok,hok,h⟩:=h
  have hk:=hap k we ok hok
  obtain⟨p1,p2,p3⟩:=eI hk
  rcases h with ⟨hqk,vk,hyk,h⟩ | ⟨hqk,h⟩
  ·obtain⟨v,hy,h⟩:=Dy hoj hq hsel pre _ w (λi hi=>hap i (by simp[hi])) h
   have hy':YieldsIf P ops S oj v a:=by
    refine hy.of_same ?_ ?_
    ·exact(execOp_put oj (λcs b=>hsel j oj cs b hoj) a ok.dst vk p3).symm
    ·exact(wanted_put oj a ok.dst vk p3).symm
   refine⟨v,hy',ok,hok,.inl ⟨hqk,vk,?_,?_⟩⟩
   ·refine hyk.of_same ?_ ?_
    ·exact execOp_put ok (λcs b=>hsel k ok cs b hok) a oj.dst v p1
    ·exact wanted_put ok a oj.dst v p1
   ·rw[bz a v vk p2];exact h
  ·have h2:=wpOp_mono (λa' w' (h:S w'/\TL P ops Q S (pre++j::post) a' w')=>(⟨h.1,Dy hoj hq hsel pre a' w' (λi hi=>hap i (by simp[hi])) h.2⟩ :
    S w'/\∃v,YieldsIf P ops S oj v a'/\TL P ops Q S (pre++post) (a'.put oj.dst v) w')) h
   obtain⟨u,w1,d,hS1,v0,hy0,_⟩:=dW hok h2
   have back:∀(d:List Deferred) (u v:Value),YieldsIf P ops S oj v ({ a with defers:=d }.put ok.dst u)->YieldsIf P ops S oj v a:=λd u v hy=>by
    refine hy.of_same ?_ ?_
    ·rw[execOp_put oj (λcs b=>hsel j oj cs b hoj) _ ok.dst u p3];rfl
    ·rw[wanted_put oj _ ok.dst u p3]
   have hya:=back d u v0 hy0
   refine⟨v0,hya,ok,hok,.inr ⟨hqk,?_⟩⟩
   refine FP hok hk (λcs b=>hsel k ok cs b hok) ?_
   have h3:wpOp P ops (λ_ _ _=>False) k (λa' w'=>(YieldsIf P ops S oj v0 a')/\(S w'/\∃v,YieldsIf P ops S oj v a'/\TL P ops Q S (pre++post) (a'.put oj.dst v) w')) a w:=by
    have keep:∀(u:Value),YieldsIf P ops S oj v0 (a.put ok.dst u):=λu=>by
     refine hya.of_same ?_ ?_
     ·exact execOp_put oj (λcs b=>hsel j oj cs b hoj) a ok.dst u p3
     ·exact wanted_put oj a ok.dst u p3
    have keepd:∀(d:Deferred) (u:Value),YieldsIf P ops S oj v0 ({ a with defers:=d::a.defers }.put ok.dst u):=λd u=>by
     refine hya.of_same ?_ ?_
     ·rw[execOp_put oj (λcs b=>hsel j oj cs b hoj) _ ok.dst u p3];rfl
     ·rw[wanted_put oj _ ok.dst u p3]
    clear h
    unfold wpOp at h2 ⊢
    simp only[hok]at h2 ⊢
    split
    ·rename_i hw
     simp only[hw,if_true]at h2
     rcases h2 with h2 | h2
     case inr=>exact .inr h2
     refine .inl ?_
     unfold bK at *
     generalize (execOp a.eval ok).run P w=r at *
     cases r with
     |ok n w' =>
      cases n<;>simp only[aL]at h2 ⊢
      case value u=>exact⟨keep u,h2⟩
      case skip=>exact⟨keep _,h2⟩
      case defer d=>exact⟨keepd d _,h2⟩
      case enter f args =>
       refine er h2 λe w'' he=>?_
       cases e with
       |returned u=>exact⟨keep u,he⟩
       |panicked c=>exact he
       |outgrown=>exact he
      case row row args=>exact fQ h2 λu w'' he=>⟨keep u,he⟩
     |halt x w'=>cases x<;>simp only[aL]at h2 ⊢
    ·rename_i hw
     simp only[hw]at h2
     exact⟨keep _,h2⟩
   refine wpOp_mono (λa' w' h=>?_) h3
   obtain⟨hy,hS,v,hy2,hl⟩:=h
   have:v=v0:=YieldsIf.uniq hS hy2 hy
   subst this
   exact⟨hS,hl⟩
end
section
variable{ops:Array Oper}{Q:Exit->Act->World->Prop}{S:World->Prop}
theorem FQ(h:wpOp P ops (λ_ _ _=>False) i K a w):wpOp P ops Q i K a w:=by
 unfold wpOp at *
 cases ho:ops[i]? with
 |none=>simp only[ho]at h ⊢;exact h
 |some o =>
  simp only[ho]at h ⊢
  split
  ·rename_i hw
   rw[if_pos hw]at h
   rcases h with h | ⟨_,_,_,h⟩
   ·refine .inl ?_
    unfold bK at *
    generalize (execOp a.eval o).run P w=r at *
    cases r with
    |ok n w' =>
     cases n<;>simp only[aL]at h ⊢
     all_goals first
      |exact h
      |exact er h λe w'' he=>by
        cases e with
        |returned u=>exact he
        |panicked c=>exact he.elim
        |outgrown=>obtain⟨_,_,h⟩:=he;exact h.elim
    |halt x w'=>cases x<;>simp only[aL]at h ⊢
   ·exact h.elim
  ·rename_i hw
   rw[if_neg hw]at h;exact h
def Dv(md:aW)(acc:List Nat)(o:Oper):Nat:=o.after.foldl (λs e=>if aE md e then s ||| 2^e.on ||| acc.getD e.on 0 else s) 0
def SA(md:aW)(ops:List Oper):List Nat:=ops.foldl (λacc o=>acc++[Dv md acc o]) []
theorem SM{md:aW}{acc:List Nat}:∀(l:List Edge) (s:Nat),(l.foldl (λs e=>if aE md e then s ||| 2^e.on ||| acc.getD e.on 0 else s) s).testBit i=true ->
  s.testBit i=true\/∃e∈l,aE md e=true/\(i=e.on\/(acc.getD e.on 0).testBit i=true)
 |[],s,h=>.inl h
 |e::l,s,h=>by
  rw[eG]at h
  rcases SM l _ h with h | ⟨e',he',h⟩
  ·split at h
   ·rename_i hb
    rw[ia,ia,Nat.testBit_two_pow]at h
    simp only[Bool.or_eq_true,decide_eq_true_eq]at h
    rcases h with (h | h) | h
    ·exact .inl h
    ·exact .inr ⟨e,we,hb,.inl h.symm⟩
    ·exact .inr ⟨e,we,hb,.inr h⟩
   ·exact .inl h
  ·exact .inr ⟨e',by simp[he'],h⟩
theorem Ie{md:aW}{acc:List Nat}{o:Oper}(h:(Dv md acc o).testBit i=true):∃e∈o.after,aE md e=true/\(i=e.on\/(acc.getD e.on 0).testBit i=true):=by
 unfold Dv at h
 rw[<-eu]at h
 rcases SM _ _ h with h | ⟨e,he,h⟩
 ·simp at h
 ·exact⟨e,by simpa using he,h⟩
theorem UA(md:aW):∀(l:List Oper) (acc:List Nat),∃r,l.foldl (λacc o=>acc++[Dv md acc o]) acc=acc++r/\r.length=l.length /\
  ∀k o,l[k]?=some o->r[k]?=some (Dv md (acc++r.take k) o)
 |[],acc=>⟨[],we,rfl,λk o h=>by simp at h⟩
 |o::l,acc=>by
  obtain⟨r,h1,h2,h3⟩:=UA md l (acc++[Dv md acc o])
  refine⟨Dv md acc o::r,by simp[h1],by simp[h2],λk o' h=>?_⟩
  cases k with
  |zero=>simp at h;subst h;simp
  |succ k =>
   simp at h
   have:=h3 k o' h
   simpa using this
theorem Ot{md:aW}{l:List Oper}{o:Oper}(ho:l[k]?=some o)(hord:∀e∈o.after,aE md e=true->e.on<k)(h:((SA md l).getD k 0).testBit i=true):
  ∃e∈o.after,aE md e=true/\(i=e.on\/((SA md l).getD e.on 0).testBit i=true):=by
 obtain⟨r,h1,h2,h3⟩:=UA md l []
 have e1:SA md l=r:=by unfold SA;rw[h1];simp
 rw[e1]at h ⊢
 have h4:=h3 k o ho
 rw[aZ,h4]at h
 obtain⟨e,he,hb,hi⟩:=Ie h
 refine⟨e,he,hb,hi.imp id λhi=>?_⟩
 have hlt:=hord e he hb
 have hk:k<r.length:=by rcases au k r.length with g | g;exact g;rw[aI g]at h4;cases h4
 have e2:([]++r.take k).getD e.on 0=r.getD e.on 0:=by simp[aZ,hlt]
 rw[e2]at hi;exact hi
def lexB(md:aW)(l:List Oper):Bool :=
 let ms:=SA md l
 Region.noSelect l.toArray&&Vc md l.toArray l.length&&(eP l.length).all λj=>match l[j]? with
  |none=>false
  |some oj=>(eP j).all λi=>match l[i]? with
   |none=>false
   |some oi=>if J0 oi.op||J0 oj.op then(bh md l.toArray j i||oi.apart l.toArray oj)else(ms.getD j 0).testBit i
theorem Mn{l:List Oper}(h:lexB md l=true){i j:Nat}(hij:i<j){oi oj:Oper}(hi:l[i]?=some oi)(hj:l[j]?=some oj):
  if J0 oi.op||J0 oj.op then(bh md l.toArray j i||oi.apart l.toArray oj)=true else((SA md l).getD j 0).testBit i=true:=by
 simp only[lexB,bB]at h
 have hjl:j<l.length:=by rcases au j l.length with g | g;exact g;rw[aI g]at hj;cases hj
 have h1:=List.all_eq_true.1 h.2 j (List.mem_range.2 hjl)
 rw[hj]at h1
 have h2:=List.all_eq_true.1 h1 i (List.mem_range.2 hij)
 rw[hi]at h2
 simp only at h2
 split
 ·rename_i g;rw[if_pos g]at h2;exact h2
 ·rename_i g;rw[if_neg g]at h2;exact h2
theorem Ic{l:List Oper}{listed:Array Bool}(hord:Vc md l.toArray l.length=true)(hcl:∀j oj,l.toArray[j]?=some oj->listed.getD j false=true->∀e∈oj.after,aE md e=true->listed.getD e.on false=true):
  ∀(k:Nat) (o:Oper),l[k]?=some o->(∀e∈o.after,aE md e=true->listed.getD e.on false=true)->∀i,((SA md l).getD k 0).testBit i=true->listed.getD i false=true:=by
 intro k
 induction k using fY with
 |_ k ih =>
  intro o ho hd i hi
  have hk:k<l.length:=by rcases au k l.length with g | g;exact g;rw[aI g]at ho;cases ho
  obtain⟨o',ho',hed⟩:=ZL hord hk
  have:o'=o:=ax (ho'.symm.trans (by simpa using ho))
  subst this
  obtain⟨e,he,hb,h⟩:=Ot ho hed hi
  have h1:=hd e he hb
  rcases h with rfl | h
  ·exact h1
  ·have hlt:=hed e he hb
   obtain⟨oe,hoe,_⟩:=ZL hord (Nat.lt_trans hlt hk)
   exact ih e.on hlt oe (by simpa using hoe) (hcl e.on oe hoe h1) i h
theorem pj{l:List Oper}(hB:lexB md l=true)(hQ:∀c a d v w,Q (.panic c) (fU a d v) w->Q (.panic c) a w):
  ∀(m:Nat) (r:List Nat) (listed:Array Bool) (a:Act) (w:World),r.length=m->r.Pairwise (·<·)->(∀i,i∈r↔i<l.length/\listed.getD i true=false)->listed.size=l.length ->
   (∀j oj,l.toArray[j]?=some oj->listed.getD j false=true->∀e∈oj.after,aE md e=true->listed.getD e.on false=true)->S w->TL P l.toArray Q S r a w->wpAnyH P md l.toArray Q S m listed a w:=by
 have hB':=hB
 simp only[lexB,bB]at hB'
 obtain⟨⟨hns,hord⟩,_⟩:=hB'
 have hsel:=Region.noSelect_spec hns
 intro m
 induction m with
 |zero =>
  intro r listed a w hm hs hr hsz hcl hS h
  have:r=[]:=List.length_eq_zero_iff.1 hm
  subst this
  refine⟨?_,h⟩
  rw[List.eq_nil_iff_forall_not_mem]
  intro i hi
  obtain⟨h1,o,ho,_⟩:=mem_ready.1 hi
  have hlt:i<l.length:=by have:=(Array.getElem?_eq_some_iff.1 ho).1;simpa using this
  have:=(hr i).2 ⟨hlt,h1⟩
  cases this
 |succ m ih =>
  intro r listed a w hm hs hr hsz hcl hS h
  match r,hm,hs,hr,h with
  |i::r,hm,hs,hr,h =>
  have hil:=(hr i).1 we
  have hmin:∀j,j<i->listed.getD j false=true:=by
   intro j hj
   cases hv:listed.getD j false with
   |true=>rfl
   |false =>
    have hjl:j<l.length:=O
    have:=(hr j).2 ⟨hjl,getD_in O hv⟩
    rcases List.mem_cons.1 this with e | e
    ·omega
    ·have:=(List.pairwise_cons.1 hs).1 j e;omega
  obtain⟨oi,hoi,hed⟩:=ZL hord hil.1
  have hri:i∈ay md l.toArray listed:=mem_ready.2 ⟨hil.2,oi,hoi,λe he hb=>hmin _ (hed e he hb)⟩
  have next:∀j,j∈ay md l.toArray listed->j∈(i::r)->∀a' w',S w'->TL P l.toArray Q S ((i::r).erase j) a' w'->wpAnyH P md l.toArray Q S m (listed.setIfInBounds j true) a' w':=by
   intro j hj hjr a' w' hS' h'
   have hjsz:j<listed.size:=by rw[hsz];exact((hr j).1 hjr).1
   refine ih ((i::r).erase j) _ a' w' (by rw[List.length_erase_of_mem hjr];simp at hm ⊢;omega) (hs.sublist List.erase_sublist) (λk=>?_) (by simpa using hsz) (λk ok hk hl e he hb=>?_) hS' h'
   ·rw[List.Nodup.mem_erase_iff (hs.imp (λh=>Nat.ne_of_lt h)),hr k]
    by_cases hjk:j=k
    ·subst hjk;simp[hjsz]
    ·rw[getD_set_ne true hjk];simp[eE hjk]
   ·by_cases hjk:j=k
    ·subst hjk
     obtain⟨_,oj,hoj,hall⟩:=mem_ready.1 hj
     have:ok=oj:=ax (hk.symm.trans hoj)
     subst this
     exact getD_set_true (hall e he hb)
    ·rw[getD_set_ne false hjk]at hl
     exact getD_set_true (hcl k ok hk hl e he hb)
  have take:∀j oj,j∈ay md l.toArray listed->l.toArray[j]?=some oj->J0 oj.op=true->j∈(i::r)->wpAnyH P md l.toArray Q S (m+1) listed a w:=by
   intro j oj hj hoj hq hjr
   obtain⟨pre,post,hpp⟩:=List.append_of_mem hjr
   have hjs:=mem_ready.1 hj
   have happ:∀k ok,l.toArray[k]?=some ok->k≠j->listed.getD k true=false->(∀e∈ok.after,aE md e=true->e.on≠j)->oj.apart l.toArray ok=true:=by
    intro k ok hok hkj hun hno
    have hnw:bh md l.toArray k j=false:=by
     cases hv:bh md l.toArray k j with
     |false=>rfl
     |true =>
      obtain⟨o',ho',e,he,hb,hon⟩:=eY hv
      have:o'=ok:=ax (ho'.symm.trans hok)
      subst this
      exact absurd hon (hno e he hb)
    have hnw2:bh md l.toArray j k=false:=by
     cases hv:bh md l.toArray j k with
     |false=>rfl
     |true =>
      obtain⟨o',ho',e,he,hb,hon⟩:=eY hv
      obtain⟨_,o2,ho2,hall⟩:=hjs
      have:o'=o2:=ax (ho'.symm.trans ho2)
      subst this
      have:=hall e he hb
      rw[hon,getD_both hun]at this;cases this
    rcases Nat.lt_or_gt_of_ne hkj with hlt | hgt
    ·have:=Mn hB hlt (by simpa using hok) (by simpa using hoj)
     rw[if_pos (by simp[hq]),hnw2]at this
     exact Sn (by simpa using this)
    ·have:=Mn hB hgt (by simpa using hoj) (by simpa using hok)
     rw[if_pos (by simp[hq]),hnw]at this
     simpa using this
   have hfront:=Dy (P:=P) (Q:=Q) (S:=S) hoj hq hsel pre a w (post:=post) (λk hk ok hok=>by
    have hkr:k∈(i::r):=by rw[hpp];simp[hk]
    have hkj:k<j:=by
     rw[hpp]at hs
     exact(List.pairwise_append.1 hs).2.2 k hk j we
    refine happ k ok hok O ((hr k).1 hkr).2 (λe he hb heq=>?_)
    obtain⟨o',ho',hed'⟩:=ZL hord ((hr k).1 hkr).1
    have:o'=ok:=ax (ho'.symm.trans hok)
    subst this
    have:=hed' e he hb;omega) (by rw[<-hpp];exact h)
   obtain⟨v,hy,h'⟩:=hfront
   have herase:(i::r).erase j=pre++post:=by
    rw[hpp,List.erase_append_right,ff]
    intro hmem
    rw[hpp]at hs
    have:=(List.pairwise_append.1 hs).2.2 j hmem j we
    omega
   exact wpAnyH_first hoj hsel (λc a w h=>hQ c a _ v w h) m listed a w happ hj hy hS (next j hj hjr _ w hS (by rw[herase];exact h'))
  by_cases hex:∃j oj,j∈ay md l.toArray listed/\l.toArray[j]?=some oj/\J0 oj.op=true
  ·obtain⟨j,oj,hj,hoj,hq⟩:=hex
   have hjl:j<l.length:=by have:=(Array.getElem?_eq_some_iff.1 hoj).1;simpa using this
   exact take j oj hj hoj hq ((hr j).2 ⟨hjl,(mem_ready.1 hj).1⟩)
  ·
   have hone:∀j∈ay md l.toArray listed,j=i:=by
    intro j hj
    obtain⟨hjun,oj,hoj,hall⟩:=mem_ready.1 hj
    have hjl:j<l.length:=by have:=(Array.getElem?_eq_some_iff.1 hoj).1;simpa using this
    have hjr:=(hr j).2 ⟨hjl,hjun⟩
    rcases List.mem_cons.1 hjr with e | e
    ·exact e
    ·have hlt:=(List.pairwise_cons.1 hs).1 j e
     have hqj:J0 oj.op=false:=by
      cases hv:J0 oj.op with
      |false=>rfl
      |true=>exact absurd ⟨j,oj,hj,hoj,hv⟩ hex
     have hqi:J0 oi.op=false:=by
      cases hv:J0 oi.op with
      |false=>rfl
      |true=>exact absurd ⟨i,oi,hri,hoi,hv⟩ hex
     have:=Mn hB hlt (by simpa using hoi) (by simpa using hoj)
     rw[if_neg (by simp[hqi,hqj])]at this
     have:=Ic hord hcl j oj (by simpa using hoj) hall i this
     rw[getD_both hil.2]at this;cases this
   refine⟨λh0=>(by rw[h0]at hri;cases hri),λj hj=>?_⟩
   have:=hone j hj
   subst this
   obtain⟨o,ho,h⟩:=h
   have:o=oi:=ax (ho.symm.trans hoi)
   subst this
   rcases h with ⟨hq,_⟩ | ⟨_,h⟩
   ·exact absurd ⟨j,o,hri,ho,hq⟩ hex
   ·refine FQ (wpOp_mono (λa' w' h=>⟨h.1,?_⟩) h)
    exact next j hri we a' w' h.1 (by rw[ff];exact h.2)
end
section
variable{Q:Exit->Act->World->Prop}{S:World->Prop}
def Ik(P:Program)(ops:Array Oper)(Q:Exit->Act->World->Prop)(S:World->Prop):List Oper->Act->World->Prop
  | [],a,w=>Q .normal a w
  | o::r,a,w =>
      (J0 o.op=true/\∃v,YieldsIf P ops S o v a/\Ik P ops Q S r (a.put o.dst v) w) \/
       (J0 o.op=false/\if ao o (yielded ops a.tmps)then o.wp P a w (λa' w'=>S w'/\Ik P ops Q S r a' w') (λ_ _ _=>False)else S w/\Ik P ops Q S r (a.put o.dst undef) w)
theorem V6:∀(l:List Oper) (k:Nat) (a:Act) (w:World),(∀j,j<l.length->l[j]?=ops[k+j]?)->Ik P ops Q S l a w->TL P ops Q S (iM k l.length) a w
 |[],k,a,w,_,h=>h
 |o::l,k,a,w,hl,h=>by
  have h0:ops[k]?=some o:=by simpa using(hl 0 we).symm
  have hl':∀j,j<l.length->l[j]?=ops[k+1+j]?:=λj hj=>by
   have:=hl (j+1) wg
   rw[show k+1+j=k+(j+1) by omega,<-this];simp
  rw[aN,List.range'_succ]
  refine⟨o,h0,?_⟩
  rcases h with ⟨h1,v,h2,h3⟩ | ⟨h1,h2⟩
  ·exact .inl ⟨h1,v,h2,V6 l (k+1) _ w hl' h3⟩
  ·refine .inr ⟨h1,?_⟩
   unfold wpOp
   simp only[h0]
   split
   ·rename_i hw
    rw[if_pos hw]at h2
    exact .inl (Oper.wp_mono (λa' w' h=>⟨h.1,V6 l (k+1) a' w' hl' h.2⟩) h2)
   ·rename_i hw
    rw[if_neg hw]at h2
    exact⟨h2.1,V6 l (k+1) _ w hl' h2.2⟩
theorem GM{l:List Oper}(hB:lexB .any l=true)(hQ:∀c a w,¬Q' (.panic c) a w){a:Act}{w:World}(hS:S w)(h:Ik P l.toArray Q' S l a w):
  wpAny P .any l.toArray Q' l.length (bG l.length false) a w:=by
 refine wpAny_of_held _ _ _ _ (pj hB (λc a d v w h=>absurd h (hQ c _ w)) l.length (iM 0 l.length) _ a w we List.pairwise_lt_range' (λi=>?_) we (λj oj _ hl=>(by rw[getD_replicate_false]at hl;cases hl)) hS (V6 l 0 a w (λj _=>we) h))
 rw[List.mem_range'_1]
 constructor
 ·intro h
  have:i<l.length:=O
  simp[this]
 ·intro h;omega
def X9(K:Act->World->Prop):Exit->Act->World->Prop
 |.normal,a,w=>K a w
 |_,_,_=>False
theorem Oper.zM{o:Oper}{Q:Exit->Act->World->Prop}(hq:∀e a w,Q e a w->Q' e a w)(h:o.wp P a w K Q):o.wp P a w K Q':=by
 unfold bK at *
 generalize (execOp a.eval o).run P w=r at *
 cases r with
 |ok n w' =>
  cases n<;>simp only[aL]at h ⊢
  all_goals first
   |exact h
   |exact er h λe w'' he=>by
     cases e with
     |returned u=>exact he
     |panicked c=>exact hq _ _ _ he
     |outgrown=>obtain⟨a,w,h⟩:=he;exact⟨a,w,hq _ _ _ h⟩
 |halt x w'=>cases x<;>simp only[aL]at h ⊢;exact hq _ _ _ h
theorem L4{Q:Exit->Act->World->Prop}(hq:∀e a w,Q e a w->Q' e a w)(h:wpOp P ops Q i K a w):wpOp P ops Q' i K a w:=by
 unfold wpOp at *
 cases ho:ops[i]? with
 |none=>simp only[ho]at h ⊢;exact h
 |some o =>
  simp only[ho]at h ⊢
  split
  ·rename_i hw
   rw[if_pos hw]at h
   exact h.imp (Oper.zM hq) (λ⟨h1,a,w,h2⟩=>⟨h1,a,w,hq _ _ _ h2⟩)
  ·rename_i hw;rw[if_neg hw]at h;exact h
theorem W5{Q:Exit->Act->World->Prop}(hq:∀e a w,Q e a w->Q' e a w):∀(f:Nat) (listed:Array Bool) (a:Act) (w:World),wpAny P md ops Q f listed a w->wpAny P md ops Q' f listed a w
 |0,_,_,_,h=>⟨h.1,hq _ _ _ h.2⟩
 |f+1,_,_,_,h=>⟨λh0=>hq _ _ _ (h.1 h0),λi hi=>L4 hq (wpOp_mono (λa' w' h'=>W5 hq f _ a' w' h') (h.2 i hi))⟩
theorem TD{l:List Oper}(hm:P.follows .mixedOrders=true)(hB:lexB .any l=true)(hS:S { w with drawn:=w.drawn+1 })
  (h:Ik P l.toArray (X9 (Q .normal)) S l a { w with drawn:=w.drawn+1 }):(fh id l.toArray true).wp P Q a w:=by
 refine wp_region_any hm ?_
 have:=GM (P:=P) (Q':=X9 (Q .normal)) hB (λc a w h=>h) hS h
 simpa using W5 (Q':=Q) (λe a w h=>by cases e<;>first | exact h | exact h.elim) _ _ _ _ this
theorem DJ{l:List Oper}(n:Nat)(hm:P.follows .mixedOrders=true)(hB:Dl l n=true)(hB2:lexB .any (l.take n)=true)(hS:S { w with drawn:=w.drawn+1 })
  (h:Ik P (l.take n).toArray (X9 (λa w=>wpList P l.toArray Q (l.drop n) a w)) S (l.take n) a { w with drawn:=w.drawn+1 }):(fh id l.toArray true).wp P Q a w:=by
 refine N4 n hm hB ?_
 have hn:n<l.length:=by simp only[Dl,bB,decide_eq_true_eq]at hB;exact hB.1.1.1.1.1
 have:=GM (P:=P) hB2 (λc a w h=>h) hS h
 have e:(l.take n).length=n:=wg
 rw[e]at this
 exact W5 (λe a w h=>by cases e<;>first | exact h | exact h.elim) _ _ _ _ this
end
end
abbrev Gs:=Nat->Option (Array Value×TypeId)
variable{F F0:Gs}{G G' G0:Gs->Prop}
def Gs.le(F F':Gs):Prop:=∀b x,F b=some x->F' b=some x
theorem Gs.le_refl(F:Gs):Gs.le F F:=λ_ _ h=>h
theorem Gs.le_trans{F' F'':Gs}(h:Gs.le F F')(k:Gs.le F' F''):Gs.le F F'':=λb x hx=>k b x (h b x hx)
class Dr where
 on:Prop
instance(priority:=10) QIG:Dr:=⟨False⟩
class Df where
 ds:List Deferred
instance(priority:=10) VE:Df:=⟨[]⟩
structure TT[Dr](w w':World):Prop extends Below w.heap.size w w' where
 dr:Dr.on->w.drawn<=w'.drawn
section
variable[Dr]
theorem TT.refl(w:World):TT w w:=⟨Ext.refl w,λ_=>av _⟩
theorem TT.trans{a b c:World}(h:TT a b)(k:TT b c):TT a c:=⟨Ext.trans h.toBelow k.toBelow,λd=>eB (h.dr d) (k.dr d)⟩
theorem TT.alloc{a:World}(h:TT a w)(o:Obj):TT a (w.alloc o):=⟨Ext.alloc h.toBelow o,h.dr⟩
theorem TT.drew{a:World}(h:TT a w):TT a w.drew:=⟨Ext.drew h.toBelow,λd=>Nat.le_succ_of_le (h.dr d)⟩
end
theorem TT.of(h:Ext w w'):TT w w':=⟨h,λd=>d.elim⟩
section
variable[Dr][df:Df]
structure Fits(F:Gs)(w:World):Prop where
 row:∀b c T,F b=some (c,T)->∃fr,w.heap[b]?=some (.cells c T fr)
 all:∀b c fr,w.heap[b]?=some (.cells c 297 fr)->F b=some (c,297)
theorem Fits.drew(h:Fits F w):Fits F w.drew:=⟨h.row,h.all⟩
theorem Fits.lt(h:Fits F w){b:Nat}{x:Array Value×TypeId}(hb:F b=some x):b<w.heap.size:=by
 obtain⟨fr,h⟩:=h.row b x.1 x.2 hb
 rcases au b w.heap.size with g | g
 ·exact g
 ·rw[ab g]at h;cases h
theorem Fits.none(h:Fits F w){b:Nat}(hb:w.heap.size<=b):F b=none:=by
 cases hv:F b with
 |none=>rfl
 |some x=>have:=h.lt hv;omega
abbrev Sl:=List (Nat×Value)
def look:Sl->Nat->Option Value
 |[],_=>none
 |(k,v)::r,t=>bif ba k t then some v else look r t
def upd(m:Sl):Option Tmp->Value->Sl
 |some d,v=>(d,v)::m
 |none,_=>m
def ev(m:Sl):Operand->Option Value
 |.tmp t=>look m t
 |.const v=>some v
 |.global g=>some (.pointer (some ⟨g,0,none⟩))
 |.func f=>some (.func (.func f) #[] #[])
def MP(m:Sl):List Operand->Option (List Value)
 |[]=>some []
 |x::r=>match ev m x,MP m r with
  |some v,some l=>some (v::l)
  |_,_=>none
def J5(N:Nat)(d:Option Tmp):Bool:=match d with | some d=>Nat.blt d N | none=>true
structure JP(N:Nat)(m:Sl)(a:Act):Prop where
 size:a.tmps.size=N
 df:a.defers=Df.ds
 get:∀t v,look m t=some v->a.tmps[t]?=some v
theorem JP.ev{m:Sl}(h:JP N m a){x:Operand}{v:Value}(hx:ev m x=some v):a.eval x=v:=by
 cases x with
 |tmp t=>have:=h.get t v hx;simp[fq,this]
 |const v'=>simpa[YtjcphjpkimmmjaaGreatDoor.ev,fq]using hx
 |global g=>simpa[YtjcphjpkimmmjaaGreatDoor.ev,fq]using hx
 |func f=>simpa[YtjcphjpkimmmjaaGreatDoor.ev,fq]using hx
theorem JP.MP{m:Sl}(h:JP N m a):∀ {l:List Operand} {vs:List Value},MP m l=some vs->l.map a.eval=vs
 |[],vs,e=>by simpa[YtjcphjpkimmmjaaGreatDoor.MP]using e
 |x::l,vs,e=>by
  unfold YtjcphjpkimmmjaaGreatDoor.MP at e
  cases hx:YtjcphjpkimmmjaaGreatDoor.ev m x with
  |none=>rw[hx]at e;simp at e
  |some v =>
   cases hl:YtjcphjpkimmmjaaGreatDoor.MP m l with
   |none=>rw[hx,hl]at e;simp at e
   |some r =>
    rw[hx,hl]at e
    simp only[ai]at e
    subst e
    rw[bR,h.ev hx,h.MP hl]
theorem JP.put{m:Sl}(h:JP N m a){d:Option Tmp}(hd:J5 N d=true)(v:Value):JP N (upd m d v) (a.put d v):=by
 cases d with
 |none=>exact h
 |some d =>
  have hd':d<N:=by simpa[J5]using hd
  refine⟨by simp[fU,h.size],h.df,λt u ht=>?_⟩
  simp only[upd,look]at ht
  cases hb:ba d t with
  |true =>
   rw[hb]at ht
   have:d=t:=by simpa using hb
   subst this
   have:v=u:=by simpa using ht
   subst this
   simp[fU,h.size,hd']
  |false =>
   rw[hb]at ht
   have hne:d≠t:=by intro e;subst e;simp at hb
   have:=h.get t u (by simpa using ht)
   simp[fU,az hne,this]
def KP(m:Sl):Sl->Prop
 |[]=>True
 |(t,v)::r=>look m t=some v/\KP m r
theorem JP.sub{m:Sl}(h:JP N m a):∀ {m':Sl},KP m m'->JP N m' a
 |[],_=>⟨h.size,h.df,λt v e=>by simp[look]at e⟩
 |(k,u)::r,⟨h1,h2⟩=>by
  refine⟨h.size,h.df,λt v e=>?_⟩
  simp only[look]at e
  cases hb:ba k t with
  |true =>
   rw[hb]at e
   have:k=t:=by simpa using hb
   subst this
   have:u=v:=by simpa using e
   subst this
   exact h.get _ _ h1
  |false=>rw[hb]at e;exact(h.sub h2).get t v (by simpa using e)
structure Env where
 w0:World
 F0:Gs
 bs:List (Nat×Obj)
 G:Gs->Prop
structure xy(E:Env)(w:World)(F:Gs):Prop where
 le:Gs.le E.F0 F
 old:∀b,b<E.w0.heap.size->F b=E.F0 b
 fits:Fits F w
 ext:TT E.w0 w
 bx:∀k∈E.bs,w.heap[k.1]?=some k.2/\E.w0.heap.size<=k.1/\F k.1=none
 nd:(E.bs.map (·.1)).Nodup
 g:∀F',Gs.le F F'->E.G F'
def St(E:Env)(w:World):Prop:=∃F,xy E w F
theorem xy.drew{E:Env}(h:xy E w F):xy E w.drew F:=⟨h.le,h.old,h.fits.drew,h.ext.drew,h.bx,h.nd,h.g⟩
theorem St.drew{E:Env}(h:St E w):St E w.drew:=h.imp λ_ h=>h.drew
theorem xy.hG{E:Env}(h:xy E w F):E.G F:=h.g F (Gs.le_refl F)
theorem St.start(hf:Fits F w){G:Gs->Prop}(hg:∀F',Gs.le F F'->G F'):St ⟨w,F,[],G⟩ w :=
 ⟨F,Gs.le_refl F,λ_ _=>rfl,hf,TT.refl w,λ_ h=>(by cases h),List.nodup_nil,hg⟩
theorem St.imp(h:St ⟨w0,F0,bs,G⟩ w)(hb:bs'.Sublist bs)(hg:∀F,G F->G' F):St ⟨w0,F0,bs',G'⟩ w:=by
 obtain⟨F,h⟩:=h
 exact⟨F,h.le,h.old,h.fits,h.ext,λk hk=>h.bx k (hb.subset hk),(hb.map _).nodup h.nd,λF' hF'=>hg F' (h.g F' hF')⟩
theorem St.BY(h:St ⟨w0,F0,bs,G⟩ w)(hg:∀F,G F->G' F):St ⟨w0,F0,bs,G'⟩ w:=h.imp (eS _) hg
theorem T3{x:α}{l r:List α}(h:(l++x::r).Nodup):x∉l++r/\(l++r).Nodup:=by
 have h1:=h
 rw[fF]at h1
 obtain⟨a,b,c⟩:=h1
 obtain⟨d,e⟩:=List.nodup_cons.1 b
 refine⟨λhx=>?_,?_⟩
 ·rcases List.mem_append.1 hx with hx | hx
  ·exact c x hx x we rfl
  ·exact d hx
 ·rw[fF]
  exact⟨a,e,λy hy z hz=>c y hy z (by simp[hz])⟩
theorem St.alloc(h:St ⟨w0,F0,bs,G⟩ w)(o:Obj)(ho:∀c fr,o≠.cells c 297 fr):St ⟨w0,F0,(w.heap.size,o)::bs,G⟩ (w.alloc o):=by
 obtain⟨F,h⟩:=h
 have hne:∀k∈bs,k.1≠w.heap.size:=λk hk e=>by
  have:=(h.bx k hk).1
  rw[e,ab (av _)]at this;cases this
 refine⟨F,⟨h.le,h.old,⟨λb c T hb=>?_,λb c fr hb=>?_⟩,h.ext.alloc o,λk hk=>?_,?_,h.g⟩⟩
 ·obtain⟨fr,e⟩:=h.fits.row b c T hb
  exact⟨fr,by rw[eD _ _ _ (h.fits.lt hb)];exact e⟩
 ·rcases au b w.heap.size with g | g
  ·rw[eD _ _ _ g]at hb;exact h.fits.all b c fr hb
  ·have hb':(w.heap.push o)[b]?=some (.cells c 297 fr):=hb
   rw[Array.getElem?_push]at hb'
   split at hb'
   ·exact absurd (ax hb') (ho c fr)
   ·rw[ab g]at hb';cases hb'
 ·rcases List.mem_cons.1 hk with rfl | hk
  ·exact⟨by show(w.heap.push o)[w.heap.size]?=_;simp,h.ext.size,h.fits.none (av _)⟩
  ·obtain⟨h1,h2,h3⟩:=h.bx k hk
   have hlt:k.1<w.heap.size:=by
    rcases au k.1 w.heap.size with g | g
    ·exact g
    ·rw[ab g]at h1;cases h1
   exact⟨by rw[eD _ _ _ hlt];exact h1,h2,h3⟩
 ·show(w.heap.size::bs.map (·.1)).Nodup
  refine List.nodup_cons.2 ⟨λhm=>?_,h.nd⟩
  obtain⟨k,hk,e⟩:=List.mem_map.1 hm
  exact hne k hk e
theorem xy.freeze{pre post:List (Nat×Obj)}{c:Array Value}(h:xy ⟨w0,F0,pre++(b,.cells c T fr)::post,G⟩ w F):
  xy ⟨w0,F0,pre++post,G⟩ w (λi=>if i=b then some (c,T)else F i)/\Gs.le F (λi=>if i=b then some (c,T)else F i):=by
 obtain⟨h1,h2,h3⟩:=h.bx (b,.cells c T fr) we
 have hle:Gs.le F (λi=>if i=b then some (c,T)else F i):=λi x hx=>by
  by_cases e:i=b
  ·subst e;rw[h3]at hx;cases hx
  ·show(if i=b then _ else _)=_
   rw[if_neg e];exact hx
 have hnd:=h.nd
 simp only[bj,bR]at hnd
 have hnd2:=(T3 hnd)
 refine⟨⟨Gs.le_trans h.le hle,λi hi=>?_,⟨λi c' T' hi=>?_,λi c' fr' hi=>?_⟩,h.ext,λk hk=>?_,?_,λF' hF'=>h.g F' (Gs.le_trans hle hF')⟩,hle⟩
 ·have:i≠b:=by rintro rfl;exact absurd hi (Nat.not_lt.2 h2)
  rw[if_neg this];exact h.old i hi
 ·by_cases e:i=b
  ·subst e
   rw[if_pos rfl]at hi
   cases hi
   exact⟨fr,h1⟩
  ·rw[if_neg e]at hi;exact h.fits.row i c' T' hi
 ·by_cases e:i=b
  ·subst e
   have:=h1.symm.trans hi
   cases this
   rw[if_pos rfl]
  ·rw[if_neg e];exact h.fits.all i c' fr' hi
 ·obtain⟨g1,g2,g3⟩:=h.bx k (by
   rcases List.mem_append.1 hk with h | h
   ·simp[h]
   ·simp[h])
  refine⟨g1,g2,?_⟩
  have hkb:k.1≠b:=by
   rintro rfl
   refine hnd2.1 ?_
   rw[<-bj];exact fk hk
  rw[if_neg hkb];exact g3
 ·show((pre++post).map (·.1)).Nodup
  rw[bj];exact hnd2.2
theorem St.freeze(pre:List (Nat×Obj)){post:List (Nat×Obj)}{b:Nat}{c:Array Value}{T:TypeId}{fr:Nat×Nat}{G:Gs->Prop}{w:World}(h:St ⟨w0,F0,pre++(b,.cells c T fr)::post,G⟩ w):
  St ⟨w0,F0,pre++post,λF=>G F/\F b=some (c,T)⟩ w:=by
 obtain⟨F,h⟩:=h
 obtain⟨h1,hle⟩:=h.freeze
 exact⟨_,h1.le,h1.old,h1.fits,h1.ext,h1.bx,h1.nd,λF' hF'=>⟨h1.g F' hF',hF' b _ (by show(if b=b then _ else _)=_;rw[if_pos rfl])⟩⟩
theorem St.write(pre:List (Nat×Obj)){post:List (Nat×Obj)}{b:Nat}{o o':Obj}{G:Gs->Prop}{w w':World}(h:St ⟨w0,F0,pre++(b,o)::post,G⟩ w)
  (hw:w'.heap=w.heap.setIfInBounds b o'/\w'.os=w.os/\w'.tape=w.tape/\w'.output=w.output/\w'.drawn=w.drawn) (ho:∀c fr,o'≠.cells c 297 fr):St ⟨w0,F0,pre++(b,o')::post,G⟩ w':=by
 obtain⟨F,h⟩:=h
 obtain⟨h1,h2,h3⟩:=h.bx (b,o) we
 have hlt:b<w.heap.size:=by
  rcases au b w.heap.size with g | g
  ·exact g
  ·rw[ab g]at h1;cases h1
 have hne:∀i,i≠b->w'.heap[i]?=w.heap[i]?:=λi hi=>by rw[hw.1,az (eE hi)]
 have heq:w'.heap[b]?=some o':=by rw[hw.1];simp[hlt]
 have hsz:w'.heap.size=w.heap.size:=by rw[hw.1];simp
 have hnd:=h.nd
 simp only[bj,bR]at hnd
 have hnd2:=(T3 hnd)
 refine⟨F,⟨h.le,h.old,⟨λi c T hi=>?_,λi c fr hi=>?_⟩,⟨Ext.QBA h.ext.toBelow ?_ ?_ ?_ ?_ ?_,λd=>by rw[hw.2.2.2.2];exact h.ext.dr d⟩,λk hk=>?_,?_,h.g⟩⟩
 ·have:i≠b:=by rintro rfl;rw[h3]at hi;cases hi
  rw[hne i this];exact h.fits.row i c T hi
 ·by_cases e:i=b
  ·subst e;rw[heq]at hi;exact absurd (ax hi) (ho c fr)
  ·rw[hne i e]at hi;exact h.fits.all i c fr hi
 ·exact hw.2.1
 ·exact hw.2.2.1
 ·exact hw.2.2.2.1
 ·omega
 ·intro i hi
  exact hne i (by rintro rfl;exact absurd hi (Nat.not_lt.2 h2))
 ·have key:k=(b,o')\/k∈pre++post:=by
   rcases List.mem_append.1 hk with h | h
   ·exact .inr (by simp[h])
   ·rcases List.mem_cons.1 h with h | h
    ·exact .inl h
    ·exact .inr (by simp[h])
  rcases key with rfl | hk'
  ·exact⟨heq,h2,h3⟩
  ·obtain⟨g1,g2,g3⟩:=h.bx k (by
    rcases List.mem_append.1 hk' with h | h
    ·simp[h]
    ·simp[h])
   have hkb:k.1≠b:=by
    rintro rfl
    refine hnd2.1 ?_
    rw[<-bj];exact fk hk'
   exact⟨by rw[hne _ hkb];exact g1,g2,g3⟩
 ·show((pre++(b,o')::post).map (·.1)).Nodup
  simp only[bj,bR]
  exact hnd
end
variable{m:Sl}
section
variable[Dr][df:Df]
section
variable{P:Program}{Q:Exit->Act->World->Prop}{N:Nat}{m:Sl}{E:Env}
def Fin(Q:Exit->Act->World->Prop)(e:Exit)(N:Nat)(m:Sl)(E:Env):Prop:=∀a w,JP N m a->St E w->Q e a w
def J(P:Program)(c:Code)(Q:Exit->Act->World->Prop)(N:Nat)(m:Sl)(E:Env):Prop:=∀a w,JP N m a->St E w->c.wp P Q a w
def JS(P:Program)(ops:Array Oper)(Q:Exit->Act->World->Prop)(l:List Oper)(N:Nat)(m:Sl)(E:Env):Prop:=∀a w,JP N m a->St E w->wpList P ops Q l a w
def JD(P:Program)(ops:Array Oper)(Q:Exit->Act->World->Prop)(E0:Env)(l:List Oper)(N:Nat)(m:Sl)(E:Env):Prop:=(∀w,St E w->St E0 w)->∀a w,JP N m a->St E w->Ik P ops Q (St E0) l a w
theorem QG{x y:Code}(h:J P x (Exit.then (y.wp P Q) Q) N m E):J P (.seq x y) Q N m E:=λa w ha hw=>wp_seq (h a w ha hw)
theorem QU{c:Code}(h:J P c (bt id Q) N m E):J P (.block id c) Q N m E:=λa w ha hw=>wp_block (h a w ha hw)
theorem QQ(h:Fin Q .normal N m E):J P .skip Q N m E:=λa w ha hw=>wp_skip (h a w ha hw)
theorem Qz(h:Fin Q (.exit id) N m E):J P (.exit id) Q N m E:=λa w ha hw=>wp_exit (h a w ha hw)
theorem QY(h:Fin Q .ret N m E):J P .ret Q N m E:=λa w ha hw=>wp_ret (h a w ha hw)
theorem QR{c:Operand}{x y:Code}{t:Bool}(hc:ev m c=some (.bool t))(ht:t=true->J P x Q N m E)(hf:t=false->J P y Q N m E):J P (.cond c x y) Q N m E :=
 λa w ha hw=>wp_cond_split (ha.ev hc) (λh=>ht h a w ha hw) (λh=>hf h a w ha hw)
theorem Ko{c:Operand}{x y:Code}(hc:ev m c=some (.bool false))(h:J P y Q N m E):J P (.cond c x y) Q N m E:=QR hc (λh=>by cases h) (λ_=>h)
theorem QC{y:Code}(h:J P y Q N m E):Fin (Exit.then (y.wp P Q) Q) .normal N m E:=h
theorem QW(h:Fin Q (.exit id) N m E):Fin (Exit.then K Q) (.exit id) N m E:=h
theorem JA(h:Fin Q .ret N m E):Fin (Exit.then K Q) .ret N m E:=h
theorem Qk(h:Fin Q .normal N m E):Fin (bt id Q) .normal N m E:=h
theorem Q5(h:Fin Q .ret N m E):Fin (bt id Q) .ret N m E:=h
theorem QX(h:Fin Q .normal N m E):Fin (bt id Q) (.exit id) N m E:=λa w ha hw=>by simp only[bt,if_true];exact h a w ha hw
theorem QP{id':Nat}(hid:ba id' id=false)(h:Fin Q (.exit id') N m E):Fin (bt id Q) (.exit id') N m E:=λa w ha hw=>by
 have:id'≠id:=by rintro rfl;simp at hid
 simp only[bt,if_neg this];exact h a w ha hw
theorem QG1(h:∀a w,JP N m a->St E w->K a w):Fin (X9 K) .normal N m E:=h
def qu{ι:Type}(N:Nat)(w0:World)(F0:Gs)(M:ι->Sl)(B:ι->List (Nat×Obj))(H:ι->Gs->Prop)(μ:ι->Nat)(i:ι)(a:Act)(w:World):Prop :=
 ∃j,μ j<μ i/\JP N (M j) a/\St ⟨w0,F0,B j,H j⟩ w
theorem Zy{c:Code}(M:ι->Sl)(B:ι->List (Nat×Obj))(H:ι->Gs->Prop)(μ:ι->Nat)(i0:ι)
  (hm:KP m (M i0)) (hb:(B i0).Sublist bs) (hg:∀F,G F->H i0 F)
  (round:∀i,J P c (Exit.then (qu N w0 F0 M B H μ i) Q) N (M i) ⟨w0,F0,B i,H i⟩):J P (.loop c) Q N m ⟨w0,F0,bs,G⟩:=by
 intro a w ha hw
 refine wp_loop_ghost (λn a w=>∃i,μ i=n/\JP N (M i) a/\St ⟨w0,F0,B i,H i⟩ w) (μ i0) ⟨i0,rfl,ha.sub hm,hw.imp hb hg⟩ ?_
 rintro n a w ⟨i,rfl,ha,hw⟩
 refine wp_mono (round i a w ha hw) ?_
 intro e a' w' h
 cases e with
 |normal=>obtain⟨j,h1,h2,h3⟩:=h;exact⟨μ j,h1,j,rfl,h2,h3⟩
 |_=>exact h
theorem Ql{M:ι->Sl}{B:ι->List (Nat×Obj)}{H:ι->Gs->Prop}{μ:ι->Nat}{i:ι}(j:ι)(hμ:μ j<μ i)
  (hm:KP m (M j)) (hb:(B j).Sublist bs) (hg:∀F,G F->H j F):Fin (Exit.then (qu N w0 F0 M B H μ i) Q) .normal N m ⟨w0,F0,bs,G⟩ :=
 λa w ha hw=>⟨j,hμ,ha.sub hm,hw.imp hb hg⟩
theorem QGy{m':Sl}{c:Code}(hm:KP m m')(hb:bs'.Sublist bs)(hg:∀F,G F->G' F)(h:J P c Q N m' ⟨w0,F0,bs',G'⟩):J P c Q N m ⟨w0,F0,bs,G⟩ :=
 λa w ha hw=>h a w (ha.sub hm) (hw.imp hb hg)
theorem QB{l:List Oper}(h:JS P l.toArray Q l N m E):J P (.region id l.toArray false) Q N m E:=λa w ha hw=>wp_region_lit (h a w ha hw)
variable{ops:Array Oper}{l:List Oper}{E0:Env}
theorem QE(h:Fin Q .normal N m E):JS P ops Q [] N m E:=h
theorem CV(h:∀a w,JP N m a->St E w->K a w):JD P ops (X9 K) E0 [] N m E:=λ_=>h
def Qt(P:Program)(N:Nat)(m:Sl)(S:World->Prop)(o:Op)(ty:TypeId)(v:Value):Prop:=∀a w d pos aft g,JP N m a->S w->(execOp a.eval ⟨d,o,ty,pos,aft,g⟩).run P w = .ok (.value v) w
variable{d:Nat}{o:Op}{ty:TypeId}{pos:String}{aft:Array Edge}{v:Value}
theorem QA(h:Qt P N m (St E) o ty v)(k:JS P ops Q l N ((d,v)::m) E)(hd:J5 N (some d)=true:=by rfl):JS P ops Q (⟨some d,o,ty,pos,aft,none⟩::l) N m E:=by
 intro a w ha hw
 refine wpList_plain rfl λK hK=>?_
 unfold bK
 rw[h a w _ _ _ _ ha hw]
 exact hK _ _ (k _ w (ha.put hd v) hw)
theorem QK(h:Qt P N m (St E0) o ty v)(k:JD P ops Q E0 l N ((d,v)::m) E)(hq:J0 o=true:=by rfl)(hd:J5 N (some d)=true:=by rfl):JD P ops Q E0 (⟨some d,o,ty,pos,aft,none⟩::l) N m E:=by
 intro hE a w ha hw
 exact .inl ⟨hq,v,.inl ⟨rfl,λw' hw'=>h a w' _ _ _ _ ha hw'⟩,k hE _ w (ha.put hd v) hw⟩
theorem QHe(h:Qt P N m (St E0) o ty v)(k:JD P ops Q E0 l N m E)(hq:J0 o=true:=by rfl):JD P ops Q E0 (⟨none,o,ty,pos,aft,none⟩::l) N m E:=by
 intro hE a w ha hw
 exact .inl ⟨hq,v,.inl ⟨rfl,λw' hw'=>h a w' _ _ _ _ ha hw'⟩,k hE _ w ha hw⟩
theorem EF(ha:JP N m a){g t:Nat}{b:Bool}(hg:(ops[g]?).bind (·.dst)=some t)(hb:look m t=some (.bool b)):yielded ops a.tmps g=some b:=by
 unfold yielded
 rw[hg]
 have:=ha.get t _ hb
 simp[this]
theorem QFC{d:Option Tmp}{g t:Nat}{b want:Bool}(hg:(ops[g]?).bind (·.dst)=some t)(hb:look m t=some (.bool b))(ht:b=want->JS P ops Q (⟨d,o,ty,pos,aft,none⟩::l) N m E)(hf:b=!want->JS P ops Q l N (upd m d undef) E)
  (hd:J5 N d=true:=by rfl):JS P ops Q (⟨d,o,ty,pos,aft,some (g,want)⟩::l) N m E:=by
 intro a w ha hw
 unfold wpList
 have hy:=EF ha hg hb
 by_cases e:b=want
 ·have:=ht e a w ha hw
  unfold wpList at this
  rw[if_pos (by simp[ao])]at this
  rw[if_pos (by simp[ao,hy,e])]
  exact this
 ·rw[if_neg (by simp[ao,hy,e])]
  exact hf (by cases b<;>cases want<;>simp_all) _ w (ha.put hd undef) hw
theorem QFD{d:Option Tmp}{g t:Nat}{b want:Bool}(hg:(ops[g]?).bind (·.dst)=some t)(hb:look m t=some (.bool b))(ht:b=want->JD P ops Q E0 (⟨d,o,ty,pos,aft,none⟩::l) N m E)(hf:b=!want->JD P ops Q E0 l N (upd m d undef) E)
  (hd:J5 N d=true:=by rfl):JD P ops Q E0 (⟨d,o,ty,pos,aft,some (g,want)⟩::l) N m E:=by
 intro hE a w ha hw
 have hy:=EF ha hg hb
 by_cases e:b=want
 ·rcases ht e hE a w ha hw with ⟨h1,v,h2,h3⟩ | ⟨h1,h2⟩
  ·refine .inl ⟨h1,v,?_,h3⟩
   rcases h2 with ⟨_,h2⟩ | ⟨h2,_⟩
   ·exact .inl ⟨by simp[ao,hy,e],h2⟩
   ·simp[ao]at h2
  ·refine .inr ⟨h1,?_⟩
   rw[if_pos (by simp[ao])]at h2
   rw[if_pos (by simp[ao,hy,e])]
   exact h2
 ·have hr:=hf (by cases b<;>cases want<;>simp_all) hE _ w (ha.put hd undef) hw
  cases hq:J0 o with
  |true=>exact .inl ⟨hq,undef,.inr ⟨by simp[ao,hy,e],rfl⟩,hr⟩
  |false =>
   refine .inr ⟨hq,?_⟩
   rw[if_neg (by simp[ao,hy,e])]
   exact⟨hE w hw,hr⟩
end
end
section
variable[Dr][df:Df]
def QGi(d:TypeDesc):Bool:=match d with | .struct _ | .array _ _=>true | _=>false
def YW(P:Program)(T:TypeId):Option (Bool×Nat):=match P.underlying T,P.info? T with
 |some d,some i=>some (QGi d,i.size)
 |_,_=>none
theorem Um(h:YW P T=some (g,n))(w:World):(isAgg T).run P w = .ok g w:=by
 unfold YW at h
 split at h
 ·rename_i d i hd hi
  cases h
  unfold isAgg
  rw[ak,run_underlying hd w]
  cases d<;>rfl
 ·cases h
theorem VX(h:YW P T=some (g,n))(w:World):(sizeOf T).run P w = .ok n w:=by
 unfold YW at h
 split at h
 ·rename_i d i hd hi
  cases h
  simp[sizeOf,typeInfo,hi]
 ·cases h
def KC(P:Program)(T:TypeId)(f:Nat):Option (Nat×TypeId):=match P.underlying T with
 |some (.struct fs)=>match fs[f]? with
  |some x=>some (x.offset,x.type)
  |none=>none
 |_=>none
inductive N1:List Value->Nat->List Value->Prop
 |nil {l:List Value}:N1 l 0 []
 |here {x:Value} {l vs:List Value}:N1 l 0 vs->N1 (x::l) 0 (x::vs)
 |skip {x:Value} {l vs:List Value} {n:Nat}:N1 l n vs->N1 (x::l) (n+1) vs
theorem N1.at{vs:List Value}(h:N1 l n vs):∀(j:Nat) (v:Value),vs[j]?=some v->l[n+j]?=some v:=by
 induction h with
 |nil=>intro j v hv;simp at hv
 |here h ih =>
  intro j v hv
  cases j with
  |zero=>simpa using hv
  |succ j =>
   have:=ih j v (by simpa using hv)
   rw[show 0+(j+1)=(0+j)+1 by omega];simpa using this
 |skip h ih =>
  intro j v hv
  have:=ih j v hv
  rw[ey];simpa using this
inductive Kb:List Value->Nat->List Value->List Value->Prop
 |nil {l:List Value}:Kb l 0 [] l
 |here {x v:Value} {l vs l':List Value}:Kb l 0 vs l'->Kb (x::l) 0 (v::vs) (v::l')
 |skip {x:Value} {l vs l':List Value} {n:Nat}:Kb l n vs l'->Kb (x::l) (n+1) vs (x::l')
theorem Kb.length{vs:List Value}(h:Kb l n vs l'):l'.length=l.length:=by
 induction h<;>simp_all
theorem Kb.le{vs:List Value}(h:Kb l n vs l'):n+vs.length<=l.length:=by
 induction h<;>simp_all<;>omega
theorem Kb.eq{vs:List Value}(h:Kb l n vs l'):l'=l.take n++vs++l.drop (n+vs.length):=by
 induction h with
 |nil=>simp
 |here h ih=>simp at ih ⊢;exact ih
 |skip h ih =>
  rw[ey]
  simpa using ih
inductive Own:List (Nat×Obj)->Nat->Obj->(Obj->List (Nat×Obj))->Prop
 |here {b:Nat} {o:Obj} {r:List (Nat×Obj)}:Own ((b,o)::r) b o (λo'=>(b,o')::r)
 |there {x:Nat×Obj} {l:List (Nat×Obj)} {b:Nat} {o:Obj} {f:Obj->List (Nat×Obj)}:Own l b o f->Own (x::l) b o (λo'=>x::f o')
theorem Own.split{l:List (Nat×Obj)}(h:Own l b o f):∃pre post,l=pre++(b,o)::post/\∀o',f o'=pre++(b,o')::post:=by
 induction h with
 |here=>exact⟨[],_,rfl,λ_=>rfl⟩
 |there h ih =>
  obtain⟨pre,post,h1,h2⟩:=ih
  exact⟨_::pre,post,by rw[h1];rfl,λo'=>by show _::_=_;rw[h2];rfl⟩
theorem Own.mem{l:List (Nat×Obj)}(h:Own l b o f):(b,o)∈l:=by
 obtain⟨pre,post,h1,_⟩:=h.split;rw[h1];simp
inductive CR:List (Nat×Obj)->Nat->Obj->List (Nat×Obj)->Prop
 |here {b:Nat} {o:Obj} {r:List (Nat×Obj)}:CR ((b,o)::r) b o r
 |there {x:Nat×Obj} {l l':List (Nat×Obj)} {b:Nat} {o:Obj}:CR l b o l'->CR (x::l) b o (x::l')
theorem CR.split{l l':List (Nat×Obj)}(h:CR l b o l'):∃pre post,l=pre++(b,o)::post/\l'=pre++post:=by
 induction h with
 |here=>exact⟨[],_,rfl,rfl⟩
 |there h ih =>
  obtain⟨pre,post,h1,h2⟩:=ih
  exact⟨_::pre,post,by rw[h1];rfl,by rw[h2];rfl⟩
section
variable{P:Program}{Q:Exit->Act->World->Prop}{N:Nat}{m:Sl}{E E0:Env}{ops:Array Oper}{l:List Oper}{w0:World}{F0:Gs}{bs:List (Nat×Obj)}{G:Gs->Prop}
theorem St.own(h:St ⟨w0,F0,bs,G⟩ w){b:Nat}{o:Obj}{f:Obj->List (Nat×Obj)}(ho:Own bs b o f):w.heap[b]?=some o:=by
 obtain⟨F,h⟩:=h;exact(h.bx (b,o) ho.mem).1
section
variable{ty:TypeId}{v:Value}{S:World->Prop}
theorem QD(h:ev m x=some v):Qt P N m S (.move x) ty v:=λa w _ _ _ _ ha _=>by
 show(iP (iW (a.eval x)) w)=_;rw[ha.ev h]
theorem QF(h:ev m x=some v):Qt P N m S (.assign x) ty v:=λa w _ _ _ _ ha _=>by
 show(iP (iW (a.eval x)) w)=_;rw[ha.ev h]
theorem ye{c:Operand}{b:Bool}(hc:ev m c=some (.bool b))(hx:ev m x=some v)(hy:ev m y=some u):Qt P N m S (.pick c x y) ty (if b then v else u):=λa w _ _ _ _ ha _=>by
 simp only[execOp,ha.ev hc,ha.ev hx,ha.ev hy,asBool,pure_bind,aF]
theorem QT{vs:Array Value}(h:ev m x=some (.tuple vs))(hi:vs[i]?=some v):Qt P N m S (.extract x i) ty v:=λa w _ _ _ _ ha _=>by
 simp[execOp,ha.ev h,Instr.extract,hi]
theorem Zj{p:Addr}(h:ev m x=some (.pointer (some p))):Qt P N m S (.nilCheck x) ty (.pointer (some p)):=λa w _ _ _ _ ha _=>by
 simp[execOp,ha.ev h]
theorem QH{f:Nat}{fo:Nat}{ft:TypeId}(h:ev m x=some (.pointer (some ⟨b,off,none⟩)))(hf:KC P T f=some (fo,ft))(hs:YW P ft=some (g,n+1)):
  Qt P N m S (.fieldAddr T x f) ty (.pointer (some ⟨b,off+fo,none⟩)):=λa w _ _ _ _ ha _=>by
 unfold KC at hf
 split at hf
 ·rename_i fs hu
  split at hf
  ·rename_i fx hx
   simp only[ai,Prod.mk.injEq]at hf
   obtain⟨rfl,rfl⟩:=hf
   have hadd:(⟨b,off,none⟩:Addr).add fx.offset=⟨b,off+fx.offset,none⟩:=by unfold fi;split<;>simp_all
   simp[execOp,ha.ev h,Instr.fieldAt,run_underlying hu,hx,aM,fieldPlace,VX hs,hadd]
  ·cases hf
 ·cases hf
theorem YE(ht:YW P T=some (false,n)){w:World}{a:Addr}{v:Value}(h:w.cell? a=some v):(loadVar T a).run P w = .ok v w:=by
 simp[loadVar,Um ht,h]
theorem Ky{vs:List Value}(ht:YW P T=some (true,n))(hn:vs.length=n){w:World}{b off:Nat}(h:∀j v,vs[j]?=some v->w.cell? ⟨b,off+j,none⟩=some v):(loadVar T ⟨b,off,none⟩).run P w = .ok (.agg vs.toArray) w:=by
 have hl:=run_loadCells_list (P:=P) w ⟨b,off,none⟩ vs (λj v hv=>by
  have hadd:(⟨b,off,none⟩:Addr).add j=⟨b,off+j,none⟩:=by unfold fi;split<;>simp_all
  rw[hadd];exact h j v hv)
 subst hn
 simp[loadVar,Um ht,VX ht,hl]
theorem X4{o:Nat}(h:w.heap[b]?=some (.cells c.toArray T fr)):w.cell? ⟨b,o,none⟩=c[o]?:=by
 simp[ef,h]
theorem Qg(h:ev m x=some (.pointer (some ⟨b,off,none⟩)))(ht:YW P T=some (false,n))(ho:Own bs b (.cells c.toArray T' fr) f)(hg:N1 c off [v]):
  Qt P N m (St ⟨w0,F0,bs,G⟩) (.load T x) ty v:=λa w _ _ _ _ ha hw=>by
 have hc:w.cell? ⟨b,off,none⟩=some v:=by rw[X4 (hw.own ho)];exact hg.at 0 v I
 simp[execOp,ha.ev h,bH,aM,YE ht hc]
theorem QJ{vs:List Value}(h:ev m x=some (.pointer (some ⟨b,off,none⟩)))(ht:YW P T=some (true,n))(ho:Own bs b (.cells c.toArray T' fr) f)(hg:N1 c off vs)(hn:vs.length=n):
  Qt P N m (St ⟨w0,F0,bs,G⟩) (.load T x) ty (.agg vs.toArray):=λa w _ _ _ _ ha hw=>by
 have:=Ky ht hn (w:=w) (b:=b) (off:=off) (λj v hv=>by rw[X4 (hw.own ho)];exact hg.at j v hv)
 simp[execOp,ha.ev h,bH,aM,this]
theorem cell_of_row(h:St ⟨w0,F0,bs,G⟩ w){b o:Nat}{c:Array Value}{T:TypeId}{v:Value}(hr:∀F,G F->F b=some (c,T))(hv:c[o]?=some v):w.cell? ⟨b,o,none⟩=some v:=by
 obtain⟨F,h⟩:=h
 obtain⟨fr,e⟩:=h.fits.row b c T (hr F h.hG)
 simp[ef,e,hv]
theorem Z2{c:Array Value}(h:ev m x=some (.pointer (some ⟨b,off,none⟩)))(ht:YW P T=some (false,n))(hr:∀F,G F->F b=some (c,T'))(hv:c[off]?=some v):
  Qt P N m (St ⟨w0,F0,bs,G⟩) (.load T x) ty v:=λa w _ _ _ _ ha hw=>by
 simp[execOp,ha.ev h,bH,aM,YE ht (cell_of_row hw hr hv)]
theorem F7{c:Array Value}{vs:List Value}(h:ev m x=some (.pointer (some ⟨b,off,none⟩)))(ht:YW P T=some (true,n))(hr:∀F,G F->F b=some (c,T'))(hn:vs.length=n)(hv:∀j v,vs[j]?=some v->c[off+j]?=some v):
  Qt P N m (St ⟨w0,F0,bs,G⟩) (.load T x) ty (.agg vs.toArray):=λa w _ _ _ _ ha hw=>by
 have:=Ky ht hn (w:=w) (b:=b) (off:=off) (λj v h=>cell_of_row hw hr (hv j v h))
 simp[execOp,ha.ev h,bH,aM,this]
theorem QHK{o:Op}(ρ:Operand->Value)(hs:∀cs b,o≠.select cs b)(hρ:∀x∈o.operands,ev m x=some (ρ x))(h:∀w d pos aft g,(execOp ρ ⟨d,o,ty,pos,aft,g⟩).run P w = .ok (.value v) w):Qt P N m S o ty v:=λa w d pos aft g ha _=>by
 rw[execOp_congr (ρ:=a.eval) (ρ':=ρ) ⟨d,o,ty,pos,aft,g⟩ hs (λx hx=>ha.ev (hρ x hx))]
 exact h w d pos aft g
end
def Enters(P:Program)(f:FuncId):Prop:=∀(args:Array Value) (w:World),(callFunc f args).run P w = .ok (.enter f args) w
theorem enters_of{f:FuncId}(h:P.funcs[f]?=some fn)(hn:(fn.name == "runtime.NumGoroutine")=false)(hb:fn.body.isNone=false):Enters P f:=λargs w=>by
 have hb':fn.body≠none:=by intro e;rw[e]at hb;cases hb
 simp[callFunc,h,hb',beq_eq_false_iff_ne.1 hn]
def MQ(w:World)(F:Gs){γ:Type}(val:γ->Value)(fact:γ->Gs->Prop)(e:Ending)(w':World):Prop :=
 ∃c F',e = .returned (val c)/\TT w w'/\Gs.le F F'/\(∀b,b<w.heap.size->F' b=F b)/\Fits F' w'/\∀F'',Gs.le F' F''->fact c F''
def QS(P:Program)(f:FuncId)(args:List Value)(w:World)(F:Gs){γ:Type}(val:γ->Value)(fact:γ->Gs->Prop):Prop :=
 Enters P f/\Calls P f args.toArray w (MQ w F val fact)
theorem QS.imp{f:FuncId}{args:List Value}{γ':Type}{val:γ->Value}{fact:γ->Gs->Prop}{val':γ'->Value}{fact':γ'->Gs->Prop}(h:QS P f args w F val fact)
  (k:∀c F',fact c F'->∃c',val c=val' c'/\∀F'',Gs.le F' F''->fact' c' F''):QS P f args w F val' fact':=by
 refine⟨h.1,h.2.mono ?_⟩
 rintro e w' ⟨c,F',rfl,h1,h2,h3,h4,h5⟩
 obtain⟨c',e,k'⟩:=k c F' (h5 F' (Gs.le_refl _))
 exact⟨c',F',by rw[e],h1,h2,h3,h4,k'⟩
theorem xy.call{F':Gs}(h:xy ⟨w0,F0,bs,G⟩ w F){f:Gs->Prop}(h1:TT w w')(h2:Gs.le F F')(h3:∀b,b<w.heap.size->F' b=F b)(h4:Fits F' w')(h5:∀F'',Gs.le F' F''->f F''):xy ⟨w0,F0,bs,λF=>G F/\f F⟩ w' F':=by
 refine⟨Gs.le_trans h.le h2,λb hb=>?_,h4,h.ext.trans h1,λk hk=>?_,h.nd,λF'' hF=>⟨h.g F'' (Gs.le_trans h2 hF),h5 F'' hF⟩⟩
 ·rw[h3 b (fC hb h.ext.size)];exact h.old b hb
 ·obtain⟨g1,g2,g3⟩:=h.bx k hk
  have hlt:k.1<w.heap.size:=by
   rcases au k.1 w.heap.size with g | g
   ·exact g
   ·rw[ab g]at g1;cases g1
  exact⟨by rw[h1.block _ hlt];exact g1,g2,by rw[h3 _ hlt];exact g3⟩
theorem G4{d:Option Tmp}{args:Array Operand}{tys:Array TypeId}{ty:TypeId}{pos:String}{f:FuncId}{c1 c2:Array Value}(he:Enters P f)(hx:a.eval x = .func (.func f) c1 c2):
  (execOp a.eval ⟨d,.call ⟨.value x,args,tys⟩,ty,pos,aft,gd⟩).run P w = .ok (.enter f (c1++args.map a.eval++c2)) w:=by
 simp only[execOp,resolve,hx,Deferred.ofValue,ak,aF,aq,invoke]
 exact he _ w
section
variable{d:Nat}{ty:TypeId}{pos:String}{aft:Array Edge}{f:FuncId}{args:Array Operand}{tys:Array TypeId}{vs:List Value}{γ:Type}{val:γ->Value}{fact:γ->Gs->Prop}
theorem Gu{c1 c2:List Value}(hx:ev m x=some (.func (.func f) c1.toArray c2.toArray))(hv:MP m args.toList=some vs)(hc:∀w F,Fits F w->G F->QS P f (c1++vs++c2) w F val fact)
  (k:∀c,JS P ops Q l N ((d,val c)::m) ⟨w0,F0,bs,λF=>G F/\fact c F⟩) (hd:J5 N (some d)=true:=by rfl):JS P ops Q (⟨some d,.call ⟨.value x,args,tys⟩,ty,pos,aft,none⟩::l) N m ⟨w0,F0,bs,G⟩:=by
 intro a w ha hw
 obtain⟨F,hF⟩:=hw
 have hcg:=hc w F hF.fits hF.hG
 refine wpList_plain rfl λK hK=>?_
 unfold bK
 rw[G4 hcg.1 (ha.ev hx)]
 have e:c1.toArray++args.map a.eval++c2.toArray=(c1++vs++c2).toArray:=by
  have:=ha.MP hv
  have e2:args.map a.eval=vs.toArray:=by rw[<-this];apply bY ;simp
  rw[e2];apply bY;simp
 simp only[aL]
 rw[e]
 refine hcg.2.mono ?_
 rintro e w' ⟨c,F',rfl,h1,h2,h3,h4,h5⟩
 exact hK _ _ (k c _ w' (ha.put hd (val c)) ⟨F',hF.call h1 h2 h3 h4 h5⟩)
theorem QI(hv:MP m args.toList=some vs)(hc:∀w F,Fits F w->G F->QS P f vs w F val fact)
  (k:∀c,JS P ops Q l N ((d,val c)::m) ⟨w0,F0,bs,λF=>G F/\fact c F⟩) (hd:J5 N (some d)=true:=by rfl):JS P ops Q (⟨some d,.call ⟨.value (.func f),args,tys⟩,ty,pos,aft,none⟩::l) N m ⟨w0,F0,bs,G⟩ :=
 Gu (x:=.func f) (c1:=[]) (c2:=[]) I hv (by simpa using hc) k hd
theorem Lr{c1 c2:List Value}(hx:ev m x=some (.func (.func f) c1.toArray c2.toArray))(hv:MP m args.toList=some vs)(hc:∀w F,Fits F w->G F->QS P f (c1++vs++c2) w F val fact)
  (k:∀c,JD P ops Q E0 l N ((d,val c)::m) ⟨w0,F0,bs,λF=>G F/\fact c F⟩) (hd:J5 N (some d)=true:=by rfl):JD P ops Q E0 (⟨some d,.call ⟨.value x,args,tys⟩,ty,pos,aft,none⟩::l) N m ⟨w0,F0,bs,G⟩:=by
 intro hE a w ha hw
 obtain⟨F,hF⟩:=hw
 have hcg:=hc w F hF.fits hF.hG
 refine .inr ⟨rfl,?_⟩
 rw[if_pos (by simp[ao])]
 unfold bK
 rw[G4 hcg.1 (ha.ev hx)]
 have e:c1.toArray++args.map a.eval++c2.toArray=(c1++vs++c2).toArray:=by
  have:=ha.MP hv
  have e2:args.map a.eval=vs.toArray:=by rw[<-this];apply bY ;simp
  rw[e2];apply bY;simp
 simp only[aL]
 rw[e]
 refine hcg.2.mono ?_
 rintro e w' ⟨c,F',rfl,h1,h2,h3,h4,h5⟩
 have hS:St ⟨w0,F0,bs,λF=>G F/\fact c F⟩ w':=⟨F',hF.call h1 h2 h3 h4 h5⟩
 exact⟨hE w' (hS.BY λ_ h=>h.1),k c (λw h=>hE w (h.BY λ_ h=>h.1)) _ w' (ha.put hd (val c)) hS⟩
theorem QN(hv:MP m args.toList=some vs)(hc:∀w F,Fits F w->G F->QS P f vs w F val fact)
  (k:∀c,JD P ops Q E0 l N ((d,val c)::m) ⟨w0,F0,bs,λF=>G F/\fact c F⟩) (hd:J5 N (some d)=true:=by rfl):JD P ops Q E0 (⟨some d,.call ⟨.value (.func f),args,tys⟩,ty,pos,aft,none⟩::l) N m ⟨w0,F0,bs,G⟩ :=
 Lr (x:=.func f) (c1:=[]) (c2:=[]) I hv (by simpa using hc) k hd
end
end
end
section
variable[Dr][df:Df]{P:Program}{Q:Exit->Act->World->Prop}{ops:Array Oper}{l:List Oper}{N:Nat}{m:Sl}{E:Env}{d:Nat}{v:Value}{ty:TypeId}{pos:String}{aft:Array Edge}
theorem wE(h:ev m x=some v)(k:JS P ops Q l N ((d,v)::m) E)(hd:J5 N (some d)=true:=by rfl):JS P ops Q (⟨some d,.move x,ty,pos,aft,none⟩::l) N m E:=QA (QD h) k hd
theorem wF(h:ev m x=some v)(k:JS P ops Q l N ((d,v)::m) E)(hd:J5 N (some d)=true:=by rfl):JS P ops Q (⟨some d,.assign x,ty,pos,aft,none⟩::l) N m E:=QA (QF h) k hd
theorem wG{y:Code}(h:J P y Q N m E):JS P ops (Exit.then (y.wp P Q) Q) [] N m E:=QE (QC h)
theorem wI{y:Code}(h:JS P l.toArray (Exit.then (y.wp P Q) Q) l N m E):J P (.seq (.region id l.toArray false) y) Q N m E:=QG (QB h)
end
theorem wK{l:List α}:bJ l l:=eS l
theorem wM{p:Prop}[Decidable p](h:decide p=true):p:=of_decide_eq_true h
theorem wN{p:Prop}[Decidable p](h:decide p=false):¬p:=of_decide_eq_false h
theorem wH[Dr][df:Df]{P:Program}{Q:Exit->Act->World->Prop}{ops:Array Oper}{N:Nat}{m:Sl}{E:Env}{d:Nat}{v:Value}{ty:TypeId}{pos:String}{aft:Array Edge}{x:Operand}{y:Code}(h:ev m x=some v)(k:J P y Q N ((d,v)::m) E)(hd:J5 N (some d)=true:=by rfl):JS P ops (Exit.then (y.wp P Q) Q) [⟨some d,.assign x,ty,pos,aft,none⟩] N m E:=wF h (wG k) hd
theorem wJ[Dr][df:Df]{P:Program}{Q:Exit->Act->World->Prop}{l:List Oper}{N:Nat}{m:Sl}{E:Env}{d:Nat}{v:Value}{ty:TypeId}{pos:String}{aft:Array Edge}{x:Operand}{y:Code}{id:Nat}(h:ev m x=some v)(k:JS P (⟨some d,.move x,ty,pos,aft,none⟩::l).toArray (Exit.then (y.wp P Q) Q) l N ((d,v)::m) E)(hd:J5 N (some d)=true:=by rfl):J P (.seq (.region id (⟨some d,.move x,ty,pos,aft,none⟩::l).toArray false) y) Q N m E:=wI (wE h k hd)
theorem N1.h1{x0:Value}:N1 (x0::l) 0 [x0]:=.here (.nil)
theorem Kb.h1{x0 v0:Value}:Kb (x0::l) 0 [v0] (v0::l):=.here (.nil)
theorem N1.h2{x0 x1:Value}:N1 (x0::x1::l) 0 [x0,x1]:=.here (.here (.nil))
theorem Kb.h2{x0 x1 v0:Value}:Kb (x0::x1::l) 0 [v0,v1] (v0::v1::l):=.here (.here (.nil))
theorem N1.h3{x0 x1:Value}:N1 (x0::x1::x2::l) 0 [x0,x1,x2]:=.here (.here (.here (.nil)))
theorem Kb.h3{x0 x1 v0 v2:Value}:Kb (x0::x1::x2::l) 0 [v0,v1,v2] (v0::v1::v2::l):=.here (.here (.here (.nil)))
theorem N1.h4{x0 x1:Value}:N1 (x0::x1::x2::x3::l) 0 [x0,x1,x2,x3]:=.here (.here (.here (.here (.nil))))
theorem Kb.h4{x0 x1 v0 v2:Value}:Kb (x0::x1::x2::x3::l) 0 [v0,v1,v2,v3] (v0::v1::v2::v3::l):=.here (.here (.here (.here (.nil))))
theorem N1.h5{x0 x1:Value}:N1 (x0::x1::x2::x3::x4::l) 0 [x0,x1,x2,x3,x4]:=.here (.here (.here (.here (.here (.nil)))))
theorem Kb.h5{x0 x1 v0 v2:Value}:Kb (x0::x1::x2::x3::x4::l) 0 [v0,v1,v2,v3,v4] (v0::v1::v2::v3::v4::l):=.here (.here (.here (.here (.here (.nil)))))
theorem N1.h6{x0 x1:Value}:N1 (x0::x1::x2::x3::x4::x5::l) 0 [x0,x1,x2,x3,x4,x5]:=.here (.here (.here (.here (.here (.here (.nil))))))
theorem Kb.h6{x0 x1 v0 v2:Value}:Kb (x0::x1::x2::x3::x4::x5::l) 0 [v0,v1,v2,v3,v4,v5] (v0::v1::v2::v3::v4::v5::l):=.here (.here (.here (.here (.here (.here (.nil))))))
theorem N1.h7{x0 x1:Value}:N1 (x0::x1::x2::x3::x4::x5::x6::l) 0 [x0,x1,x2,x3,x4,x5,x6]:=.here (.here (.here (.here (.here (.here (.here (.nil)))))))
theorem Kb.h7{x0 x1 v0 v2 v6:Value}:Kb (x0::x1::x2::x3::x4::x5::x6::l) 0 [v0,v1,v2,v3,v4,v5,v6] (v0::v1::v2::v3::v4::v5::v6::l):=.here (.here (.here (.here (.here (.here (.here (.nil)))))))
theorem N1.h8{x0 x1:Value}:N1 (x0::x1::x2::x3::x4::x5::x6::x7::l) 0 [x0,x1,x2,x3,x4,x5,x6,x7]:=.here (.here (.here (.here (.here (.here (.here (.here (.nil))))))))
theorem Kb.h8{x0 x1 v0 v2 v6 v7:Value}:Kb (x0::x1::x2::x3::x4::x5::x6::x7::l) 0 [v0,v1,v2,v3,v4,v5,v6,v7] (v0::v1::v2::v3::v4::v5::v6::v7::l):=.here (.here (.here (.here (.here (.here (.here (.here (.nil))))))))
theorem N1.h9{x0 x1:Value}:N1 (x0::x1::x2::x3::x4::x5::x6::x7::x8::l) 0 [x0,x1,x2,x3,x4,x5,x6,x7,x8]:=.here (.here (.here (.here (.here (.here (.here (.here (.here (.nil)))))))))
theorem Kb.h9{x0 x1 v0 v2 v6 v7 v8:Value}:Kb (x0::x1::x2::x3::x4::x5::x6::x7::x8::l) 0 [v0,v1,v2,v3,v4,v5,v6,v7,v8] (v0::v1::v2::v3::v4::v5::v6::v7::v8::l):=.here (.here (.here (.here (.here (.here (.here (.here (.here (.nil)))))))))
theorem N1.h10{x0 x1 x9:Value}:N1 (x0::x1::x2::x3::x4::x5::x6::x7::x8::x9::l) 0 [x0,x1,x2,x3,x4,x5,x6,x7,x8,x9]:=.here (.here (.here (.here (.here (.here (.here (.here (.here (.here (.nil))))))))))
theorem Kb.h10{x0 x1 x9 v0 v2 v6 v7 v8 v9:Value}:Kb (x0::x1::x2::x3::x4::x5::x6::x7::x8::x9::l) 0 [v0,v1,v2,v3,v4,v5,v6,v7,v8,v9] (v0::v1::v2::v3::v4::v5::v6::v7::v8::v9::l):=.here (.here (.here (.here (.here (.here (.here (.here (.here (.here (.nil))))))))))
theorem N1.h11{x0 x1 x9 x10:Value}:N1 (x0::x1::x2::x3::x4::x5::x6::x7::x8::x9::x10::l) 0 [x0,x1,x2,x3,x4,x5,x6,x7,x8,x9,x10]:=.here (.here (.here (.here (.here (.here (.here (.here (.here (.here (.here (.nil)))))))))))
theorem Kb.h11{x0 x1 x9 x10 v0 v2 v6 v7 v8 v9 v10:Value}:Kb (x0::x1::x2::x3::x4::x5::x6::x7::x8::x9::x10::l) 0 [v0,v1,v2,v3,v4,v5,v6,v7,v8,v9,v10] (v0::v1::v2::v3::v4::v5::v6::v7::v8::v9::v10::l):=.here (.here (.here (.here (.here (.here (.here (.here (.here (.here (.here (.nil)))))))))))
theorem N1.h12{x0 x1 x9 x10 x11:Value}:N1 (x0::x1::x2::x3::x4::x5::x6::x7::x8::x9::x10::x11::l) 0 [x0,x1,x2,x3,x4,x5,x6,x7,x8,x9,x10,x11]:=.here (.here (.here (.here (.here (.here (.here (.here (.here (.here (.here (.here (.nil))))))))))))
theorem Kb.h12{x0 x1 x9 x10 x11 v0 v2 v6 v7 v8 v9 v10 v11:Value}:Kb (x0::x1::x2::x3::x4::x5::x6::x7::x8::x9::x10::x11::l) 0 [v0,v1,v2,v3,v4,v5,v6,v7,v8,v9,v10,v11] (v0::v1::v2::v3::v4::v5::v6::v7::v8::v9::v10::v11::l):=.here (.here (.here (.here (.here (.here (.here (.here (.here (.here (.here (.here (.nil))))))))))))
theorem Own.u1{x0:Nat×Obj}{r:List (Nat×Obj)}:Own (x0::(b,o)::r) b o (λo'=>x0::(b,o')::r):=.there (.here)
theorem CR.u1{x0:Nat×Obj}{r:List (Nat×Obj)}:CR (x0::(b,o)::r) b o (x0::r):=.there (.here)
theorem Own.u2{x0:Nat×Obj}{r:List (Nat×Obj)}:Own (x0::x1::(b,o)::r) b o (λo'=>x0::x1::(b,o')::r):=.there (.there (.here))
theorem CR.u2{x0:Nat×Obj}{r:List (Nat×Obj)}:CR (x0::x1::(b,o)::r) b o (x0::x1::r):=.there (.there (.here))
theorem Own.u3{x0 x2:Nat×Obj}{r:List (Nat×Obj)}:Own (x0::x1::x2::(b,o)::r) b o (λo'=>x0::x1::x2::(b,o')::r):=.there (.there (.there (.here)))
theorem CR.u3{x0 x2:Nat×Obj}{r:List (Nat×Obj)}:CR (x0::x1::x2::(b,o)::r) b o (x0::x1::x2::r):=.there (.there (.there (.here)))
theorem Own.u4{x0 x2 x3:Nat×Obj}{r:List (Nat×Obj)}:Own (x0::x1::x2::x3::(b,o)::r) b o (λo'=>x0::x1::x2::x3::(b,o')::r):=.there (.there (.there (.there (.here))))
theorem CR.u4{x0 x2 x3:Nat×Obj}{r:List (Nat×Obj)}:CR (x0::x1::x2::x3::(b,o)::r) b o (x0::x1::x2::x3::r):=.there (.there (.there (.there (.here))))
theorem Own.u5{x0 x2 x3 x4:Nat×Obj}{r:List (Nat×Obj)}:Own (x0::x1::x2::x3::x4::(b,o)::r) b o (λo'=>x0::x1::x2::x3::x4::(b,o')::r):=.there (.there (.there (.there (.there (.here)))))
theorem CR.u5{x0 x2 x3 x4:Nat×Obj}{r:List (Nat×Obj)}:CR (x0::x1::x2::x3::x4::(b,o)::r) b o (x0::x1::x2::x3::x4::r):=.there (.there (.there (.there (.there (.here)))))
theorem Own.u6{x0 x2 x3 x4 x5:Nat×Obj}{r:List (Nat×Obj)}:Own (x0::x1::x2::x3::x4::x5::(b,o)::r) b o (λo'=>x0::x1::x2::x3::x4::x5::(b,o')::r):=.there (.there (.there (.there (.there (.there (.here))))))
theorem CR.u6{x0 x2 x3 x4 x5:Nat×Obj}{r:List (Nat×Obj)}:CR (x0::x1::x2::x3::x4::x5::(b,o)::r) b o (x0::x1::x2::x3::x4::x5::r):=.there (.there (.there (.there (.there (.there (.here))))))
theorem wO{a0:A0}:a0=a0/\True:=⟨rfl,trivial⟩
theorem wP{a0:A0}{a1:A1}:a0=a0/\a1=a1/\True:=⟨rfl,rfl,trivial⟩
theorem wQ{a0:A0}{a1:A1}{a2:A2}:a0=a0/\a1=a1/\a2=a2/\True:=⟨rfl,rfl,rfl,trivial⟩
theorem wR{a0:A0}{a1:A1}{a2:A2}{a3:A3}:a0=a0/\a1=a1/\a2=a2/\a3=a3/\True:=⟨rfl,rfl,rfl,rfl,trivial⟩
theorem wS{a0:A0}{a1:A1}{a2:A2}{a3:A3}{a4:A4}:a0=a0/\a1=a1/\a2=a2/\a3=a3/\a4=a4/\True:=⟨rfl,rfl,rfl,rfl,rfl,trivial⟩
theorem wT{a0:A0}{a1:A1}{a2:A2}{a3:A3}{a4:A4}{a5:A5}:a0=a0/\a1=a1/\a2=a2/\a3=a3/\a4=a4/\a5=a5/\True:=⟨rfl,rfl,rfl,rfl,rfl,rfl,trivial⟩
theorem wU{a0:A0}{a1:A1}{a2:A2}{a3:A3}{a4:A4}{a5:A5}{a6:A6}:a0=a0/\a1=a1/\a2=a2/\a3=a3/\a4=a4/\a5=a5/\a6=a6/\True:=⟨rfl,rfl,rfl,rfl,rfl,rfl,rfl,trivial⟩
theorem wV{a0:A0}{a1:A1}{a2:A2}{a3:A3}{a4:A4}{a5:A5}{a6:A6}{a7:A7}:a0=a0/\a1=a1/\a2=a2/\a3=a3/\a4=a4/\a5=a5/\a6=a6/\a7=a7/\True:=⟨rfl,rfl,rfl,rfl,rfl,rfl,rfl,rfl,trivial⟩
theorem wW{a0:A0}{a1:A1}{a2:A2}{a3:A3}{a4:A4}{a5:A5}{a6:A6}{a7:A7}{a8:A8}:a0=a0/\a1=a1/\a2=a2/\a3=a3/\a4=a4/\a5=a5/\a6=a6/\a7=a7/\a8=a8/\True:=⟨rfl,rfl,rfl,rfl,rfl,rfl,rfl,rfl,rfl,trivial⟩
theorem wX{a0:A0}{a1:A1}{a2:A2}{a3:A3}{a4:A4}{a5:A5}{a6:A6}{a7:A7}{a8:A8}{a9:A9}:a0=a0/\a1=a1/\a2=a2/\a3=a3/\a4=a4/\a5=a5/\a6=a6/\a7=a7/\a8=a8/\a9=a9/\True:=⟨rfl,rfl,rfl,rfl,rfl,rfl,rfl,rfl,rfl,rfl,trivial⟩
theorem wY{a0:A0}{a1:A1}{a2:A2}{a3:A3}{a4:A4}{a5:A5}{a6:A6}{a7:A7}{a8:A8}{a9:A9}{A10:Type}{a10:A10}:a0=a0/\a1=a1/\a2=a2/\a3=a3/\a4=a4/\a5=a5/\a6=a6/\a7=a7/\a8=a8/\a9=a9/\a10=a10/\True:=⟨rfl,rfl,rfl,rfl,rfl,rfl,rfl,rfl,rfl,rfl,rfl,trivial⟩
theorem wZ{a0:A0}{a1:A1}{a2:A2}{a3:A3}{a4:A4}{a5:A5}{a6:A6}{a7:A7}{a8:A8}{a9:A9}{A10:Type}{a10:A10}{A11:Type}{a11:A11}:a0=a0/\a1=a1/\a2=a2/\a3=a3/\a4=a4/\a5=a5/\a6=a6/\a7=a7/\a8=a8/\a9=a9/\a10=a10/\a11=a11/\True:=⟨rfl,rfl,rfl,rfl,rfl,rfl,rfl,rfl,rfl,rfl,rfl,rfl,trivial⟩
section
variable[Dr][df:Df]
section
variable{P:Program}{Q:Exit->Act->World->Prop}{N:Nat}{m:Sl}{E E0:Env}{ops:Array Oper}{l:List Oper}{w0:World}{F0:Gs}{bs:List (Nat×Obj)}{G:Gs->Prop}
theorem St.pure{p:Prop}(h:St ⟨w0,F0,bs,G⟩ w)(hp:∀w F,Fits F w->G F->p):p:=by
 obtain⟨F,h⟩:=h;exact hp w F h.fits h.hG
theorem XQ{c:Code}(p:Prop)(hp:∀w F,Fits F w->G F->p)(k:p->J P c Q N m ⟨w0,F0,bs,G⟩):J P c Q N m ⟨w0,F0,bs,G⟩:=λa w ha hw=>k (hw.pure hp) a w ha hw
theorem JQ(p:Prop)(hp:∀w F,Fits F w->G F->p)(k:p->JS P ops Q l N m ⟨w0,F0,bs,G⟩):JS P ops Q l N m ⟨w0,F0,bs,G⟩:=λa w ha hw=>k (hw.pure hp) a w ha hw
theorem Y5(p:Prop)(hp:∀w F,Fits F w->G F->p)(k:p->JD P ops Q E0 l N m ⟨w0,F0,bs,G⟩):JD P ops Q E0 l N m ⟨w0,F0,bs,G⟩:=λhE a w ha hw=>k (hw.pure hp) hE a w ha hw
theorem QCV{e:Exit}(p:Prop)(hp:∀w F,Fits F w->G F->p)(k:p->Fin Q e N m ⟨w0,F0,bs,G⟩):Fin Q e N m ⟨w0,F0,bs,G⟩:=λa w ha hw=>k (hw.pure hp) a w ha hw
theorem QIg(hg:∀F,G F->G' F)(k:JS P ops Q l N m ⟨w0,F0,bs,G'⟩):JS P ops Q l N m ⟨w0,F0,bs,G⟩:=λa w ha hw=>k a w ha (hw.BY hg)
def XC(P:Program)(T:TypeId):Option (List Value):=match P.info? T with
 |some i=>i.zero.map λv=>v.cells.toList
 |none=>none
theorem Fz(h:XC P T=some z)(w:World):∃v,(zeroValue T).run P w = .ok v w/\v.cells=z.toArray:=by
 unfold XC at h
 split at h
 ·rename_i i hi
  cases hz:i.zero with
  |none=>rw[hz]at h;cases h
  |some v =>
   rw[hz]at h
   simp only[aP,ai]at h
   exact⟨v,by simp[zeroValue,typeInfo,hi,hz],by rw[<-h]⟩
 ·cases h
def Gg(T:TypeId):Bool:=!(ba T 297)
theorem ZB(h:Gg T=true){c:Array Value}{fr:Nat×Nat}:∀c' fr',Obj.cells c T fr≠.cells c' 297 fr':=by
 intro c' fr' e
 injection e with _ h2 _
 subst h2;simp[Gg]at h
section
variable{d:Nat}{ty:TypeId}{pos:String}{aft:Array Edge}
theorem upon_value{o:Oper}{v:Value}(h:(execOp a.eval o).run P w = .ok (.value v) w')(k:K (a.put o.dst v) w'):o.wp P a w K Q:=by
 unfold bK;rw[h];exact k
theorem upon_skip{o:Oper}(h:(execOp a.eval o).run P w = .ok .skip w')(k:K (a.put o.dst undef) w'):o.wp P a w K Q:=by
 unfold bK;rw[h];exact k
theorem NT{g:Option (Nat×Bool)}(hz:XC P T=some z):
  (execOp a.eval ⟨some d,.alloc T,ty,pos,aft,g⟩).run P w = .ok (.value (.pointer (some ⟨w.heap.size,0,none⟩))) (w.alloc (.cells z.toArray T)):=by
 obtain⟨v,h1,h2⟩:=Fz hz w
 simp only[execOp,Instr.alloc,ak,h1,aq,aF,newVar,newRow,run_newObj,h2]
 rfl
theorem Qb(hz:XC P T=some z)(k:∀b,JS P ops Q l N ((d,.pointer (some ⟨b,0,none⟩))::m) ⟨w0,F0,(b,.cells z.toArray T (0,0))::bs,G⟩)(hu:Gg T=true:=by rfl)(hd:J5 N (some d)=true:=by rfl):
  JS P ops Q (⟨some d,.alloc T,ty,pos,aft,none⟩::l) N m ⟨w0,F0,bs,G⟩:=λa w ha hw =>
 wpList_plain rfl λ_ hK=>upon_value (NT hz) (hK _ _ (k _ _ _ (ha.put hd _) (hw.alloc _ (ZB hu))))
theorem Tl{v:Value}{g:Option (Nat×Bool)}(hx:a.eval x=v):
  (execOp a.eval ⟨some d,.box T x,ty,pos,aft,g⟩).run P w = .ok (.value (.pointer (some ⟨w.heap.size,0,none⟩))) (w.alloc (.cells v.cells T)):=by
 subst hx
 simp only[execOp,Instr.box,ak,aq,aF,newVar,newRow,run_newObj]
 rfl
theorem Qo{vs:List Value}{v:Value}(hx:ev m x=some v)(hv:v.cells=vs.toArray)(k:∀b,JS P ops Q l N ((d,.pointer (some ⟨b,0,none⟩))::m) ⟨w0,F0,(b,.cells vs.toArray T (0,0))::bs,G⟩)(hu:Gg T=true:=by rfl)(hd:J5 N (some d)=true:=by rfl):
  JS P ops Q (⟨some d,.box T x,ty,pos,aft,none⟩::l) N m ⟨w0,F0,bs,G⟩:=λa w ha hw =>
 wpList_plain rfl λ_ hK=>upon_value (Tl (ha.ev hx)) (hK _ _ (k _ _ _ (ha.put hd _) (hv ▸ hw.alloc _ (ZB hu))))
theorem QGz{vs:List Value}{v:Value}(hx:ev m x=some v)(hv:v.cells=vs.toArray)(k:∀b,JD P ops Q E0 l N ((d,.pointer (some ⟨b,0,none⟩))::m) ⟨w0,F0,(b,.cells vs.toArray T (0,0))::bs,G⟩)(hu:Gg T=true:=by rfl)(hd:J5 N (some d)=true:=by rfl):
  JD P ops Q E0 (⟨some d,.box T x,ty,pos,aft,none⟩::l) N m ⟨w0,F0,bs,G⟩:=λhE a w ha hw=>by
 have hS:=hw.alloc (.cells vs.toArray T (0,0)) (ZB hu)
 have sub:∀w' b,St ⟨w0,F0,(b,.cells vs.toArray T (0,0))::bs,G⟩ w'->St E0 w':=λw' b h=>hE w' (h.imp (bZ _ _) λ_ h=>h)
 refine .inr ⟨rfl,?_⟩
 rw[if_pos (by simp[ao])]
 exact upon_value (Tl (ha.ev hx)) (by rw[hv];exact⟨sub _ _ hS,k _ (λw' h=>sub w' _ h) _ _ (ha.put hd _) hS⟩)
theorem Rj{e:TypeId}{sz:Nat}{parts:Array (Nat×Value)}{cs:Array Value}(ht:P.underlying t=some (.slice e))(hs:YW P e=some (g,sz))(hz:XC P e=some z)(h24:n*sz<=2^24)(hn:n*sz≠0)
  (hf:bX (λi=>some (i*sz,sz)) ((fb (n*sz)).map (λi=>z.toArray[i%z.toArray.size]!)) parts.toList=some cs) :
  (fI t n parts).run P w = .ok (.slice (some ⟨w.heap.size,0,none⟩) n n) (w.alloc (.cells cs e)):=by
 obtain⟨v,h1,h2⟩:=Fz hz w
 have h3:¬n*sz>2^24:=O
 simp only[fI,ak,run_underlying ht,aq,VX hs,if_neg h3,aF,if_neg hn,h1,h2,hf,newRow,run_newObj]
 rfl
def GR(m:Sl):List (Nat×Operand)->Option (List (Nat×Value))
 |[]=>some []
 |(i,x)::r=>match ev m x,GR m r with
  |some v,some l=>some ((i,v)::l)
  |_,_=>none
theorem JP.parts(h:JP N m a):∀ {l:List (Nat×Operand)} {vs:List (Nat×Value)},GR m l=some vs->l.map (λ(i,x)=>(i,a.eval x))=vs
 |[],vs,e=>by simpa[GR]using e
 |(i,x)::l,vs,e=>by
  unfold GR at e
  cases hx:YtjcphjpkimmmjaaGreatDoor.ev m x with
  |none=>rw[hx]at e;simp at e
  |some v =>
   cases hl:GR m l with
   |none=>rw[hx,hl]at e;simp at e
   |some r =>
    rw[hx,hl]at e
    simp only[ai]at e
    subst e
    rw[bR,h.parts hl]
    show(i,a.eval x)::r=_
    rw[h.ev hx]
def K2(sz:Nat):Nat->List (Nat×Value)->Option (List Value)
 |_,[]=>some []
 |k,(i,v)::r=>if i=k/\v.cells.size=sz then(K2 sz (k+1) r).map (v.cells.toList++·)else none
theorem DZ{sz:Nat}:∀(parts:List (Nat×Value)) (k:Nat) (cs:List Value) (cur:Array Value),K2 sz k parts=some cs->k*sz+cs.length=cur.size ->
  bX (λi=>some (i*sz,sz)) cur parts=some (cur.toList.take (k*sz)++cs).toArray
 |[],k,cs,cur,h,hl=>by
  simp only[K2,ai]at h
  subst h
  simp only[List.length_nil,eZ]at hl
  simp[bX,ae,hl]
 |(i,v)::r,k,cs,cur,h,hl=>by
  simp only[K2]at h
  split at h
  ·rename_i hk
   obtain⟨rfl,hv⟩:=hk
   cases hr:K2 sz (i+1) r with
   |none=>rw[hr]at h;cases h
   |some cs' =>
    rw[hr]at h
    simp only[aP,ai]at h
    subst h
    have hlen:v.cells.toList.length=sz:=by simpa using hv
    rw[aG,hlen]at hl
    have hmul:(i+1)*sz=i*sz+sz:=by rw[aD,iS]
    unfold bX
    simp only[hv,ne_eq,not_true_eq_false,il,decide_false,decide_eq_true_eq]
    rw[if_neg O]
    have hfold:∀(l:List Value) (j:Nat) (c:Array Value),i*sz+j+l.length<=c.size ->
      ((l.zipIdx j).foldl (λcs (x:Value×Nat)=>cs.setIfInBounds (i*sz+x.2) x.1) c)=(c.toList.take (i*sz+j)++l++c.toList.drop (i*sz+j+l.length)).toArray:=by
     intro l
     induction l with
     |nil=>intro j c hc;simp
     |cons x l ih =>
      intro j c hc
      simp only[fL,eG,aN]at hc ⊢
      rw[ih (j+1) _ wg]
      congr 1
      apply List.ext_getElem?
      intro q
      simp only[Array.toList_setIfInBounds,ek,aG,aj,List.length_set,Array.length_toList,aN]
      by_cases h1:q<i*sz+j
      ·have e1:min (i*sz+(j+1)) c.size=i*sz+j+1:=O
       have e2:min (i*sz+j) c.size=i*sz+j:=O
       have e3:q<i*sz+j+1+l.length:=O
       have e4:q<i*sz+j+(l.length+1):=O
       have e5:q<i*sz+j+1:=O
       simp only[e1,e2,h1,e3,e4,e5,if_true]
       simp[show q<i*sz+(j+1) by omega,h1,show i*sz+j≠q by omega]
      ·by_cases h2:q=i*sz+j
       ·subst h2
        have e1:min (i*sz+(j+1)) c.size=i*sz+j+1:=O
        have e2:min (i*sz+j) c.size=i*sz+j:=O
        have hlt:i*sz+j<c.toList.length:=wg
        simp only[e1,e2,Nat.lt_irrefl,if_false,ea]
        simp[show i*sz+j<i*sz+j+1+l.length by omega,show i*sz+j<i*sz+j+1 by omega,show i*sz+j<c.size by omega]
       ·have e1:min (i*sz+(j+1)) c.size=i*sz+j+1:=O
        have e2:min (i*sz+j) c.size=i*sz+j:=O
        have g1:¬q<i*sz+j+1:=O
        simp only[e1,e2,h1,g1,if_false]
        by_cases h3:q<i*sz+j+1+l.length
        ·simp only[h3,if_true,show q<i*sz+j+(l.length+1) by omega]
         rw[show q - (i*sz+j)=(q - (i*sz+j+1))+1 by omega,List.getElem?_cons_succ]
        ·simp only[h3,if_false,show ¬q<i*sz+j+(l.length+1) by omega]
         rw[bN,bN,List.getElem?_set_ne O]
         congr 1;omega
    have e:=hfold v.cells.toList 0 cur (by rw[hlen];omega)
    have e0:v.cells.zipIdx.foldl (λcs (x:Value×Nat)=>cs.setIfInBounds (i*sz+x.2) x.1) cur=(v.cells.toList.zipIdx 0).foldl (λcs (x:Value×Nat)=>cs.setIfInBounds (i*sz+x.2) x.1) cur:=by
     rw[<-eu];simp
    rw[e0,e]
    have:=DZ r (i+1) cs' (cur.toList.take (i*sz+0)++v.cells.toList++cur.toList.drop (i*sz+0+v.cells.toList.length)).toArray hr (by simp[hv];omega)
    rw[this]
    congr 2
    rw[<-bp]
    congr 1
    have hl2:(cur.toList.take (i*sz)++v.cells.toList).length=(i+1)*sz:=by simp[hv];omega
    simp only[eZ]
    rw[List.take_append_of_le_length (by rw[hl2];exact av _),<-hl2,bA]
  ·cases h
theorem VK{e:TypeId}{sz:Nat}{parts:Array (Nat×Operand)}(ha:JP N m a)(hp:GR m parts.toList=some ps)(ht:P.underlying t=some (.slice e))(hs:YW P e=some (g,sz))(hz:XC P e=some z)
  (hc:K2 sz 0 ps=some cs) (hl:cs.length=n*sz) (h24:iL (n*sz) 16777216=true) (hn:ba (n*sz) 0=false) :
  (execOp a.eval ⟨some d,.buildSlice t n parts,ty,pos,aft,gd⟩).run P w = .ok (.value (.slice (some ⟨w.heap.size,0,none⟩) n n)) (w.alloc (.cells cs.toArray e)):=by
 have e1:(parts.map λ(i,x)=>(i,a.eval x)).toList=ps:=by simpa using ha.parts hp
 have hf:=DZ ps 0 cs ((fb (n*sz)).map (λi=>z.toArray[i%z.toArray.size]!)) hc (by simp[hl])
 have:=Rj (P:=P) (w:=w) (n:=n) (parts:=parts.map λ(i,x)=>(i,a.eval x)) ht hs hz (by have:=fe h24;omega) (λe=>by rw[e]at hn;cases hn) (by rw[e1];exact hf)
 simp only[Nat.zero_mul,fZ,eb]at this
 simp only[execOp,ak,this,aq,aF]
theorem VW{e:TypeId}{sz:Nat}{parts:Array (Nat×Operand)}(hp:GR m parts.toList=some ps)(ht:P.underlying t=some (.slice e))(hs:YW P e=some (g,sz))(hz:XC P e=some z)
  (hc:K2 sz 0 ps=some cs) (hl:cs.length=n*sz) (k:∀b,JS P ops Q l N ((d,.slice (some ⟨b,0,none⟩) n n)::m) ⟨w0,F0,(b,.cells cs.toArray e (0,0))::bs,G⟩) (h24:iL (n*sz) 16777216=true:=by rfl) (hn:ba (n*sz) 0=false:=by rfl)
  (hu:Gg e=true:=by rfl) (hd:J5 N (some d)=true:=by rfl):JS P ops Q (⟨some d,.buildSlice t n parts,ty,pos,aft,none⟩::l) N m ⟨w0,F0,bs,G⟩:=λa w ha hw =>
 wpList_plain rfl λ_ hK=>upon_value (VK ha hp ht hs hz hc hl h24 hn) (hK _ _ (k _ _ _ (ha.put hd _) (hw.alloc _ (ZB hu))))
end
section
variable{d:Option Tmp}{ty:TypeId}{pos:String}{aft:Array Edge}
theorem QBH(w:World)(b:Nat)(c c':Array Value)(T:TypeId)(fr:Nat×Nat)(h:w.heap[b]?=some (.cells c T fr)):(w.setRow b c').heap=w.heap.setIfInBounds b (.cells c' T fr):=by
 apply bM
 intro i
 by_cases e:i=b
 ·subst e
  rw[setRow_heap w i c c' T fr h]
  have hlt:i<w.heap.size:=by rcases au i w.heap.size with g | g;exact g;rw[ab g]at h;cases h
  simp[hlt]
 ·rw[az (eE e)]
  simp[World.setRow,aH,eE e]
theorem run_storeCells_at(g:Nat)(t:TypeId):∀(vs:List Value) (i:Nat) (off:Nat) (cur l':List Value) (w:World),w.heap[g]?=some (.cells cur.toArray t (0,0))->(∀v∈vs,v.oneCell'=true)->Kb cur (off+i) vs l' ->
  ∃w',(storeCells ⟨g,off,none⟩ vs i).run P w = .ok () w'/\w'.heap=w.heap.setIfInBounds g (.cells l'.toArray t (0,0))/\w'.os=w.os/\w'.tape=w.tape/\w'.output=w.output/\w'.drawn=w.drawn
 |[],i,off,cur,l',w,hg,_,hp=>by
  have hlt:g<w.heap.size:=by rcases au g w.heap.size with h | h;exact h;rw[ab h]at hg;cases hg
  have e:l'=cur:=by have:=hp.eq;simpa using this
  subst e
  refine⟨w,rfl,?_,rfl,rfl,rfl,rfl⟩
  apply bM
  intro k
  by_cases e:k=g
  ·subst e;rw[hg];simp[hlt]
  ·rw[az (eE e)]
 |v::vs,i,off,cur,l',w,hg,h1,hp=>by
  have hle:=hp.le
  simp only[aN]at hle
  have hadd:(⟨g,off,none⟩:Addr).add i=⟨g,off+i,none⟩:=by unfold fi;split<;>simp_all
  have hlt:g<w.heap.size:=by rcases au g w.heap.size with h | h;exact h;rw[ab h]at hg;cases hg
  have hcell:w.cell? ⟨g,off+i,none⟩=some (cur[off+i]' O):=by simp[ef,hg,show off+i<cur.length by omega]
  have hfro:w.frozen? ⟨g,off+i,none⟩=false:=by simp[eV,hg]
  have hst:(store ((⟨g,off,none⟩:Addr).add i) v).run P w = .ok () (w.setCell ⟨g,off+i,none⟩ v):=by
   rw[hadd,run_store P w _ v _ (h1 v we),hcell];simp[hfro]
  have hheap:(w.setCell ⟨g,off+i,none⟩ v).heap=w.heap.setIfInBounds g (.cells (cur.set (off+i) v).toArray t (0,0)):=by
   apply bM
   intro k
   by_cases e:k=g
   ·subst e
    show(w.heap.modify k _)[k]?=_
    rw[aH,if_pos rfl,hg];simp[hlt]
   ·rw[az (eE e)];simp[bP,aH,eE e]
  have hp2:Kb (cur.set (off+i) v) (off+(i+1)) vs l':=by
   have key:∀(n:Nat) (cur l':List Value),Kb cur n (v::vs) l'->Kb (cur.set n v) (n+1) vs l':=by
    intro n
    induction n with
    |zero=>intro cur l' h;cases h with | here h=>exact .skip h
    |succ n ih=>intro cur l' h;cases h with | skip h=>exact .skip (ih _ _ h)
   exact key _ _ _ hp
  obtain⟨w',h2,h3,h4,h5,h6⟩:=run_storeCells_at g t vs (i+1) off (cur.set (off+i) v) l' (w.setCell ⟨g,off+i,none⟩ v) (by rw[hheap];simp[hlt]) (λx hx=>h1 x (by simp[hx])) hp2
  refine⟨w',?_,?_,h4,h5,h6⟩
  ·simp only[storeCells,ak,hst,aq,h2]
  ·rw[h3,hheap];simp
theorem NS{v:Value}{vs:List Value}(hx:a.eval x = .pointer (some ⟨b,off,none⟩))(hy:a.eval y=v)(hv:v.cells=vs.toArray)(ht:YW P T=some (g,n))(hn:vs.length=n)
  (hb:w.heap[b]?=some (.cells c.toArray T' (0,0))) (hp:Kb c off vs l') (h1:∀v∈vs,v.oneCell'=true) :
  ∃w',(execOp a.eval ⟨d,.store T x y,ty,pos,aft,gd⟩).run P w = .ok .skip w'/\w'.heap=w.heap.setIfInBounds b (.cells l'.toArray T' (0,0))/\w'.os=w.os/\w'.tape=w.tape/\w'.output=w.output/\w'.drawn=w.drawn:=by
 obtain⟨w',h2,h3⟩:=run_storeCells_at (P:=P) b T' vs 0 off c l' w hb h1 hp
 refine⟨w',?_,h3⟩
 subst hn
 simp[execOp,hx,hy,Instr.storeAt,aM,storeVar,hv,VX ht,h2]
def R3:List Value->Prop
 |[]=>True
 |v::r=>v.oneCell'=true/\R3 r
theorem Yc:∀ {l:List Value},R3 l->∀v∈l,v.oneCell'=true
 |v::l,⟨h1,h2⟩,u,hu=>by
  rcases List.mem_cons.1 hu with rfl | hu
  ·exact h1
  ·exact Yc h2 u hu
theorem QO{v:Value}{vs:List Value}(hx:ev m x=some (.pointer (some ⟨b,off,none⟩)))(hy:ev m y=some v)(hv:v.cells=vs.toArray)(ht:YW P T=some (g,n))(hn:vs.length=n)
  (ho:Own bs b (.cells c.toArray T' (0,0)) f) (hp:Kb c off vs l') (h1:R3 vs) (k:JS P ops Q l N m ⟨w0,F0,f (.cells l'.toArray T' (0,0)),G⟩) (hu:Gg T'=true:=by rfl):JS P ops Q (⟨none,.store T x y,ty,pos,aft,none⟩::l) N m ⟨w0,F0,bs,G⟩:=λa w ha hw =>
 wpList_plain rfl λ_ hK=>by
  obtain⟨w',h2,h3⟩:=NS (P:=P) (d:=none) (ty:=ty) (pos:=pos) (aft:=aft) (gd:=none) (ha.ev hx) (ha.ev hy) hv ht hn (hw.own ho) hp (Yc h1)
  obtain⟨pre,post,e1,e2⟩:=ho.split
  subst e1
  rw[e2]at k
  exact upon_skip h2 (hK _ _ (k _ _ ha (hw.write pre h3 (ZB hu))))
end
inductive H4:List (Nat×Obj)->Nat->Obj->(Obj->List (Nat×Obj))->List (Nat×Obj)->Prop
 |here {b:Nat} {o:Obj} {r:List (Nat×Obj)}:H4 ((b,o)::r) b o (λo'=>(b,o')::r) r
 |there {x:Nat×Obj} {l r:List (Nat×Obj)} {b:Nat} {o:Obj} {f:Obj->List (Nat×Obj)}:H4 l b o f r->H4 (x::l) b o (λo'=>x::f o') (x::r)
theorem H4.own{l r:List (Nat×Obj)}(h:H4 l b o f r):Own l b o f:=by
 induction h with
 |here=>exact .here
 |there h ih=>exact .there ih
theorem H4.sub{l r:List (Nat×Obj)}(h:H4 l b o f r):∀o',r.Sublist (f o'):=by
 induction h with
 |here=>exact λ_=>bZ _ _
 |there h ih=>exact λo'=>(ih o').cons_cons _
theorem JV{pos:String}{ty:TypeId}{v:Value}{vs:List Value}(hx:ev m x=some (.pointer (some ⟨b,off,none⟩)))(hy:ev m y=some v)(hv:v.cells=vs.toArray)(ht:YW P T=some (g,n))(hn:vs.length=n)
  (ho:H4 bs b (.cells c.toArray T' (0,0)) f bs') (hs:bs0.Sublist bs') (hg0:∀F,G F->G0 F) (hp:Kb c off vs l') (h1:R3 vs) (k:JD P ops Q ⟨w0,F0,bs0,G0⟩ l N m ⟨w0,F0,f (.cells l'.toArray T' (0,0)),G⟩) (hu:Gg T'=true:=by rfl):JD P ops Q ⟨w0,F0,bs0,G0⟩ (⟨none,.store T x y,ty,pos,aft,none⟩::l) N m ⟨w0,F0,bs,G⟩:=λ_ a w ha hw=>by
  obtain⟨w',h2,h3⟩:=NS (P:=P) (d:=none) (ty:=ty) (pos:=pos) (aft:=aft) (gd:=none) (ha.ev hx) (ha.ev hy) hv ht hn (hw.own ho.own) hp (Yc h1)
  have sub:∀o' w,St ⟨w0,F0,f o',G⟩ w->St ⟨w0,F0,bs0,G0⟩ w:=λo' w h=>h.imp (hs.trans (ho.sub o')) hg0
  obtain⟨pre,post,e1,e2⟩:=ho.own.split
  subst e1
  have hS:St ⟨w0,F0,f (.cells l'.toArray T' (0,0)),G⟩ w':=by rw[e2];exact hw.write pre h3 (ZB hu)
  refine .inr ⟨rfl,?_⟩
  rw[if_pos (by simp[ao])]
  exact upon_skip h2 ⟨sub _ _ hS,k (sub _) _ _ ha hS⟩
theorem JO{l:List Oper}(hb0:bs0.Sublist bs)(hm:P.follows .mixedOrders=true)(hB:lexB .any l=true)(h:JD P l.toArray (X9 (Q .normal)) ⟨w0,F0,bs0,G⟩ l N m ⟨w0,F0,bs,G⟩):J P (.region id l.toArray true) Q N m ⟨w0,F0,bs,G⟩ :=
 λa w ha hw=>TD hm hB (hw.drew.imp hb0 λ_ h=>h) (h (λ_ h=>h.imp hb0 λ_ h=>h) a _ ha hw.drew)
theorem Jt{l:List Oper}(n:Nat)(hb0:bs0.Sublist bs)(hm:P.follows .mixedOrders=true)(hB:Dl l n=true)(hB2:lexB .any (l.take n)=true)
  (h:JD P (l.take n).toArray (X9 (λa w=>wpList P l.toArray Q (l.drop n) a w)) ⟨w0,F0,bs0,G⟩ (l.take n) N m ⟨w0,F0,bs,G⟩):J P (.region id l.toArray true) Q N m ⟨w0,F0,bs,G⟩ :=
 λa w ha hw=>DJ n hm hB hB2 (hw.drew.imp hb0 λ_ h=>h) (h (λ_ h=>h.imp hb0 λ_ h=>h) a _ ha hw.drew)
theorem MK{c:Code}{cs:Array Value}(hr:CR bs b (.cells cs T fr) bs')(k:J P c Q N m ⟨w0,F0,bs',λF=>G F/\F b=some (cs,T)⟩):J P c Q N m ⟨w0,F0,bs,G⟩:=λa w ha hw=>by
 obtain⟨pre,post,rfl,rfl⟩:=hr.split;exact k a w ha (hw.freeze pre)
theorem VR{cs:Array Value}(hr:CR bs b (.cells cs T fr) bs')(k:JS P ops Q l N m ⟨w0,F0,bs',λF=>G F/\F b=some (cs,T)⟩):JS P ops Q l N m ⟨w0,F0,bs,G⟩:=λa w ha hw=>by
 obtain⟨pre,post,rfl,rfl⟩:=hr.split;exact k a w ha (hw.freeze pre)
theorem QFI{e:Exit}{cs:Array Value}(hr:CR bs b (.cells cs T fr) bs')(k:Fin Q e N m ⟨w0,F0,bs',λF=>G F/\F b=some (cs,T)⟩):Fin Q e N m ⟨w0,F0,bs,G⟩:=λa w ha hw=>by
 obtain⟨pre,post,rfl,rfl⟩:=hr.split;exact k a w ha (hw.freeze pre)
theorem QDY{cs:Array Value}(hr:CR bs b (.cells cs T fr) bs')(hs:bs0.Sublist bs')(hg:∀F,G F->G0 F)(k:JD P ops Q ⟨w0,F0,bs0,G0⟩ l N m ⟨w0,F0,bs',λF=>G F/\F b=some (cs,T)⟩):JD P ops Q ⟨w0,F0,bs0,G0⟩ l N m ⟨w0,F0,bs,G⟩:=λ_ a w ha hw=>by
 obtain⟨pre,post,rfl,rfl⟩:=hr.split;exact k (λ_ h=>h.imp hs λF h=>hg F h.1) a w ha (hw.freeze pre)
def Sm:Nat->List Value->Sl
 |_,[]=>[]
 |k,v::r=>(k,v)::Sm (k+1) r
theorem HM:∀(args:List Value) (k t:Nat) (v:Value),look (Sm k args) t=some v->k<=t/\args[t - k]?=some v
 |[],k,t,v,h=>by simp[Sm,look]at h
 |u::r,k,t,v,h=>by
  simp only[Sm,look]at h
  cases hb:ba k t with
  |true =>
   rw[hb]at h
   have:k=t:=by simpa using hb
   subst this
   simpa using h
  |false =>
   rw[hb]at h
   obtain⟨h1,h2⟩:=HM r (k+1) t v (by simpa using h)
   refine⟨O,?_⟩
   rw[show t - k=(t - (k+1))+1 by omega];simpa using h2
omit [Df] in
theorem QS.intro{f:FuncId}{c:Code}{args:List Value}{val:γ->Value}{fact:γ->Gs->Prop}{G:Gs->Prop}(hf:P.funcs[f]?=some fn)(hb:fn.body=some c)(hn:(fn.name == "runtime.NumGoroutine")=false)(hN:fn.ntmps=N)(hl:iL args.length N=true)
  (hw:Fits F w) (hg:∀F',Gs.le F F'->G F') (h:J (df:=VE) P c (bodyPost P fn (MQ w F val fact)) N (Sm 0 args) ⟨w,F,[],G⟩):QS P f args w F val fact:=by
 refine⟨enters_of hf hn (by rw[hb];rfl),calls_of_wp hf hb (h _ w ⟨?_,rfl,λt v ht=>?_⟩ (St.start hw hg))⟩
 ·have:=fe hl
  simp[hN];omega
 ·obtain⟨_,h2⟩:=HM args 0 t v ht
  have hlt:t<args.length:=by rcases au t args.length with g | g;exact g;rw[iK,aI g]at h2;cases h2
  simp only[iK]at h2
  rw[Array.getElem?_append,if_pos (by simpa using hlt)]
  simpa using h2
omit [Df] in
theorem QAx{val:γ->Value}{fact:γ->Gs->Prop}{bs:List (Nat×Obj)}{G:Gs->Prop}(c:γ)(hr:∀a w,JP (df:=VE) N m a->St ⟨w0,F0,bs,G⟩ w->(results fn a.tmps).run P w = .ok (val c) w)(hg:∀F,G F->fact c F):Fin (df:=VE) (bodyPost P fn (MQ w0 F0 val fact)) .ret N m ⟨w0,F0,bs,G⟩:=λa w ha hw=>by
 obtain⟨F,h⟩:=id hw
 exact⟨ha.df,val c,hr a w ha hw,c,F,rfl,h.ext,h.le,h.old,h.fits,λF' hF'=>hg F' (h.g F' hF')⟩
omit [Df] in
theorem QHh{val:γ->Value}{fact:γ->Gs->Prop}{bs:List (Nat×Obj)}{G:Gs->Prop}(h:Fin (df:=VE) (bodyPost P fn (MQ w0 F0 val fact)) .ret N m ⟨w0,F0,bs,G⟩):Fin (df:=VE) (bodyPost P fn (MQ w0 F0 val fact)) .normal N m ⟨w0,F0,bs,G⟩:=h
inductive MH(P:Program)(m:Sl)(bs:List (Nat×Obj)):List ResultVar->List Value->Prop
 |nil:MH P m bs [] []
 |tmp {t:Tmp} {v:Value} {r:List ResultVar} {vs:List Value} (h:look m t=some v) (k:MH P m bs r vs):MH P m bs (.tmp t::r) (v::vs)
 |QEr {t:Tmp} {T T':TypeId} {b n:Nat} {c:List Value} {v:Value} {fr:Nat×Nat} {f:Obj->List (Nat×Obj)} {r:List ResultVar} {vs:List Value} (h:look m t=some (.pointer (some ⟨b,0,none⟩))) (ht:YW P T=some (false,n)) (ho:Own bs b (.cells c.toArray T' fr) f) (hg:N1 c 0 [v]) (k:MH P m bs r vs):MH P m bs (.cell t T::r) (v::vs)
 |JW {t:Tmp} {T T':TypeId} {b:Nat} {c:List Value} {fr:Nat×Nat} {f:Obj->List (Nat×Obj)} {r:List ResultVar} {vs:List Value} (h:look m t=some (.pointer (some ⟨b,0,none⟩))) (ht:YW P T=some (true,c.length)) (ho:Own bs b (.cells c.toArray T' fr) f) (k:MH P m bs r vs):MH P m bs (.cell t T::r) (.agg c.toArray::vs)
def BN(tmps:Array Value):ResultVar->Sem Value
 |.tmp t=>pure (tmps.getD t undef)
 |.cell p t=>do loadVar t (<-asAddr (tmps.getD p undef))
theorem MH.run{rs:List ResultVar}{vs:List Value}(h:MH P m bs rs vs){a:Act}{w:World}(ha:JP N m a)(hw:St ⟨w0,F0,bs,G⟩ w):
  (rs.mapM (BN a.tmps)).run P w = .ok vs w:=by
 induction h with
 |nil=>rfl
 |tmp h k ih =>
  rename_i t v r vs
  have e:=ha.get _ _ h
  have e2:(BN a.tmps (.tmp t)).run P w = .ok v w:=by simp[BN,e]
  rw[eQ,ak,e2]
  simp[ih]
 |QEr h ht ho hg k ih =>
  rename_i t T T' b n c v fr f r vs
  have e:=ha.get _ _ h
  have hc:=X4 (hw.own ho) (o:=0)
  have:=hg.at 0 _ I
  simp only[bw]at this
  rw[this]at hc
  have e2:(BN a.tmps (.cell t T)).run P w = .ok v w:=by simp[BN,e,asAddr,YE ht hc]
  rw[eQ,ak,e2]
  simp[ih]
 |JW h ht ho k ih =>
  rename_i t T T' b c fr f r vs
  have e:=ha.get _ _ h
  have:=Ky (P:=P) ht rfl (w:=w) (b:=b) (off:=0) (λj v hv=>by rw[bw,X4 (hw.own ho)];exact hv)
  have e2:(BN a.tmps (.cell t T)).run P w = .ok (.agg c.toArray) w:=by simp[BN,e,asAddr,this]
  rw[eQ,ak,e2]
  simp[ih]
theorem OV(fn:Func)(tmps:Array Value):results fn tmps=(do let vs <-fn.results.mapM (BN tmps);pure (if h:vs.size=1 then vs[0]else .tuple vs)):=by
 unfold results
 exact congrArg (λ(g:ResultVar->Sem Value)=>(do let vs <-fn.results.mapM g;pure (if h:vs.size=1 then vs[0]else .tuple vs):Sem Value)) (funext λx=>by cases x<;>rfl)
theorem BM{rs:List ResultVar}{vs:List Value}(hrs:fn.results=rs.toArray)(h:MH P m bs rs vs){a:Act}{w:World}(ha:JP N m a)(hw:St ⟨w0,F0,bs,G⟩ w):
  (results fn a.tmps).run P w = .ok (match vs with | [v]=>v | vs=>.tuple vs.toArray) w:=by
 have:=h.run ha hw
 rw[OV,hrs,List.mapM_toArray]
 simp only[ak,Sem.run_map,this,aq,aF]
 match vs with
 |[]=>rfl
 |[v]=>rfl
 |v::u::r=>rfl
omit [Df] in
theorem QV{val:γ->Value}{fact:γ->Gs->Prop}{bs:List (Nat×Obj)}{G:Gs->Prop}{rs:List ResultVar}{v:Value}(c:γ)(hrs:fn.results=rs.toArray)(h:MH P m bs rs [v])(hv:val c=v)(hg:∀F,G F->fact c F):Fin (df:=VE) (bodyPost P fn (MQ w0 F0 val fact)) .ret N m ⟨w0,F0,bs,G⟩ :=
 QAx c (λa w ha hw=>by rw[hv];exact BM hrs h ha hw) hg
omit [Df] in
theorem JZ{val:γ->Value}{fact:γ->Gs->Prop}{bs:List (Nat×Obj)}{G:Gs->Prop}{rs:List ResultVar}{v:Value}{vs:List Value}(c:γ)(hrs:fn.results=rs.toArray)(h:MH P m bs rs (v::u::vs))(hv:val c = .tuple (v::u::vs).toArray)(hg:∀F,G F->fact c F):Fin (df:=VE) (bodyPost P fn (MQ w0 F0 val fact)) .ret N m ⟨w0,F0,bs,G⟩ :=
 QAx c (λa w ha hw=>by rw[hv];exact BM hrs h ha hw) hg
end
end
section
variable[Dr][df:Df]
section
variable{P:Program}{N:Nat}{m:Sl}{S:World->Prop}{ty:TypeId}{v:Value}
def xI:BinOp->Value->Value->Option Value
 |.add,.int .i64 a,.int .i64 b=>some (.int .i64 (IntKind.i64.wrap (a+b)))
 |.sub,.int .i64 a,.int .i64 b=>some (.int .i64 (IntKind.i64.wrap (a - b)))
 |.mul,.int .i64 a,.int .i64 b=>some (.int .i64 (IntKind.i64.wrap (a*b)))
 |.add,.int .u64 a,.int .u64 b=>some (.int .u64 (IntKind.u64.wrap (a+b)))
 |.sub,.int .u64 a,.int .u64 b=>some (.int .u64 (IntKind.u64.wrap (a - b)))
 |.mul,.int .u64 a,.int .u64 b=>some (.int .u64 (IntKind.u64.wrap (a*b)))
 |.eql,.int .i64 a,.int .i64 b=>some (.bool (a==b))
 |.neq,.int .i64 a,.int .i64 b=>some (.bool (a != b))
 |.lss,.int .i64 a,.int .i64 b=>some (.bool (decide (a<b)))
 |.leq,.int .i64 a,.int .i64 b=>some (.bool (decide (a<=b)))
 |.gtr,.int .i64 a,.int .i64 b=>some (.bool (decide (a>b)))
 |.geq,.int .i64 a,.int .i64 b=>some (.bool (decide (a>=b)))
 |.eql,.int .u64 a,.int .u64 b=>some (.bool (a==b))
 |.neq,.int .u64 a,.int .u64 b=>some (.bool (a != b))
 |.lss,.int .u64 a,.int .u64 b=>some (.bool (decide (a<b)))
 |.leq,.int .u64 a,.int .u64 b=>some (.bool (decide (a<=b)))
 |.gtr,.int .u64 a,.int .u64 b=>some (.bool (decide (a>b)))
 |.geq,.int .u64 a,.int .u64 b=>some (.bool (decide (a>=b)))
 |.eql,.int .u8 a,.int .u8 b=>some (.bool (a==b))
 |.neq,.int .u8 a,.int .u8 b=>some (.bool (a != b))
 |.lss,.int .u8 a,.int .u8 b=>some (.bool (decide (a<b)))
 |.leq,.int .u8 a,.int .u8 b=>some (.bool (decide (a<=b)))
 |.gtr,.int .u8 a,.int .u8 b=>some (.bool (decide (a>b)))
 |.geq,.int .u8 a,.int .u8 b=>some (.bool (decide (a>=b)))
 |.eql,.int .i32 a,.int .i32 b=>some (.bool (a==b))
 |.neq,.int .i32 a,.int .i32 b=>some (.bool (a != b))
 |.lss,.int .i32 a,.int .i32 b=>some (.bool (decide (a<b)))
 |.leq,.int .i32 a,.int .i32 b=>some (.bool (decide (a<=b)))
 |.gtr,.int .i32 a,.int .i32 b=>some (.bool (decide (a>b)))
 |.geq,.int .i32 a,.int .i32 b=>some (.bool (decide (a>=b)))
 |.eql,.string a,.string b=>some (.bool (a.toList==b.toList))
 |.neq,.string a,.string b=>some (.bool (!(a.toList==b.toList)))
 |_,_,_=>none
theorem yQ{op:BinOp}{T:TypeId}{x y:Operand}{vx vy:Value}(h:xI op vx vy=some v)(w:World):(do eqGuard op T x y vx vy;binOp op T vx vy:Sem Value).run P w = .ok v w:=by
  unfold xI at h
  split at h<;>first
    | (cases h;done)
    | (simp only[ai]at h
       subst h
       simp[eqGuard,binOp,Op.intArith,Op.intCmp,Op.stringOp])
theorem QZ{op:BinOp}{vx vy:Value}(hx:ev m x=some vx)(hy:ev m y=some vy)(h:xI op vx vy=some v):Qt P N m S (.binOp op T x y yT) ty v:=λa w _ _ _ _ ha _=>by
 have:=yQ (P:=P) (T:=T) (x:=x) (y:=y) h w
 simp only[execOp,ha.ev hx,ha.ev hy]
 simp only[ak]at this ⊢
 rw[this];rfl
theorem Qu{a b:Int}(hx:ev m x=some (.int .i64 a))(hy:ev m y=some (.int .i64 b))(h : -9223372036854775808<=a+b/\a+b<=9223372036854775807):Qt P N m S (.binOp .add T x y yT) ty (.int .i64 (a+b)):=by
 have:=QZ (P:=P) (N:=N) (m:=m) (S:=S) (ty:=ty) (T:=T) (yT:=yT) (op:=.add) hx hy rfl
 rw[bm _ h]at this;exact this
theorem Xw{a b:Int}(hx:ev m x=some (.int .i64 a))(hy:ev m y=some (.int .i64 b))(h : -9223372036854775808<=a - b/\a - b<=9223372036854775807):Qt P N m S (.binOp .sub T x y yT) ty (.int .i64 (a - b)):=by
 have:=QZ (P:=P) (N:=N) (m:=m) (S:=S) (ty:=ty) (T:=T) (yT:=yT) (op:=.sub) hx hy rfl
 rw[bm _ h]at this;exact this
theorem PN{a b:Int}(hx:ev m x=some (.int .i64 a))(hy:ev m y=some (.int .i64 b))(h : -9223372036854775808<=a*b/\a*b<=9223372036854775807):Qt P N m S (.binOp .mul T x y yT) ty (.int .i64 (a*b)):=by
 have:=QZ (P:=P) (N:=N) (m:=m) (S:=S) (ty:=ty) (T:=T) (yT:=yT) (op:=.mul) hx hy rfl
 rw[bm _ h]at this;exact this
theorem xg{k:IntKind}{a b:Int}(hx:ev m x=some (.int k a))(hy:ev m y=some (.int k b))(h:b≠0):Qt P N m S (.binOp .quo T x y yT) ty (.int k (k.wrap (a.tdiv b))):=λs w _ _ _ _ ha _=>by
 simp[execOp,ha.ev hx,ha.ev hy,eqGuard,binOp,Op.intDiv,h]
theorem QAB{k:IntKind}{a b:Int}(hx:ev m x=some (.int k a))(hy:ev m y=some (.int k b))(h:b≠0):Qt P N m S (.binOp .rem T x y yT) ty (.int k (a.tmod b)):=λs w _ _ _ _ ha _=>by
 simp[execOp,ha.ev hx,ha.ev hy,eqGuard,binOp,Op.intDiv,h]
theorem Ro{a b:Int}(hx:ev m x=some (.int .i64 a))(hy:ev m y=some (.int .i64 b))(ha:0<=a)(ha':a<=9223372036854775807)(hb:0<b):Qt P N m S (.binOp .quo T x y yT) ty (.int .i64 (a / b)):=by
 have:=xg (P:=P) (N:=N) (m:=m) (S:=S) (ty:=ty) (T:=T) (yT:=yT) hx hy O
 have e:a.tdiv b=a / b:=eT ha
 have h0:0<=a / b:=eL ha O
 have h1:a / b<=a:=Int.ediv_le_self b ha
 rw[e,bm _ ⟨O,O⟩]at this;exact this
theorem BO{k:IntKind}{a b:Int}(hx:ev m x=some (.int k a))(hy:ev m y=some (.int k b))(ha:0<=a)(hb:0<b):Qt P N m S (.binOp .rem T x y yT) ty (.int k (a%b)):=by
 have:=QAB (P:=P) (N:=N) (m:=m) (S:=S) (ty:=ty) (T:=T) (yT:=yT) hx hy O
 rw[Int.tmod_eq_emod_of_nonneg ha]at this;exact this
theorem yk{a b:ByteArray}(hx:ev m x=some (.string a))(hy:ev m y=some (.string b))(h:((a.size+b.size:Nat):Int)<=9223372036854775807):Qt P N m S (.binOp .add T x y yT) ty (.string (a++b)):=λs w _ _ _ _ ha _=>by
 have h':¬((a.size+b.size:Nat):Int)>IntKind.i64.max:=by
  have:IntKind.i64.max=9223372036854775807:=wa
  omega
 simp only[execOp,ha.ev hx,ha.ev hy,eqGuard,binOp,Op.stringOp,if_neg h']
 rfl
theorem YN{b:Bool}(hx:ev m x=some (.bool b)):Qt P N m S (.unOp .not T x) ty (.bool (!b)):=λs w _ _ _ _ ha _=>by
 simp[execOp,ha.ev hx,Op.unary]
theorem QHL{a:Int}(hx:ev m x=some (.int .i64 a))(h : -9223372036854775807<=a/\a<=9223372036854775808):Qt P N m S (.unOp .neg T x) ty (.int .i64 (-a)):=λs w _ _ _ _ ha _=>by
 have e:IntKind.i64.wrap (-a) = -a:=bm _ O
 simp[execOp,ha.ev hx,Op.unary,Op.intArith,e]
def Na(P:Program)(T:TypeId):Option IntKind:=match P.underlying T with
 |some (.int k)=>some k
 |_=>none
theorem Tq{src dst:TypeId}{k:IntKind}{n:Int}(hx:ev m x=some (.int k' n))(hs:(P.underlying src).isSome=true)(hk:Na P dst=some k):Qt P N m S (.convert src dst x) ty (.int k (k.wrap n)):=λs w _ _ _ _ ha _=>by
 obtain⟨d,hd⟩:=Option.isSome_iff_exists.1 hs
 unfold Na at hk
 split at hk
 ·rename_i k'' hu
  cases hk
  simp only[execOp,ha.ev hx,convert,ak,run_underlying hd,run_underlying hu,aq]
  rfl
 ·cases hk
theorem I2{n:Int}(h : -9223372036854775808<=n/\n<=9223372036854775807):IntKind.i64.wrap n=n:=bm _ h
theorem jV{src dst:TypeId}{n:Int}(hx:ev m x=some (.int k' n))(hs:(P.underlying src).isSome=true)(hk:Na P dst=some .i64)(h : -9223372036854775808<=n/\n<=9223372036854775807):Qt P N m S (.convert src dst x) ty (.int .i64 n):=by
 have:=Tq (P:=P) (N:=N) (m:=m) (S:=S) (ty:=ty) hx hs hk
 rw[I2 h]at this;exact this
def Bu(P:Program)(T:TypeId):Bool:=match P.underlying T with
 |some .string=>true
 |_=>false
theorem YA{b:Builtin}{args:Array Operand}{tys:Array TypeId}{d:Option Tmp}{pos:String}{g:Option (Nat×Bool)}:execOp a.eval ⟨d,.call ⟨.builtin b,args,tys⟩,ty,pos,aft,g⟩=builtin b tys ty (args.map λ| .const _=>true | _=>false) (args.map a.eval):=rfl
theorem yi(hx:ev m x=some (.string s))(hT:Bu P T=true):Qt P N m S (.call ⟨.builtin .len,#[x],#[T]⟩) ty (.int .i64 s.size):=λa w _ _ _ _ ha _=>by
 unfold Bu at hT
 split at hT
 ·rename_i hu
  rw[YA]
  simp[builtin,fX,ha.ev hx,run_underlying hu,goInt]
 ·cases hT
def Hr(P:Program)(T:TypeId):Option TypeId:=match P.underlying T with
 |some (.slice e)=>some e
 |_=>none
theorem Qw{e:TypeId}(h:Hr P T=some e):P.underlying T=some (.slice e):=by
 unfold Hr at h;split at h
 ·cases h;assumption
 ·cases h
theorem Qh{e:TypeId}{q:Option Addr}{c:Nat}(hx:ev m x=some (.slice q n c))(hT:Hr P T=some e):Qt P N m S (.call ⟨.builtin .len,#[x],#[T]⟩) ty (.int .i64 n):=λa w _ _ _ _ ha _=>by
 rw[YA]
 simp[builtin,fX,ha.ev hx,run_underlying (Qw hT),goInt]
theorem QAC{a b:Int}(hx:ev m x=some (.int .i64 a))(hy:ev m y=some (.int .i64 b)):Qt P N m S (.call ⟨.builtin .min,#[x,y],#[T,T']⟩) ty (.int .i64 (if b<a then b else a)):=λs w _ _ _ _ ha _=>by
 rw[YA]
 simp[builtin,ha.ev hx,ha.ev hy,Builtin.min_,Builtin.min2]
theorem QD7{a b:Int}(hx:ev m x=some (.int .i64 a))(hy:ev m y=some (.int .i64 b)):Qt P N m S (.call ⟨.builtin .max,#[x,y],#[T,T']⟩) ty (.int .i64 (if b>a then b else a)):=λs w _ _ _ _ ha _=>by
 rw[YA]
 simp[builtin,ha.ev hx,ha.ev hy,Builtin.max_,Builtin.max2]
theorem yj{i:Nat}(hx:ev m x=some (.string s))(hy:ev m y=some (.int .i64 (i:Int)))(hT:Bu P T=true)(hi:i<s.size):Qt P N m S (.index T x y) ty (.int .u8 (s.data[i].toNat:Int)):=λa w _ _ _ _ ha _=>by
 unfold Bu at hT
 split at hT
 ·rename_i hu
  have e:s[i]?=some (s.data[i]):=by
   rw[getElem?_pos s i hi];rfl
  simp[execOp,ha.ev hx,ha.ev hy,Instr.index,asIntOf,run_underlying hu,e]
 ·cases hT
theorem Uz{lo hi:Option Value}{l h:Nat}(hT:Bu P T=true)(hlo:(lo=none/\l=0)\/lo=some (.int .i64 (l:Int)))(hhi:(hi=none/\h=s.size)\/hi=some (.int .i64 (h:Int)))(h1:l<=h)(h2:h<=s.size)(w:World):
  (iJ T (.string s) lo hi none).run P w = .ok (.string (s.extract l h)) w:=by
 unfold Bu at hT
 split at hT
 ·rename_i hu
  rcases hlo with ⟨rfl,rfl⟩ | rfl<;>rcases hhi with ⟨rfl,rfl⟩ | rfl <;>
   simp[iJ,run_underlying hu,Instr.sliceBounds,Instr.sliceBound,asIntOf,h1,h2]
 ·cases hT
def O9(m:Sl):Option Operand->Option (Option Value)
 |none=>some none
 |some x=>(ev m x).map some
theorem JP.O9(h:JP N m a){x:Option Operand}{v:Option Value}(hx:O9 m x=some v):x.map a.eval=v:=by
 cases x with
 |none=>simpa[YtjcphjpkimmmjaaGreatDoor.O9]using hx
 |some x =>
  cases hv:YtjcphjpkimmmjaaGreatDoor.ev m x with
  |none=>simp[YtjcphjpkimmmjaaGreatDoor.O9,hv]at hx
  |some u=>simp[YtjcphjpkimmmjaaGreatDoor.O9,hv]at hx;simp[h.ev hv,hx]
theorem Oa{lo hi:Option Operand}{vl vh:Option Value}{l h:Nat}(hx:ev m x=some (.string s))(el:O9 m lo=some vl)(eh:O9 m hi=some vh)(hT:Bu P T=true)
  (hlo:(vl=none/\l=0)\/vl=some (.int .i64 (l:Int))) (hhi:(vh=none/\h=s.size)\/vh=some (.int .i64 (h:Int))) (h1:l<=h) (h2:h<=s.size):Qt P N m S (.slice T x lo hi none) ty (.string (s.extract l h)):=λa w _ _ _ _ ha _=>by
 have e:=Uz (P:=P) hT hlo hhi h1 h2 w
 unfold Bu at hT
 split at hT
 ·rename_i hu
  simp[execOp,ha.ev hx,ha.O9 el,ha.O9 eh,Instr.sliceAt,run_underlying hu,e]
 ·cases hT
end
end
section
variable[Dr][df:Df]
section
variable{P:Program}{Q:Exit->Act->World->Prop}{N:Nat}{m:Sl}{E E0:Env}{ops:Array Oper}{l:List Oper}{w0:World}{F0:Gs}{bs:List (Nat×Obj)}{G:Gs->Prop}{ty:TypeId}{v:Value}{S:World->Prop}
theorem H2(b off k:Nat):(⟨b,off,none⟩:Addr).add k=⟨b,off+k,none⟩:=by unfold fi;split<;>simp_all
theorem JG{e:TypeId}{c sz i:Nat}(hx:ev m x=some (.slice (some ⟨b,off,none⟩) n c))(hy:ev m y=some (.int .i64 (i:Int)))(hT:Hr P T=some e)(hs:YW P e=some (g,sz))(hi:i<n):Qt P N m S (.indexAddr T x y) ty (.pointer (some ⟨b,off+i*sz,none⟩)):=λa w _ _ _ _ ha _=>by
 simp[execOp,ha.ev hx,ha.ev hy,Instr.indexAt,asIntOf,run_underlying (Qw hT),VX hs,hi,H2]
theorem V4(h:ev m x=some (.pointer (some ⟨b,off,none⟩)))(ht:YW P T=some (false,n))(ho:Own bs b (.cells c.toArray T' fr) f)(hg:c[off]?=some v):
  Qt P N m (St ⟨w0,F0,bs,G⟩) (.load T x) ty v:=λa w _ _ _ _ ha hw=>by
 have hc:w.cell? ⟨b,off,none⟩=some v:=by rw[X4 (hw.own ho)];exact hg
 simp[execOp,ha.ev h,bH,aM,YE ht hc]
theorem F8{vs:List Value}(h:ev m x=some (.pointer (some ⟨b,off,none⟩)))(ht:YW P T=some (true,n))(ho:Own bs b (.cells c.toArray T' fr) f)(hn:vs.length=n)(hg:∀j v,vs[j]?=some v->c[off+j]?=some v):
  Qt P N m (St ⟨w0,F0,bs,G⟩) (.load T x) ty (.agg vs.toArray):=λa w _ _ _ _ ha hw=>by
 have:=Ky ht hn (w:=w) (b:=b) (off:=off) (λj v hv=>by rw[X4 (hw.own ho)];exact hg j v hv)
 simp[execOp,ha.ev h,bH,aM,this]
theorem Kb.mk':∀(n:Nat) (l vs:List Value),n+vs.length<=l.length->Kb l n vs (l.take n++vs++l.drop (n+vs.length))
 |0,l,[],_=>by simpa using Kb.nil (l:=l)
 |0,x::l,v::vs,h=>by
  have:=Kb.mk' 0 l vs (by simp at h ⊢;omega)
  simp only[fZ,eb,bw,aN,List.drop_succ_cons,fO]at this ⊢
  exact .here this
 |n+1,x::l,vs,h=>by
  have:=Kb.mk' n l vs (by simp at h;omega)
  rw[ey]
  simpa using Kb.skip (x:=x) this
 |0,[],v::vs,h=>by simp at h
 |n+1,[],vs,h=>by simp at h
theorem Kb.QGA{l:List Value}(v:Value)(h:n<l.length):Kb l n [v] (l.set n v):=by
 have:=Kb.mk' n l [v] wg
 have e:l.take n++[v]++l.drop (n+1)=l.set n v:=by
  rw[List.set_eq_take_append_cons_drop,if_pos h];simp
 rw[List.length_singleton,e]at this;exact this
theorem QDW{d:Option Tmp}{pos:String}{n:Nat}(hx:ev m x=some (.pointer (some ⟨b,off,none⟩)))(hy:ev m y=some v)(hv:v.cells=#[v])(h1:v.oneCell'=true)(ht:YW P T=some (g,1))
  (ho:Own bs b (.cells c.toArray T' (0,0)) f) (hl:off<c.length) (k:JS P ops Q l N m ⟨w0,F0,f (.cells (c.set off v).toArray T' (0,0)),G⟩) (hu:Gg T'=true:=by rfl):JS P ops Q (⟨none,.store T x y,ty,pos,aft,none⟩::l) N m ⟨w0,F0,bs,G⟩ :=
 QO hx hy (vs:=[v]) hv ht rfl ho (Kb.QGA v hl) ⟨h1,trivial⟩ k hu
inductive Qx(T:TypeId)(sz:Nat):Value->Nat->List Value->List (Nat×Obj)->Prop
 |nil:Qx T sz (.slice none 0 0) 0 [] []
 |some {b n cap:Nat} {l rest:List Value} (h1:l.length=n*sz) (h2:l.length+rest.length=cap*sz) (h3:n<=cap) (h4:cap<=maxLen):Qx T sz (.slice (some ⟨b,0,none⟩) n cap) n l [(b,.cells (l++rest).toArray T (0,0))]
theorem Qx.one{sz:Nat}{v:Value}{l:List Value}(h:Qx T sz v n l ob):v.oneCell'=true/\v.cells=[v].toArray:=by
 cases h<;>exact⟨rfl,rfl⟩
theorem Qx.len{sz:Nat}{v:Value}{l:List Value}(h:Qx T sz v n l ob):l.length=n*sz:=by
 cases h<;>simp_all
structure Src(E:Env)(sz:Nat)(x:Value)(k:Nat)(news:List Value):Prop where
 len:news.length=k*sz
 rd:((∃c,x = .slice none 0 c)/\k=0/\news=[])\/∃a c,x = .slice (some a) k c/\∀w,St E w->∀j v,news[j]?=some v->w.cell? (a.add j)=some v
theorem Src.own{sz c:Nat}(ho:Own bs b (.cells cs.toArray T fr) f)(hg:N1 cs off news)(hl:news.length=k*sz):Src ⟨w0,F0,bs,G⟩ sz (.slice (.some ⟨b,off,none⟩) k c) k news :=
 ⟨hl,.inr ⟨_,_,rfl,λw hw j v hv=>by rw[H2,X4 (hw.own ho)];exact hg.at j v hv⟩⟩
theorem Src.row{sz c:Nat}{cs:Array Value}(hr:∀F,G F->F b=some (cs,T))(hg:∀j v,news[j]?=some v->cs[off+j]?=some v)(hl:news.length=k*sz):Src ⟨w0,F0,bs,G⟩ sz (.slice (.some ⟨b,off,none⟩) k c) k news :=
 ⟨hl,.inr ⟨_,_,rfl,λw hw j v hv=>by rw[H2];exact cell_of_row hw hr (hg j v hv)⟩⟩
theorem Src.nil{sz c:Nat}:Src E sz (.slice none 0 c) 0 []:=⟨we,.inl ⟨⟨_,rfl⟩,rfl,rfl⟩⟩
def ZU(P:Program)(T:TypeId):Option Nat:=(P.info? T).map (·.bytes)
theorem DK{sz:Nat}{x:Value}(hl:news.length=k*sz)(h:((∃c,x = .slice none 0 c)/\k=0/\news=[])\/∃a c,x = .slice (some a) k c/\∀j v,news[j]?=some v->w.cell? (a.add j)=some v):
  (fa sz k x).run P w = .ok news.toArray w:=by
 rcases h with ⟨⟨_,rfl⟩,rfl,rfl⟩ | ⟨a,c,rfl,h⟩
 ·rfl
 ·exact run_firstCells_some (P:=P) w sz k a k c news hl h
theorem DU{e:TypeId}{sz:Nat}{x y:Value}{olds:List Value}(ht:Hr P t=some e)(hs:YW P e=some (g,sz))(hz:XC P e=some z)(hzl:z.length=sz)(hby:ZU P e=some bytes)
  (hr:Qx e sz x n olds ob) (hs2:Src ⟨w0,F0,ob++bs,G⟩ sz y k news) (hw:St ⟨w0,F0,ob++bs,G⟩ w) (h63:n+k<=9223372036854775807) (h47:(n+k)*bytes<=140737488355328) (h1:∀v∈news,v.oneCell'=true) (hu:Gg e=true) :
  ∃v' ob' w',(bU #[t,t] ty #[x,y]).run P w = .ok v' w'/\Qx e sz v' (n+k) (olds++news) ob'/\St ⟨w0,F0,ob'++bs,G⟩ w':=by
 have hi:∃i,P.info? e=some i/\i.size=sz/\i.bytes=bytes/\∃zv,i.zero=some zv/\zv.cells=z.toArray:=by
  unfold ZU at hby;unfold XC at hz;unfold YW at hs
  cases hie:P.info? e with
  |none=>rw[hie]at hby;cases hby
  |some i =>
   rw[hie]at hby hz hs
   dsimp only at hz hs
   simp only[aP,ai]at hby
   refine⟨i,rfl,?_,hby,?_⟩
   ·split at hs
    ·rename_i h1 h2;cases h2;cases hs;rfl
    ·cases hs
   ·cases hzz:i.zero with
    |none=>rw[hzz]at hz;cases hz
    |some zv=>rw[hzz]at hz;simp only[aP,ai]at hz;exact⟨zv,rfl,by rw[<-hz]⟩
 obtain⟨i,hi1,hi2,hi3,zv,hi4,hi5⟩:=hi
 subst hi2 hi3
 have hzc:∀q,(aC zv.cells q).toList.length=q*i.size:=λq=>by simp[aC,hi5,hzl]
 have hu':∀c fr c' fr',Obj.cells c e fr≠.cells c' 297 fr':=λc fr=>ZB hu
 have new:∀ {w':World} (l rest:List Value) (v':Value) (cap:Nat) (bs':List (Nat×Obj)),St ⟨w0,F0,bs',G⟩ w'->bs.Sublist bs'->v' = .slice (some ⟨w'.heap.size,0,none⟩) (n+k) cap->l.length=(n+k)*i.size->l.length+rest.length=cap*i.size->n+k<=cap->cap<=maxLen ->
   ∃ob',Qx e i.size v' (n+k) l ob'/\St ⟨w0,F0,ob'++bs,G⟩ (w'.alloc (.cells (l++rest).toArray e)):=by
  intro w' l rest v' cap bs' hw' hsub hv' h2 h3 h4 h5
  subst hv'
  exact⟨_,.some h2 h3 h4 h5,(hw'.imp hsub λ_ h=>h).alloc _ (hu' _ _)⟩
 have hcut:∀need old,need<=9223372036854775807->need<=grownCap w need old e:=λneed old _=>grownCap_ge w need old e
 cases hr with
 |nil =>
  simp only[bw,eb]at *
  rcases hs2.rd with ⟨⟨_,rfl⟩,rfl,rfl⟩ | ⟨a,c,rfl,hrd⟩
  ·refine⟨.slice none 0 0,[],w,?_,.nil,hw⟩
   simp[bU,run_underlying (Qw ht),sizeOf,typeInfo,hi1,eM,fa]
  ·by_cases hk:k=0
   ·subst hk
    have hn0:news=[]:=by have:=hs2.len;simp at this;exact this
    subst hn0
    refine⟨.slice none 0 0,[],w,?_,.nil,hw⟩
    have:=run_firstCells_some (P:=P) w i.size 0 a 0 c [] we (λj v hv=>by simp at hv)
    simp[bU,run_underlying (Qw ht),sizeOf,typeInfo,hi1,eM,this]
   ·have hrun:=run_append_nil (P:=P) (w:=w) t ty e i zv (Qw ht) hi1 hi4 a k c news hs2.len (hrd w hw) O O O
    have hge:=hcut k 0 h63
    obtain⟨ob',h2,h3⟩:=new news (aC zv.cells (grownCap w k 0 e - k)).toList _ (grownCap w k 0 e) bs hw.drew wK rfl hs2.len (by rw[hzc,hs2.len,<-aD];congr 1;omega) hge (grownCap_le_maxLen w k 0 e (by simp only[maxLen];omega))
    refine⟨_,ob',_,hrun,h2,?_⟩
    have e1:(news++(aC zv.cells (grownCap w k 0 e - k)).toList).toArray=news.toArray++aC zv.cells (grownCap w k 0 e - k):=by apply bY;simp
    rw[e1]at h3;exact h3
 |some g1 g2 g3 g4 =>
  rename_i b cap rest
  have hbw:w.heap[b]?=some (.cells (olds++rest).toArray e (0,0)):=hw.own (f:=λo'=>(b,o')::bs) .here
  have hold:∀j v,olds[j]?=some v->w.cell? ((⟨b,0,none⟩:Addr).add j)=some v:=λj v hv=>by
   rw[H2,bw,X4 hbw,ek]
   have:j<olds.length:=by rcases au j olds.length with q | q;exact q;rw[aI q]at hv;cases hv
   rw[if_pos this];exact hv
  by_cases hroom:n+k<=cap
  ·
   have hmul:(n+k)*i.size<=cap*i.size:=aX _ hroom
   rw[aD]at hmul
   have hp:=Kb.mk' (n*i.size) (olds++rest) news (by rw[aG,hs2.len];omega)
   obtain⟨w',h2,h3⟩:=run_storeCells_at (P:=P) b e news 0 (n*i.size) (olds++rest) _ w hbw h1 hp
   have e1:(olds++rest).take (n*i.size)=olds:=by rw[<-g1];simp
   have e2:(olds++rest).drop (n*i.size+news.length)=rest.drop news.length:=by
    rw[<-g1,List.drop_append,List.drop_of_length_le O,Nat.add_sub_cancel_left,eb]
   rw[e1,e2]at h3
   have hfc:=DK (P:=P) (w:=w) hs2.len (hs2.rd.imp id λ⟨a,c,h,h'⟩=>⟨a,c,h,h' w hw⟩)
   refine⟨.slice (some ⟨b,0,none⟩) (n+k) cap,[(b,.cells (olds++news++rest.drop news.length).toArray e (0,0))],w',?_,.some ?_ ?_ hroom g4,?_⟩
   ·have hlen:(eM y).run P w = .ok k w:=by
     rcases hs2.rd with ⟨⟨_,rfl⟩,rfl,_⟩ | ⟨a,c,rfl,_⟩<;>rfl
    simp[bU,run_underlying (Qw ht),sizeOf,typeInfo,hi1,hlen,hroom,hfc,H2,h2]
   ·rw[aG,g1,hs2.len,aD]
   ·rw[aG,fM,hs2.len,g1];omega
   ·exact St.write [] hw h3 (hu' _ _)
  ·rcases hs2.rd with ⟨⟨_,rfl⟩,rfl,rfl⟩ | ⟨a,c,rfl,hrd⟩
   ·exact absurd g3 hroom
   ·have hfit:=growslice_fits (need:=n+k) (old:=cap) (bytes:=i.bytes) O h47
    have hrun:=run_append_grow (P:=P) (w:=w) t ty e i zv (Qw ht) hi1 hi4 ⟨b,0,none⟩ n cap olds g1 hold a k c news hs2.len (hrd w hw) O O hfit
    have hge:=hcut (n+k) cap h63
    have hl2:(olds++news).length=(n+k)*i.size:=by rw[aG,g1,hs2.len,aD]
    obtain⟨ob',h2,h3⟩:=new (olds++news) (aC zv.cells (grownCap w (n+k) cap e - (n+k))).toList _ (grownCap w (n+k) cap e) _ hw.drew (bZ _ _) rfl hl2 (by rw[hzc,hl2,<-aD];congr 1;omega) hge (grownCap_le_maxLen w (n+k) cap e (by simp only[maxLen];omega))
    refine⟨_,ob',_,hrun,h2,?_⟩
    have e1:(olds++news++(aC zv.cells (grownCap w (n+k) cap e - (n+k))).toList).toArray=olds.toArray++news.toArray++aC zv.cells (grownCap w (n+k) cap e - (n+k)):=by apply bY;simp
    rw[e1]at h3;exact h3
theorem M7{d:Nat}{pos:String}{e:TypeId}{sz:Nat}{X Y:Operand}{x y:Value}{olds:List Value}(hx:ev m X=some x)(hy:ev m Y=some y)(ht:Hr P t=some e)(hs:YW P e=some (g,sz))(hz:XC P e=some z)(hzl:z.length=sz)(hby:ZU P e=some bytes)
  (hr:Qx e sz x n olds ob) (hs2:Src ⟨w0,F0,ob++bs,G⟩ sz y k news) (h63:n+k<=9223372036854775807) (h47:(n+k)*bytes<=140737488355328) (h1:∀v∈news,v.oneCell'=true)
  (kk:∀v' ob',Qx e sz v' (n+k) (olds++news) ob'->JS P ops Q l N ((d,v')::m) ⟨w0,F0,ob'++bs,G⟩) (hu:Gg e=true:=by rfl) (hd:J5 N (some d)=true:=by rfl) :
  JS P ops Q (⟨some d,.call ⟨.builtin .append,#[X,Y],#[t,t]⟩,ty,pos,aft,none⟩::l) N m ⟨w0,F0,ob++bs,G⟩:=λa w ha hw =>
 wpList_plain rfl λK hK=>by
  obtain⟨v',ob',w',h2,h3,h4⟩:=DU (ty:=ty) ht hs hz hzl hby hr hs2 hw h63 h47 h1 hu
  refine upon_value (w':=w') (v:=v') ?_ (hK _ _ (kk v' ob' h3 _ w' (ha.put hd v') h4))
  rw[YA]
  simp[builtin,ha.ev hx,ha.ev hy,h2]
theorem KG{d:Nat}{pos:String}{e:TypeId}{sz:Nat}{X Y:Operand}{x y:Value}{olds:List Value}(hx:ev m X=some x)(hy:ev m Y=some y)(ht:Hr P t=some e)(hs:YW P e=some (g,sz))(hz:XC P e=some z)(hzl:z.length=sz)(hby:ZU P e=some bytes)
  (hr:Qx e sz x n olds ob) (hs2:Src ⟨w0,F0,ob++bs,G⟩ sz y k news) (h63:n+k<=9223372036854775807) (h47:(n+k)*bytes<=140737488355328) (h1:∀v∈news,v.oneCell'=true) (hs0:bs0.Sublist bs) (hg0:∀F,G F->G0 F)
  (kk:∀v' ob',Qx e sz v' (n+k) (olds++news) ob'->JD P ops Q ⟨w0,F0,bs0,G0⟩ l N ((d,v')::m) ⟨w0,F0,ob'++bs,G⟩) (hu:Gg e=true:=by rfl) (hd:J5 N (some d)=true:=by rfl) :
  JD P ops Q ⟨w0,F0,bs0,G0⟩ (⟨some d,.call ⟨.builtin .append,#[X,Y],#[t,t]⟩,ty,pos,aft,none⟩::l) N m ⟨w0,F0,ob++bs,G⟩:=λ_ a w ha hw=>by
  obtain⟨v',ob',w',h2,h3,h4⟩:=DU (ty:=ty) ht hs hz hzl hby hr hs2 hw h63 h47 h1 hu
  have sub:∀w',St ⟨w0,F0,ob'++bs,G⟩ w'->St ⟨w0,F0,bs0,G0⟩ w':=λw' h=>h.imp (hs0.trans (List.sublist_append_right _ _)) hg0
  refine .inr ⟨rfl,?_⟩
  rw[if_pos (by simp[ao])]
  refine upon_value (w':=w') (v:=v') ?_ ⟨sub _ h4,kk v' ob' h3 sub _ w' (ha.put hd v') h4⟩
  rw[YA]
  simp[builtin,ha.ev hx,ha.ev hy,h2]
def Xb(z:List Value):Nat->List Value
 |0=>[]
 |n+1=>z++Xb z n
theorem DQ(z:List Value):∀n,(Xb z n).length=n*z.length
 |0=>by simp[Xb]
 |n+1=>by rw[Xb,aG,DQ z n,aD];omega
theorem RH(z:List Value):∀(n j:Nat),j<n*z.length->(Xb z n)[j]?=z[j%z.length]?
 |0,j,h=>by simp at h
 |n+1,j,h=>by
  rw[Xb,ek]
  split
  ·rename_i hj;rw[bC hj]
  ·rename_i hj
   rw[RH z n _ (by rw[aD,iS]at h;omega)]
   rw[<-Nat.mod_eq_sub_mod O]
theorem AP{z:Array Value}:madeCells z (n*z.size)=(Xb z.toList n).toArray:=by
 apply bM
 intro j
 simp only[madeCells,List.getElem?_toArray]
 by_cases hj:j<n*z.size
 ·have hz:0<z.size:=by rcases fD z.size with h | h;rw[h]at hj;simp at hj;exact h
  have hm:=ew j hz
  rw[RH z.toList n j (by simpa using hj)]
  simp[hj,hm]
 ·have e1:(Xb z.toList n)[j]?=none:=aI (by rw[DQ];simpa using hj)
  rw[e1,ab (by simpa using hj)]
theorem jM{e:TypeId}{sz n:Nat}{kl:IntKind}(ht:Hr P t=some e)(hs:YW P e=some (g,sz))(hz:XC P e=some z)(hzl:z.length=sz)(hby:ZU P e=some bytes)(h63:(n:Int)<=9223372036854775807)(h48:n*bytes<=281474976710656):
  (fT t (.int kl n) (.int kl n)).run P w = .ok (.slice (some ⟨w.heap.size,0,none⟩) n n) (w.alloc (.cells (Xb z n).toArray e)):=by
 have hi:∃i,P.info? e=some i/\i.size=sz/\i.bytes=bytes/\∃zv,i.zero=some zv/\zv.cells=z.toArray:=by
  unfold ZU at hby;unfold XC at hz;unfold YW at hs
  cases hie:P.info? e with
  |none=>rw[hie]at hby;cases hby
  |some i =>
   rw[hie]at hby hz hs
   dsimp only at hz hs
   simp only[aP,ai]at hby
   refine⟨i,rfl,?_,hby,?_⟩
   ·split at hs
    ·rename_i h1 h2;cases h2;cases hs;rfl
    ·cases hs
   ·cases hzz:i.zero with
    |none=>rw[hzz]at hz;cases hz
    |some zv=>rw[hzz]at hz;simp only[aP,ai]at hz;exact⟨zv,rfl,by rw[<-hz]⟩
 obtain⟨i,hi1,hi2,hi3,zv,hi4,hi5⟩:=hi
 subst hi3
 have hb:(i.bytes:Int)*(n:Int)<=281474976710656:=by
  have:((n*i.bytes:Nat):Int)<=281474976710656:=O
  rw[aU]at this;rw[bL];exact this
 have:=run_make (P:=P) w t e i zv (Qw ht) hi1 hi4 kl kl n n O (bD _) hb h63
 rw[this]
 have e2:i.size=zv.cells.size:=by rw[hi5];simp;omega
 simp only[eC,e2,AP,hi5]
theorem NI{d:Nat}{pos:String}{e:TypeId}{sz n:Nat}{X Y:Operand}{kl:IntKind}(hx:ev m X=some (.int kl (n:Int)))(hy:ev m Y=some (.int kl (n:Int)))(ht:Hr P t=some e)(hs:YW P e=some (g,sz))(hz:XC P e=some z)(hzl:z.length=sz)(hby:ZU P e=some bytes)(h63:(n:Int)<=9223372036854775807)(h48:n*bytes<=281474976710656)
  (k:∀b,JS P ops Q l N ((d,.slice (some ⟨b,0,none⟩) n n)::m) ⟨w0,F0,(b,.cells (Xb z n).toArray e (0,0))::bs,G⟩) (hu:Gg e=true:=by rfl) (hd:J5 N (some d)=true:=by rfl) :
  JS P ops Q (⟨some d,.makeSlice t X Y,ty,pos,aft,none⟩::l) N m ⟨w0,F0,bs,G⟩:=λa w ha hw =>
 wpList_plain rfl λ_ hK=>upon_value (by
  simp only[execOp,ha.ev hx,ha.ev hy,ak,jM ht hs hz hzl hby h63 h48,aq,aF]) (hK _ _ (k _ _ _ (ha.put hd _) (hw.alloc _ (ZB hu))))
end
end
section
variable[Dr][df:Df]
def Zz(P:Program)(T:TypeId):Option (List (Nat×Nat)):=match P.info? T,P.underlying T with
 |some _,some (.struct fields)=>fields.toList.mapM (λf=>(P.info? f.type).map λi=>(f.offset,i.size))
 |_,_=>none
inductive MM(pl:List (Nat×Nat)):List (Nat×Value)->List Value->List Value->Prop
 |nil {l:List Value}:MM pl [] l l
 |cons {i off sz:Nat} {v:Value} {vs cur cur' res:List Value} {r:List (Nat×Value)} (hf:pl[i]?=some (off,sz)) (hv:v.cells=vs.toArray) (hn:vs.length=sz) (hp:Kb cur off vs cur') (k:MM pl r cur' res):MM pl ((i,v)::r) cur res
theorem LG(off:Nat):∀(vs:List Value) (j:Nat) (cur cur':List Value),Kb cur (off+j) vs cur'->(vs.zipIdx j).foldl (λcs (x:Value×Nat)=>cs.setIfInBounds (off+x.2) x.1) cur.toArray=cur'.toArray
 |[],j,cur,cur',h=>by have:=h.eq;simp at this;simp[this]
 |v::vs,j,cur,cur',h=>by
  have hle:=h.le
  have hp2:Kb (cur.set (off+j) v) (off+(j+1)) vs cur':=by
   have key:∀(n:Nat) (cur l':List Value),Kb cur n (v::vs) l'->Kb (cur.set n v) (n+1) vs l':=by
    intro n
    induction n with
    |zero=>intro cur l' h;cases h with | here h=>exact .skip h
    |succ n ih=>intro cur l' h;cases h with | skip h=>exact .skip (ih _ _ h)
   exact key _ _ _ h
  rw[fL,eG]
  have:=LG off vs (j+1) _ _ hp2
  simpa using this
theorem MM.fill{cur res:List Value}(h:MM pl ps cur res):bX (pl.toArray[·]?) cur.toArray ps=some res.toArray:=by
 induction h with
 |nil=>rfl
 |cons hf hv hn hp k ih =>
  rename_i i off sz v vs cur cur' res r
  have hle:=hp.le
  unfold bX
  have e1:pl.toArray[i]?=some (off,sz):=by simpa using hf
  simp only[e1,hv,List.size_toArray,hn,ne_eq,not_true_eq_false,decide_false,il,decide_eq_true_eq]
  rw[if_neg O]
  have e2:vs.toArray.zipIdx.foldl (λcs (x:Value×Nat)=>cs.setIfInBounds (off+x.2) x.1) cur.toArray=cur'.toArray:=by
   have:=LG off vs 0 cur cur' (by simpa using hp)
   rw[<-this,<-eu];simp
  rw[e2];exact ih
section
variable{P:Program}{Q:Exit->Act->World->Prop}{N:Nat}{m:Sl}{E E0:Env}{ops:Array Oper}{l:List Oper}
theorem Ze{ops':Array Oper}{l':List Oper}(h:JS P ops' Q l' N m E):JD P ops (X9 (λa w=>wpList P ops' Q l' a w)) E0 [] N m E:=λ_=>h
theorem Q6(h:Fin Q .normal N m E):JD P ops (X9 (Q .normal)) E0 [] N m E:=λ_=>h
theorem Q3{t:Nat}{b:Bool}(h:look m t=some (.bool b))(ht:b=true->JS P ops Q l N ((t,.bool true)::m) E)(hf:b=false->JS P ops Q l N ((t,.bool false)::m) E):JS P ops Q l N m E:=λa w ha hw=>by
 cases b with
 |true=>exact ht rfl a w ⟨ha.size,ha.df,λi v hi=>by
   simp only[look]at hi
   cases hb:ba t i with
   |true=>rw[hb]at hi;have:t=i:=(by simpa using hb);subst this;exact ha.get _ _ (by rw[h];simpa using hi)
   |false=>rw[hb]at hi;exact ha.get _ _ hi⟩ hw
 |false=>exact hf rfl a w ⟨ha.size,ha.df,λi v hi=>by
   simp only[look]at hi
   cases hb:ba t i with
   |true=>rw[hb]at hi;have:t=i:=(by simpa using hb);subst this;exact ha.get _ _ (by rw[h];simpa using hi)
   |false=>rw[hb]at hi;exact ha.get _ _ hi⟩ hw
theorem N0{t:Nat}{b:Bool}(h:look m t=some (.bool b))(ht:b=true->JD P ops Q E0 l N ((t,.bool true)::m) E)(hf:b=false->JD P ops Q E0 l N ((t,.bool false)::m) E):JD P ops Q E0 l N m E:=λhE a w ha hw=>by
 cases b with
 |true=>exact ht rfl hE a w ⟨ha.size,ha.df,λi v hi=>by
   simp only[look]at hi
   cases hb:ba t i with
   |true=>rw[hb]at hi;have:t=i:=(by simpa using hb);subst this;exact ha.get _ _ (by rw[h];simpa using hi)
   |false=>rw[hb]at hi;exact ha.get _ _ hi⟩ hw
 |false=>exact hf rfl hE a w ⟨ha.size,ha.df,λi v hi=>by
   simp only[look]at hi
   cases hb:ba t i with
   |true=>rw[hb]at hi;have:t=i:=(by simpa using hb);subst this;exact ha.get _ _ (by rw[h];simpa using hi)
   |false=>rw[hb]at hi;exact ha.get _ _ hi⟩ hw
section
variable{d:Option Tmp}{o:Op}{ty:TypeId}{pos:String}{aft:Array Edge}{g t:Nat}{want:Bool}
theorem QM(hg:(ops[g]?).bind (·.dst)=some t)(hb:look m t=some (.bool want))(ht:JS P ops Q (⟨d,o,ty,pos,aft,none⟩::l) N m E)(hd:J5 N d=true:=by rfl):JS P ops Q (⟨d,o,ty,pos,aft,some (g,want)⟩::l) N m E :=
 QFC hg hb (λ_=>ht) (λh=>by cases want<;>cases h) hd
theorem YC(hg:(ops[g]?).bind (·.dst)=some t)(hb:look m t=some (.bool want))(ht:JD P ops Q E0 (⟨d,o,ty,pos,aft,none⟩::l) N m E)(hd:J5 N d=true:=by rfl):JD P ops Q E0 (⟨d,o,ty,pos,aft,some (g,want)⟩::l) N m E :=
 QFD hg hb (λ_=>ht) (λh=>by cases want<;>cases h) hd
theorem Qc{d:Nat}{b:Bool}(hg:(ops[g]?).bind (·.dst)=some t)(hb:look m t=some (.bool b))(hw:b=!want)(hf:JS P ops Q l N ((d,undef)::m) E)(hd:J5 N (some d)=true:=by rfl):JS P ops Q (⟨some d,o,ty,pos,aft,some (g,want)⟩::l) N m E :=
 QFC hg hb (λh=>by subst h;cases b<;>cases hw) (λ_=>hf) hd
theorem Xr{d:Nat}{b:Bool}(hg:(ops[g]?).bind (·.dst)=some t)(hb:look m t=some (.bool b))(hw:b=!want)(hf:JD P ops Q E0 l N ((d,undef)::m) E)(hd:J5 N (some d)=true:=by rfl):JD P ops Q E0 (⟨some d,o,ty,pos,aft,some (g,want)⟩::l) N m E :=
 QFD hg hb (λh=>by subst h;cases b<;>cases hw) (λ_=>hf) hd
end
theorem QAv{x y:Code}(m':Sl)(bs':List (Nat×Obj))(G':Gs->Prop)(h1:J P x (X9 (λa w=>JP N m' a/\St ⟨w0,F0,bs',G'⟩ w)) N m ⟨w0,F0,bs,G⟩)(h2:J P y Q N m' ⟨w0,F0,bs',G'⟩):J P (.seq x y) Q N m ⟨w0,F0,bs,G⟩:=λa w ha hw=>by
 refine wp_seq (wp_mono (h1 a w ha hw) ?_)
 intro e a' w' h
 cases e with
 |normal=>exact h2 a' w' h.1 h.2
 |_=>exact h.elim
theorem J3{m':Sl}(hm:KP m m')(hb:bs'.Sublist bs)(hg:∀F,G F->G' F):Fin (X9 (λa w=>JP N m' a/\St ⟨w0,F0,bs',G'⟩ w)) .normal N m ⟨w0,F0,bs,G⟩ :=
 λa w ha hw=>⟨ha.sub hm,hw.imp hb hg⟩
end
theorem Bn{x y:Code}(M:ι->Sl)(B:ι->List (Nat×Obj))(H:ι->Gs->Prop)
  (h1:J P x (X9 (λa w=>∃i,JP N (M i) a/\St ⟨w0,F0,B i,H i⟩ w)) N m ⟨w0,F0,bs,G⟩) (h2:∀i,J P y Q N (M i) ⟨w0,F0,B i,H i⟩):J P (.seq x y) Q N m ⟨w0,F0,bs,G⟩:=λa w ha hw=>by
 refine wp_seq (wp_mono (h1 a w ha hw) ?_)
 intro e a' w' h
 cases e with
 |normal=>obtain⟨i,h3,h4⟩:=h;exact h2 i a' w' h3 h4
 |_=>exact h.elim
theorem Zq{M:ι->Sl}{B:ι->List (Nat×Obj)}{H:ι->Gs->Prop}(i:ι)(hm:KP m (M i))(hb:(B i).Sublist bs)(hg:∀F,G F->H i F):
  Fin (X9 (λa w=>∃i,JP N (M i) a/\St ⟨w0,F0,B i,H i⟩ w)) .normal N m ⟨w0,F0,bs,G⟩:=λa w ha hw=>⟨i,ha.sub hm,hw.imp hb hg⟩
inductive CX:Sl->Sl->Prop
 |refl {m:Sl}:CX m m
 |cons {k:Nat} {v:Value} {l m:Sl} (hk:(look m k).isNone=true) (h:CX l m):CX ((k,v)::l) m
theorem CX.look{l:Sl}(h:CX l m){t:Nat}{u:Value}(hu:YtjcphjpkimmmjaaGreatDoor.look m t=some u):YtjcphjpkimmmjaaGreatDoor.look l t=some u:=by
 induction h with
 |refl=>exact hu
 |cons hk h ih =>
  rename_i k v l m
  have hne:ba k t=false:=by
   cases hb:ba k t with
   |false=>rfl
   |true=>have:k=t:=(by simpa using hb);subst this;rw[hu]at hk;cases hk
  simp only[YtjcphjpkimmmjaaGreatDoor.look,hne,cond_false]
  exact ih hu
section
variable{P:Program}{Q:Exit->Act->World->Prop}{N:Nat}{m l:Sl}{w0:World}{F0:Gs}{bs bs1:List (Nat×Obj)}{G G1:Gs->Prop}{x y:Code}
theorem MJ(t:Nat)(v:Value)(h1:J P x (X9 (λa w=>JP N ((t,v)::m) a/\St ⟨w0,F0,bs,G⟩ w)) N m ⟨w0,F0,bs,G⟩)(h2:J P y Q N ((t,v)::m) ⟨w0,F0,bs,G⟩):J P (.seq x y) Q N m ⟨w0,F0,bs,G⟩:=QAv _ _ _ h1 h2
theorem Zb{t:Nat}{v:Value}(he:CX l m)(ht:look l t=some v)(hb:bs.Sublist bs1)(hg:∀F,G1 F->G F):Fin (X9 (λa w=>JP N ((t,v)::m) a/\St ⟨w0,F0,bs,G⟩ w)) .normal N l ⟨w0,F0,bs1,G1⟩:=λa w ha hw =>
 ⟨⟨ha.size,ha.df,λi u hi=>by
  simp only[look]at hi
  cases hb:ba t i with
  |true=>rw[hb]at hi;have:t=i:=(by simpa using hb);subst this;exact ha.get _ _ (by rw[ht];simpa using hi)
  |false=>rw[hb]at hi;exact ha.get _ _ (he.look (by simpa using hi))⟩,hw.imp hb hg⟩
end
section
variable{P:Program}{N:Nat}{m:Sl}{S:World->Prop}{ty:TypeId}{v:Value}
theorem Qp{c:Operand}(hc:ev m c=some (.bool true))(hx:ev m x=some v)(hy:(ev m y).isSome=true):Qt P N m S (.pick c x y) ty v:=by
 obtain⟨u,hu⟩:=Option.isSome_iff_exists.1 hy
 exact ye hc hx hu
theorem Qj{c:Operand}(hc:ev m c=some (.bool false))(hx:(ev m x).isSome=true)(hy:ev m y=some v):Qt P N m S (.pick c x y) ty v:=by
 obtain⟨u,hu⟩:=Option.isSome_iff_exists.1 hx
 exact ye hc hu hy
theorem QBO{a:Int}(hx:ev m x=some (.int .i64 a))(hy:ev m y=some (.int .i64 1))(h:0<=a):Qt P N m S (.binOp .and T x y yT) ty (.int .i64 (a%2)):=λs w _ _ _ _ ha _=>by
 have e:IntKind.i64.wrap (((aO 64 a &&& aO 64 1).toNat:Nat):Int)=a%2:=by
  have h1:(aO 64 (1:Int)).toNat=1:=rfl
  rw[fA,h1,Nat.and_one_is_mod,fj]
  have h2:((((a%((2^64:Nat):Int)).toNat%2:Nat)):Int)=a%2:=by
   have h3:(((2^64:Nat):Int))=18446744073709551616:=wa
   rw[h3];omega
  rw[h2];exact I2 O
 have h1:aO 64 (1:Int)=1#64:=rfl
 rw[h1]at e
 simp[execOp,ha.ev hx,ha.ev hy,eqGuard,binOp,fS,bF]
 exact e
theorem yZ{k:IntKind}{a:Int}(hx:ev m x=some (.int .i64 a))(hy:ev m y=some (.int k 1)):Qt P N m S (.binOp .shr T x y yT) ty (.int .i64 (a / 2)):=λs w _ _ _ _ ha _=>by
 have e:a.fdiv 2=a / 2:=Int.fdiv_eq_ediv_of_nonneg a wa
 simp[execOp,ha.ev hx,ha.ev hy,eqGuard,binOp,iH,bF,e]
theorem Gd{e:TypeId}{q:Option Addr}{c:Nat}(hx:ev m x=some (.slice q n c))(hy:ev m y=some (.slice none 0 0))(hT:Hr P T=some e):Qt P N m S (.binOp .eql T x y yT) ty (.bool q.isNone):=λa w _ _ _ _ ha _=>by
 have:=ei (P:=P) w T e q n c 0 0 (Qw hT)
 simp[execOp,ha.ev hx,ha.ev hy,eqGuard,this]
theorem Rp{e:TypeId}{q:Option Addr}{c:Nat}(hx:ev m x=some (.slice q n c))(hy:ev m y=some (.slice none 0 0))(hT:Hr P T=some e):Qt P N m S (.binOp .neq T x y yT) ty (.bool (!q.isNone)):=λa w _ _ _ _ ha _=>by
 have:=run_neq_slice_nil_any (P:=P) w T e q n c 0 0 (Qw hT)
 simp[execOp,ha.ev hx,ha.ev hy,eqGuard,this]
theorem Qv{parts:Array (Nat×Operand)}{res:List Value}(hp:GR m parts.toList=some ps)(hl:Zz P T=some pl)(hz:XC P T=some z)(hb:MM pl ps z res):Qt P N m S (.build T parts) ty (.agg res.toArray):=λa w _ _ _ _ ha _=>by
 have hbt:P.built T ps=some res.toArray:=by
  unfold Zz at hl;unfold XC at hz
  unfold Program.built
  cases hi:P.info? T with
  |none=>rw[hi]at hl;cases hl
  |some i =>
   rw[hi]at hl hz
   cases hu:P.underlying T with
   |none=>rw[hu]at hl;cases hl
   |some d =>
    rw[hu]at hl
    cases d with
    |struct fields =>
     dsimp only at hl hz ⊢
     cases hzz:i.zero with
     |none=>rw[hzz]at hz;cases hz
     |some zv =>
      rw[hzz]at hz
      simp only[aP,ai]at hz
      rw[hl]
      have:=hb.fill
      rw[<-hz]at this
      simpa using this
    |_=>cases hl
 have e1:(parts.map λ(i,x)=>(i,a.eval x)).toList=ps:=by simpa using ha.parts hp
 have:=run_build (P:=P) w T (parts.map λ(i,x)=>(i,a.eval x)) _ (by rw[e1];exact hbt)
 simp only[execOp,ak,this,aq,aF]
end
end
def extB(n:Nat)(l:Sl):Bool:=(l.take n).all λkv=>(look (l.drop n) kv.1).isNone
theorem exd(n:Nat){l m:Sl}(hb:extB n l=true)(hm:l.drop n=m):CX l m:=by
 subst hm
 unfold extB at hb
 have key:∀(a m:Sl),(a.all λkv=>(look m kv.1).isNone)=true->CX (a++m) m:=by
  intro a m
  induction a with
  |nil=>intro _;exact .refl
  |cons x a ih =>
   intro h
   rw[List.all_cons,bB]at h
   exact .cons h.1 (ih h.2)
 have:=key _ _ hb
 rwa [e8]at this
theorem wL[Dr]{P:Program}{N:Nat}{m:Sl}{w0:World}{F0:Gs}{fn:Func}{val:Unit->Value}{fact:Unit->Gs->Prop}{bs:List (Nat×Obj)}{G:Gs->Prop}{t:Tmp}{v:Value}(hrs:fn.results=[ResultVar.tmp t].toArray)(h:look m t=some v)(hv:val ()=v)(hg:∀F,G F->fact () F):Fin (df:=VE) (bodyPost P fn (MQ w0 F0 val fact)) .ret N m ⟨w0,F0,bs,G⟩ :=
 QV () hrs (.tmp h .nil) hv hg
theorem H4.u1{x0:Nat×Obj}{r:List (Nat×Obj)}:H4 (x0::(b,o)::r) b o (λo'=>x0::(b,o')::r) (x0::r):=.there (.here)
theorem H4.u2{x0:Nat×Obj}{r:List (Nat×Obj)}:H4 (x0::x1::(b,o)::r) b o (λo'=>x0::x1::(b,o')::r) (x0::x1::r):=.there (.there (.here))
theorem H4.u3{x0 x2:Nat×Obj}{r:List (Nat×Obj)}:H4 (x0::x1::x2::(b,o)::r) b o (λo'=>x0::x1::x2::(b,o')::r) (x0::x1::x2::r):=.there (.there (.there (.here)))
theorem H4.u4{x0 x2 x3:Nat×Obj}{r:List (Nat×Obj)}:H4 (x0::x1::x2::x3::(b,o)::r) b o (λo'=>x0::x1::x2::x3::(b,o')::r) (x0::x1::x2::x3::r):=.there (.there (.there (.there (.here))))
theorem H4.u5{x0 x2 x3 x4:Nat×Obj}{r:List (Nat×Obj)}:H4 (x0::x1::x2::x3::x4::(b,o)::r) b o (λo'=>x0::x1::x2::x3::x4::(b,o')::r) (x0::x1::x2::x3::x4::r):=.there (.there (.there (.there (.there (.here)))))
theorem H4.u6{x0 x2 x3 x4 x5:Nat×Obj}{r:List (Nat×Obj)}:H4 (x0::x1::x2::x3::x4::x5::(b,o)::r) b o (λo'=>x0::x1::x2::x3::x4::x5::(b,o')::r) (x0::x1::x2::x3::x4::x5::r):=.there (.there (.there (.there (.there (.there (.here))))))
theorem wA{a b:Int}(h:a=b:=by omega):some (aK .i64 a)=some (aK .i64 b):=congrArg (λz:Int=>some (aK .i64 z)) h
theorem wB{t:Tmp}{v:Value}(h:look m t=some v):MH P m bs [.tmp t] [v]:=.tmp h .nil
theorem wC{t t':Tmp}{v v':Value}(h:look m t=some v)(h':look m t'=some v'):MH P m bs [.tmp t,.tmp t'] [v,v']:=.tmp h (.tmp h' .nil)
theorem wD{v a b x y:Value}(hf:pl=[(0,1),(1,1)])(ha:u.cells=[a].toArray)(hb:v.cells=[b].toArray):MM pl [(0,u),(1,v)] [x,y] [a,b]:=by subst hf;exact .cons (vs:=[a]) I ha rfl .h1 (.cons (vs:=[b]) I hb rfl (.skip .h1) .nil)
theorem JR:YW Tryz.prog 3=some (false,1):=y0
theorem N3:XC Tryz.prog 3=some [.int .i64 0]:=y0
theorem Av:ZU Tryz.prog 3=some 8:=y0
theorem k_3:Na Tryz.prog 3=some .i64:=y0
theorem QDf:(Tryz.prog.underlying 3).isSome=true:=y0
theorem QDh:YW Tryz.prog 5=some (false,1):=y0
theorem z_5:XC Tryz.prog 5=some [.int .u8 0]:=y0
theorem QGf:ZU Tryz.prog 5=some 1:=y0
theorem QF0:(Tryz.prog.underlying 5).isSome=true:=y0
theorem RP:YW Tryz.prog 9=some (false,1):=y0
theorem z_9:XC Tryz.prog 9=some [.string .empty]:=y0
theorem QGe:ZU Tryz.prog 9=some 16:=y0
theorem ZQ:Bu Tryz.prog 9=true:=y0
theorem XA:YW Tryz.prog 22=some (false,1):=y0
theorem Lz:XC Tryz.prog 22=some [.string .empty]:=y0
theorem QCn:ZU Tryz.prog 22=some 16:=y0
theorem XD:YW Tryz.prog 40=some (true,2):=y0
theorem Xm:XC Tryz.prog 40=some [.string .empty,.string .empty]:=y0
theorem QEt:ZU Tryz.prog 40=some 32:=y0
theorem Zu:Zz Tryz.prog 40=some [(0,1),(1,1)]:=y0
theorem O8:KC Tryz.prog 40 0=some (0,22):=y0
theorem O7:KC Tryz.prog 40 1=some (1,22):=y0
theorem Yf:YW Tryz.prog 26=some (false,1):=y0
theorem Hz:XC Tryz.prog 26=some [.int .i64 0]:=y0
theorem XJ:YW Tryz.prog 36=some (false,1):=y0
theorem QDa:XC Tryz.prog 36=some [.slice none 0 0]:=y0
theorem QEu:ZU Tryz.prog 36=some 24:=y0
theorem Xq:Hr Tryz.prog 36=some 40:=y0
theorem Yj:Hr Tryz.prog 25=some 22:=y0
theorem NL:YW Tryz.prog 76=some (false,1):=y0
theorem QDZ:XC Tryz.prog 76=some [.slice none 0 0]:=y0
theorem BK:Hr Tryz.prog 76=some 108:=y0
theorem NM:YW Tryz.prog 35=some (false,1):=y0
theorem EZ:Hr Tryz.prog 35=some 76:=y0
theorem Jf:YW Tryz.prog 106=some (false,1):=y0
theorem Q2:Hr Tryz.prog 106=some 3:=y0
theorem VH:YW Tryz.prog 108=some (true,2):=y0
theorem W4:XC Tryz.prog 108=some [.string .empty,.slice none 0 0]:=y0
theorem Du:Zz Tryz.prog 108=some [(0,1),(1,1)]:=y0
theorem Ai:KC Tryz.prog 108 0=some (0,22):=y0
theorem E3:KC Tryz.prog 108 1=some (1,106):=y0
theorem Vp:YW Tryz.prog 131=some (false,1):=y0
theorem KY:Hr Tryz.prog 131=some 297:=y0
theorem Qd:YW Tryz.prog 133=some (true,2):=y0
theorem Y7:XC Tryz.prog 133=some [.int .i64 0,.slice none 0 0]:=y0
theorem QBW:Zz Tryz.prog 133=some [(0,1),(1,1)]:=y0
theorem Ez:KC Tryz.prog 133 0=some (0,3):=y0
theorem DA:KC Tryz.prog 133 1=some (1,131):=y0
theorem QL:YW Tryz.prog 135=some (true,4):=y0
theorem Ju:XC Tryz.prog 135=some [.int .i64 0,.slice none 0 0,.int .i64 0,.slice none 0 0]:=y0
theorem uy:ZU Tryz.prog 135=some 64:=y0
theorem Me:Zz Tryz.prog 135=some [(0,2),(2,2)]:=y0
theorem Z1:KC Tryz.prog 135 0=some (0,133):=y0
theorem Z0:KC Tryz.prog 135 1=some (2,133):=y0
theorem Jq:YW Tryz.prog 147=some (true,2):=y0
theorem K9:XC Tryz.prog 147=some [.bool false,.slice none 0 0]:=y0
theorem y9:Zz Tryz.prog 147=some [(0,1),(1,1)]:=y0
theorem Ya:YW Tryz.prog 190=some (false,1):=y0
theorem FM:XC Tryz.prog 190=some [.slice none 0 0]:=y0
theorem gH:ZU Tryz.prog 190=some 24:=y0
theorem KB:Hr Tryz.prog 190=some 263:=y0
theorem Xy:YW Tryz.prog 263=some (true,5):=y0
theorem GY:XC Tryz.prog 263=some [.int .i64 0,.slice none 0 0,.int .i64 0,.slice none 0 0,.slice none 0 0]:=y0
theorem QCE:ZU Tryz.prog 263=some 88:=y0
theorem y5:Zz Tryz.prog 263=some [(0,4),(4,1)]:=y0
theorem W9:KC Tryz.prog 263 0=some (0,135):=y0
theorem V8:KC Tryz.prog 263 1=some (4,106):=y0
theorem Yb:YW Tryz.prog 186=some (false,1):=y0
theorem Yk:Hr Tryz.prog 186=some 190:=y0
theorem XY:Hr Tryz.prog 138=some 135:=y0
theorem ZG:Hr Tryz.prog 249=some 26:=y0
theorem QAU:Na Tryz.prog 337=some .u64:=y0
theorem RQ:YW Tryz.prog 297=some (false,1):=y0
theorem QDb:XC Tryz.prog 297=some [.int .u64 0]:=y0
theorem Hp:YW Tryz.prog 34=some (false,1):=y0
theorem Wf:Hr Tryz.prog 34=some 9:=y0
theorem MR:YW Tryz.prog 323=some (false,1):=y0
theorem BC:YW Tryz.prog 324=some (false,1):=y0
theorem OQ:Hr Tryz.prog 324=some 5:=y0
theorem cV:XC Tryz.prog 326=some [.pointer none,.slice none 0 0]:=y0
theorem Af:KC Tryz.prog 326 0=some (0,323):=y0
theorem Pg:KC Tryz.prog 326 1=some (1,324):=y0
theorem mixed:Tryz.prog.follows .mixedOrders=true:=y0
end Go.Proofs.YtjcphjpkimmmjaaGreatDoor
namespace Ig
def dv(b:Int):List Int->Int
 |[]=>0
 |x::l=>x+b*dv b l
def DG(b:Int)(l:List Int):Prop:=∀x∈l,0<=x/\x<b
def NZ(l:List Int):Prop:=l.getLast?≠some 0
@[simp] theorem j0 (b:Int):dv b []=0:=rfl
@[simp] theorem KV (b x:Int) (l:List Int):dv b (x::l)=x+b*dv b l:=rfl
theorem Z4(b:Int)(l m:List Int):dv b (l++m)=dv b l+b^l.length*dv b m:=by
 induction l with
 |nil=>simp
 |cons x l ih=>simp only[fO,KV,ih,aN];rw[aB];grind
theorem Xl(b x:Int)(l:List Int):dv b (l++[x])=dv b l+b^l.length*x:=by
 rw[Z4];simp
theorem DG.nil(b:Int):DG b []:=by intro x hx;cases hx
theorem DG.cons{b x:Int}{l:List Int}(h0:0<=x)(h1:x<b)(h:DG b l):DG b (x::l):=by
 intro y hy;rcases List.mem_cons.1 hy with rfl | hy
 ·exact⟨h0,h1⟩
 ·exact h y hy
theorem DG.head{b x:Int}{l:List Int}(h:DG b (x::l)):0<=x/\x<b:=h x we
theorem DG.tail{b x:Int}{l:List Int}(h:DG b (x::l)):DG b l:=λy hy=>h y (by simp[hy])
theorem DG.append{b:Int}{l m:List Int}(h:DG b l)(k:DG b m):DG b (l++m):=by
 intro x hx;rcases List.mem_append.1 hx with hx | hx
 ·exact h x hx
 ·exact k x hx
theorem DG.left{b:Int}{l m:List Int}(h:DG b (l++m)):DG b l:=λx hx=>h x (by simp[hx])
theorem DG.right{b:Int}{l m:List Int}(h:DG b (l++m)):DG b m:=λx hx=>h x (by simp[hx])
theorem DG.take{b:Int}{l:List Int}(h:DG b l)(n:Nat):DG b (l.take n):=λx hx=>h x (List.mem_of_mem_take hx)
theorem DG.drop{b:Int}{l:List Int}(h:DG b l)(n:Nat):DG b (l.drop n):=λx hx=>h x (List.mem_of_mem_drop hx)
theorem DG.replicate{b:Int}(hb:0<b)(n:Nat):DG b (ah n 0):=by
 intro x hx;have:=List.eq_of_mem_replicate hx;omega
theorem DG.getD{b:Int}{l:List Int}(hb:0<b)(h:DG b l)(i:Nat):0<=l.getD i 0/\l.getD i 0<b:=by
 by_cases hi:i<l.length
 ·have:l.getD i 0=l[i]:=by simp[aZ,hi]
  rw[this];exact h _ (fN hi)
 ·have:l.getD i 0=0:=by simp[aZ,hi]
  omega
theorem DG.set{b:Int}{l:List Int}(h:DG b l)(i:Nat){x:Int}(h0:0<=x)(h1:x<b):DG b (l.set i x):=by
 intro y hy;rcases List.mem_or_eq_of_mem_set hy with hy | rfl
 ·exact h y hy
 ·exact⟨h0,h1⟩
theorem pow_pos{b:Int}(hb:0<b)(n:Nat):0<b^n:=iU hb
theorem X1{b:Int}(hb:1<=b){m n:Nat}(h:m<=n):b^m<=b^n:=by
 obtain⟨k,rfl⟩:=Nat.exists_eq_add_of_le h
 rw[fl]
 have h1:=pow_pos (b:=b) O m
 have h2:=pow_pos (b:=b) O k
 have h3:b^m*1<=b^m*b^k:=af O O
 omega
theorem Q8{b:Int}(hb:0<b):∀ {l:List Int},DG b l->0<=dv b l
 |[],_=>we
 |x::l,h=>by
  have:=Q8 hb h.tail
  have:=aJ (bc hb) this
  have:=h.head;simp;omega
theorem KE{b:Int}(hb:0<b):∀ {l:List Int},DG b l->dv b l<b^l.length
 |[],_=>we
 |x::l,h=>by
  have h1:=KE hb h.tail
  have h2:=h.head
  have h3:b*(dv b l+1)<=b*b^l.length:=af O (bc hb)
  rw[aN,aB,bL (b^l.length) b]
  rw[fm]at h3
  simp;omega
theorem SY(b:Int)(n:Nat):dv b (ah n 0)=0:=by
 induction n with
 |zero=>rfl
 |succ n ih=>simp[bf,ih]
theorem Ve(b:Int)(l:List Int)(n:Nat)(h:n<=l.length):dv b l=dv b (l.take n)+b^n*dv b (l.drop n):=by
 have:=Z4 b (l.take n) (l.drop n)
 rw[e8,aj,aR h]at this;exact this
theorem GZ{α:Type}(l:List α)(n:Nat)(h:n<l.length):l.take (n+1)=l.take n++[l[n]]:=by
 rw[List.take_succ_eq_append_getElem h]
theorem Hf(b:Int)(l:List Int)(n:Nat)(h:n<l.length):dv b (l.take (n+1))=dv b (l.take n)+b^n*l[n]:=by
 rw[GZ l n h,Xl,aj,aR O]
theorem Nk{b:Int}(hb:0<b){l:List Int}(h:DG b l)(hn:NZ l)(hl:l≠[]):b^(l.length - 1)<=dv b l:=by
 obtain⟨m,x,rfl⟩:∃m x,l=m++[x]:=⟨l.dropLast,l.getLast hl,(eH hl).symm⟩
 rw[Xl]
 have h1:x≠0:=by intro e;subst e;exact hn we
 have h2:=h x we
 have h3:=Q8 hb h.left
 have h4:=pow_pos hb m.length
 have h5:b^m.length*1<=b^m.length*x:=af O O
 simp;omega
def JH(l:List Int):List Int:=(l.reverse.dropWhile (·==0)).reverse
theorem KS(l:List Int):JH (l++[0])=JH l:=by simp[JH]
theorem Wc(l:List Int){x:Int}(h:x≠0):JH (l++[x])=l++[x]:=by simp[JH,h]
theorem Tb:JH []=[]:=rfl
theorem Rc(l:List Int):l=[]\/∃m x,l=m++[x]:=by
 by_cases hl:l=[]
 ·exact .inl hl
 ·exact .inr ⟨l.dropLast,l.getLast hl,(eH hl).symm⟩
theorem Fp{P:List Int->Prop}(h0:P [])(h1:∀l x,P l->P (l++[x]))(l:List Int):P l:=by
 have:∀m:List Int,P m.reverse:=by
  intro m;induction m with
  |nil=>exact h0
  |cons x m ih=>rw[List.reverse_cons];exact h1 _ _ ih
 simpa using this l.reverse
theorem RS(l:List Int):∃n,l=JH l++ah n 0:=by
 induction l using Fp with
 |h0=>exact⟨0,rfl⟩
 |h1 l x ih =>
  by_cases hx:x=0
  ·subst hx;obtain⟨n,hn⟩:=ih
   refine⟨n+1,?_⟩
   rw[KS,List.replicate_succ',<-bp,<-hn]
  ·exact⟨0,by rw[Wc l hx];simp⟩
theorem Dh(l:List Int):JH l=l.take (JH l).length:=by
 obtain⟨n,hn⟩:=RS l
 have:l.take (JH l).length=(JH l++ah n 0).take (JH l).length:=by rw[<-hn]
 rw[this];simp
theorem YQ(l:List Int):(JH l).length<=l.length:=by
 obtain⟨n,hn⟩:=RS l
 have:=congrArg List.length hn;simp at this;omega
theorem Xe(b:Int)(l:List Int):dv b (JH l)=dv b l:=by
 obtain⟨n,hn⟩:=RS l
 have:dv b l=dv b (JH l++ah n 0):=by rw[<-hn]
 rw[this,Z4,SY];simp
theorem ZW(l:List Int):NZ (JH l):=by
 induction l using Fp with
 |h0=>simp[Tb,NZ]
 |h1 l x ih =>
  by_cases hx:x=0
  ·subst hx;rw[KS];exact ih
  ·rw[Wc l hx];simp[NZ,hx]
theorem DG.JH{b:Int}{l:List Int}(h:DG b l):DG b (JH l):=by rw[Dh];exact h.take _
theorem cY{l:List Int}(h:NZ l):JH l=l:=by
 rcases Rc l with rfl | ⟨m,x,rfl⟩
 ·rfl
 ·exact Wc m (by intro e;subst e;exact h we)
theorem SZ{b:Int}(hb:0<b):∀ {l m:List Int},DG b l->DG b m->l.length=m.length->dv b l=dv b m->l=m
 |[],[],_,_,_,_=>rfl
 |x::l,y::m,h,k,hl,e=>by
  have h1:=h.head;have h2:=k.head
  simp only[KV]at e
  have e1:x=y:=by
   have a1:(x+b*dv b l)%b=x:=by rw[eU];exact bS h1.1 h1.2
   have a2:(y+b*dv b m)%b=y:=by rw[eU];exact bS h2.1 h2.2
   rw[<-a1,<-a2,e]
  subst e1
  have e2:b*dv b l=b*dv b m:=O
  have e3:=Int.eq_of_mul_eq_mul_left O e2
  rw[SZ hb h.tail k.tail (by simpa using hl) e3]
theorem ZY{b:Int}(hb:1<b){l m:List Int}(h:DG b l)(k:DG b m)(km:NZ m)(hl:l.length<m.length):dv b l<dv b m:=by
 have h1:=KE O h
 have h2:=Nk O k km (by intro e;subst e;simp at hl)
 have h3:b^l.length<=b^(m.length - 1):=X1 O O
 omega
theorem uf{b:Int}(hb:1<b){l m:List Int}(h:DG b l)(k:DG b m)(hn:NZ l)(kn:NZ m)(e:dv b l=dv b m):l=m:=by
 refine SZ O h k ?_ e
 rcases fK l.length m.length with g | g | g
 ·have:=ZY hb h k kn g;omega
 ·exact g
 ·have:=ZY hb k h hn g;omega
theorem Vs{b:Int}(hb:1<b){l:List Int}(h:DG b l)(hn:NZ l):dv b l=0↔l=[]:=by
 constructor
 ·intro e;exact uf hb h (DG.nil b) hn (by simp[NZ]) (by simpa using e)
 ·rintro rfl;rfl
def QCC:List Int->List Int->Int
 |x::l,y::m=>if x=y then QCC l m else if x<y then -1 else 1
 |_,_=>0
def ED(x:Int):Int:=if x<0 then -1 else if x=0 then 0 else 1
def YP(x y:Int):Int:=if x<y then -1 else if x=y then 0 else 1
theorem gA(x y:Int):YP x y=ED (x - y):=by unfold YP ED;split<;>split<;>(try split)<;>omega
theorem CA{b:Int}(hb:0<b){l m:List Int}{x y:Int}(h:DG b l)(k:DG b m)(hl:l.length=m.length)(hxy:x<y):
  dv b (l++[x])<dv b (m++[y]):=by
 rw[Xl,Xl,hl]
 have h1:=KE hb h;have h2:=Q8 hb k
 rw[hl]at h1
 have h3:b^m.length*(x+1)<=b^m.length*y:=af O (bc (pow_pos hb _))
 rw[fm]at h3;omega
theorem CK{b:Int}(hb:0<b){l m:List Int}(h:DG b l)(k:DG b m)(hl:l.length=m.length)(n:Nat)(hn:n<l.length)
  (hs:l.drop (n+1)=m.drop (n+1)) (hxy:l[n]<m[n]' O):dv b l<dv b m:=by
 rw[Ve b l (n+1) O,Ve b m (n+1) O,hs,GZ l n hn,GZ m n O]
 have:=CA hb (h.take n) (k.take n) wg hxy
 omega
end Ig
namespace Go.Proofs.YtjcphjpkimmmjaaGreatDoor
variable{w w' w0:World}{E N b bytes i id k n off:Nat}{a:Act}{c cs l l' news z:List Value}{o:Obj}{u v1 v3 v4 v5 x2 x3 x4 x5 x6 x7 x8:Value}{A0 A1 A2 A3 A4 A5 A6 A7 A8 A9 α γ ι:Type}{T T' t yT:TypeId}{ops:Array Oper}{Q Q':Exit->Act->World->Prop}{tl:List Oper}{K:Act->World->Prop}{g:Bool}{x y:Operand}{bs bs' bs0 ob:List (Nat×Obj)}{fr:Nat×Nat}{P:Program}{f:Obj->List (Nat×Obj)}{fn:Func}{aft:Array Edge}{gd:Option (Nat×Bool)}{x1:Nat×Obj}{ps:List (Nat×Value)}{k':IntKind}{s:ByteArray}{pl:List (Nat×Nat)}{ds:List Int}{h:Int}{F F0:Gs}{G G' G0:Gs->Prop}{m:Sl}
open Go.RowKit Ig
def W:Int:=18446744073709551616
theorem Hm:W=18446744073709551616:=rfl
theorem Jx:0<W:=wa
theorem PJ:1<W:=wa
def Kc(w:World)(s:Int)(q:Option Addr)(n cap:Nat)(z:Int):Prop :=
 (q=none/\n=0/\cap=0/\s=z/\-9223372036854775808<=z/\z<=9223372036854775807) \/
 ∃(b off:Nat) (l:List Int),q=some ⟨b,off,none⟩/\n=l.length/\l.length<=cap/\(cap:Int)<=9223372036854775807/\Cells w q Jl l /\
  DG W l/\NZ l/\l≠[]/\(s=1\/s = -1)/\z=s*dv W l/\9223372036854775808<=dv W l
def Xf(w:World)(v:Value)(z:Int):Prop:=∃s q n cap,v = .agg #[.int .i64 s,.slice q n cap]/\Kc w s q n cap z
theorem Kc.ext(h:Ext w w'){s:Int}{q:Option Addr}{n cap:Nat}{z:Int}(hv:Kc w s q n cap z):Kc w' s q n cap z:=by
 rcases hv with hv | ⟨b,off,l,h1,h2,h3,h4,h5,h6⟩
 ·exact .inl hv
 ·exact .inr ⟨b,off,l,h1,h2,h3,h4,h5.ext h,h6⟩
theorem Xf.ext(h:Ext w w'){v:Value}{z:Int}(hv:Xf w v z):Xf w' v z:=by
 obtain⟨s,q,n,cap,rfl,hp⟩:=hv;exact⟨s,q,n,cap,rfl,hp.ext h⟩
theorem Xf.small(w:World){z:Int}(h0 : -9223372036854775808<=z)(h1:z<=9223372036854775807):Xf w (.agg #[.int .i64 z,.slice none 0 0]) z :=
 ⟨z,none,0,0,rfl,.inl ⟨rfl,rfl,rfl,rfl,h0,h1⟩⟩
def Zw(w:World)(R:Value->World->Prop)(e:Ending)(w':World):Prop:=∃v,e = .returned v/\R v w'/\Ext w w'
def Jr(z:Int):Int:=if z<0 then -z else z
theorem Er{z:Int}(h:z<0):Jr z = -z:=if_pos h
theorem Gk{z:Int}(h:0<=z):Jr z=z:=if_neg O
theorem VU(z:Int):Jr z=z.natAbs:=by unfold Jr;split<;>omega
def sg(neg:Bool)(n:Int):Int:=if neg then -n else n
theorem kY(neg:Bool)(q:Option Addr)(cap:Nat)(w:World):
  Calls Tryz.prog 267 #[.bool neg,.slice q 0 cap] w λe w'=>Zw w (λv w'=>Xf w' v 0) e w':=by
 go_enter Tryz.func267,Tryz.ntmps267
 go_wp2
 exact bodyPost_ret (v:=.agg #[.int .i64 0,.slice none 0 0]) (by simp[results,Tryz.results267,go_sem]) I ⟨_,rfl,Xf.small _ wa wa,(Ext.refl _).alloc _⟩
theorem kX(neg:Bool)(b off cap:Nat)(x:Int)(w:World)(hc:w.cell? ⟨b,off,none⟩=some (.int .u64 x))(h0:0<=x)(h1:x<=9223372036854775807)(hb:b<w.heap.size):
  Calls Tryz.prog 267 #[.bool neg,.slice (some ⟨b,off,none⟩) 1 cap] w λe w'=>Zw w (λv w'=>Xf w' v (sg neg x)) e w':=by
 cases neg
 ·go_enter Tryz.func267,Tryz.ntmps267
  go_wp2
  exact bodyPost_ret (v:=.agg #[.int .i64 x,.slice none 0 0]) (by simp[results,Tryz.results267,go_sem]) I ⟨_,rfl,Xf.small _ O O,(Ext.refl _).alloc _⟩
 ·go_enter Tryz.func267,Tryz.ntmps267
  go_wp2
  exact bodyPost_ret (v:=.agg #[.int .i64 (-x),.slice none 0 0]) (by simp[results,Tryz.results267,go_sem]) I ⟨_,rfl,Xf.small _ O O,(Ext.refl _).alloc _⟩
theorem jk(neg:Bool)(b off cap:Nat)(x:Int)(w:World)(hc:w.cell? ⟨b,off,none⟩=some (.int .u64 x))(h1:9223372036854775808<=x)(hb:b<w.heap.size):
  Calls Tryz.prog 267 #[.bool neg,.slice (some ⟨b,off,none⟩) 1 cap] w λe w'=>e = .returned (.agg #[.int .i64 (if neg then -1 else 1),.slice (some ⟨b,off,none⟩) 1 cap])/\Ext w w':=by
 cases neg
 ·go_enter Tryz.func267,Tryz.ntmps267
  go_wp2
  exact bodyPost_ret (v:=.agg #[.int .i64 1,.slice (some ⟨b,off,none⟩) 1 cap]) (by simp[results,Tryz.results267,go_sem]) I ⟨rfl,(Ext.refl _).alloc _⟩
 ·go_enter Tryz.func267,Tryz.ntmps267
  go_wp2
  exact bodyPost_ret (v:=.agg #[.int .i64 (-1),.slice (some ⟨b,off,none⟩) 1 cap]) (by simp[results,Tryz.results267,go_sem]) I ⟨rfl,(Ext.refl _).alloc _⟩
theorem jj(neg:Bool)(q:Option Addr)(n cap:Nat)(w:World)(hn:2<=n):
  Calls Tryz.prog 267 #[.bool neg,.slice q n cap] w λe w'=>e = .returned (.agg #[.int .i64 (if neg then -1 else 1),.slice q n cap])/\Ext w w':=by
 cases neg
 ·go_enter Tryz.func267,Tryz.ntmps267
  go_wp2
  exact bodyPost_ret (v:=.agg #[.int .i64 1,.slice q n cap]) (by simp[results,Tryz.results267,go_sem]) I ⟨rfl,(Ext.refl _).alloc _⟩
 ·go_enter Tryz.func267,Tryz.ntmps267
  go_wp2
  exact bodyPost_ret (v:=.agg #[.int .i64 (-1),.slice q n cap]) (by simp[results,Tryz.results267,go_sem]) I ⟨rfl,(Ext.refl _).alloc _⟩
theorem Wk(neg:Bool)(v:Value)(l:List Int)(w:World)(hs:SL w v Jl l)(hd:DG W l)(hn:NZ l):
  Calls Tryz.prog 267 #[.bool neg,v] w λe w'=>Zw w (λv w'=>Xf w' v (sg neg (dv W l))) e w':=by
 obtain⟨q,cap,rfl,h2,h3,h4⟩:=hs
 match l,hd,hn,h2,h4 with
 |[],hd,hn,h2,h4=>exact(kY neg q cap w).mono λe w' h=>by cases neg<;>exact h
 |[x],hd,hn,h2,h4 =>
  obtain⟨b,off,rfl,hb,hc⟩:=h4 0 we
  have hx:=hd.head
  have e1:dv W [x]=x:=we
  rw[e1]
  by_cases hx1:x<=9223372036854775807
  ·exact kX neg b off cap x w hc hx.1 hx1 hb.lt
  ·refine(jk neg b off cap x w hc O hb.lt).mono λe w' ⟨h,k⟩=>⟨_,h,⟨_,_,_,_,rfl,.inr ⟨b,off,[x],rfl,rfl,h2,h3,h4.ext k,hd,hn,we,?_,?_,by rw[e1];omega⟩⟩,k⟩
   ·cases neg<;>simp
   ·cases neg<;>simp[sg]
 |x::y::l,hd,hn,h2,h4 =>
  obtain⟨b,off,rfl,hb,hc⟩:=h4 0 we
  refine(jj neg _ _ cap w we).mono λe w' ⟨h,k⟩=>⟨_,h,⟨_,_,_,_,rfl,.inr ⟨b,off,x::y::l,rfl,rfl,h2,h3,h4.ext k,hd,hn,we,?_,?_,?_⟩⟩,k⟩
  ·cases neg<;>simp
  ·cases neg<;>simp[sg]
  ·have:=Nk Jx hd hn we
   have h6:=X1 (b:=W) wa (m:=1) (n:=(x::y::l).length - 1) we
   have h7:W^1=18446744073709551616:=wa
   omega
theorem jb(s:Int)(b off n cap:Nat)(w:World):
  Calls Tryz.prog 266 #[.agg #[.int .i64 s,.slice (some ⟨b,off,none⟩) n cap]] w λe w'=>e = .returned (.tuple #[.bool (decide (s<0)),.slice (some ⟨b,off,none⟩) n cap])/\Ext w w':=by
 have hn:=λw=>run_neq_slice_nil_any (P:=Tryz.prog) w 131 297 (some ⟨b,off,none⟩) n cap 0 0 Tryz.underlying131
 go_enter Tryz.func266,Tryz.ntmps266
 go_wp2
 go_quiet (fail)
 go_wp2
 go_ret2
 exact⟨rfl,((Ext.refl _).alloc _).drewN _⟩
theorem Oh(w:World):
  Calls Tryz.prog 266 #[.agg #[.int .i64 0,.slice none 0 0]] w λe w'=>e = .returned (.tuple #[.bool false,.slice none 0 0])/\Ext w w':=by
 have hn:=λw=>run_neq_slice_nil_any (P:=Tryz.prog) w 131 297 none 0 0 0 0 Tryz.underlying131
 go_enter Tryz.func266,Tryz.ntmps266
 go_wp2
 go_ret2
 exact⟨rfl,(Ext.refl _).alloc _⟩
theorem qx(n:Int)(h0 : -9223372036854775808<=n)(h:n<0):IntKind.u64.wrap (wrap64 (-n))=Jr n:=by
 rw[Er h]
 have e:IntKind.u64.wrap (wrap64 (-n))=(wrap64 (-n))%18446744073709551616:=by simp[fW,fH,bF]
 rw[e];unfold wrap64;omega
theorem BL(n:Int)(w:World)(h0 : -9223372036854775808<=n)(h1:n<=9223372036854775807):
  Calls Tryz.prog 265 #[.int .i64 n] w λe w'=>e = .returned (.int .u64 (Jr n))/\w=w':=by
 by_cases h:n<0
 ·have H:=aa (qx n h0 h)
  go_enter Tryz.func265,Tryz.ntmps265
  go_wp2
  go_ret
  exact⟨congrArg (λx=>fJ (.int .u64 x)) H.out,rfl⟩
 ·have H:=aa (Gk (z:=n) O)
  go_enter Tryz.func265,Tryz.ntmps265
  go_wp2
  go_ret
  exact⟨congrArg (λx=>fJ (.int .u64 x)) H.out.symm,rfl⟩
theorem IG(z:Int)(w:World)(hz:(z==0)=false)(h0 : -9223372036854775808<=z)(h1:z<=9223372036854775807):
  Calls Tryz.prog 266 #[.agg #[.int .i64 z,.slice none 0 0]] w λe w'=>(∃b,e = .returned (.tuple #[.bool (decide (z<0)),.slice (some ⟨b,0,none⟩) 1 1])/\KX w' b 297 Jl [Jr z])/\Ext w w':=by
 have hn:=λw=>run_neq_slice_nil_any (P:=Tryz.prog) w 131 297 none 0 0 0 0 Tryz.underlying131
 go_enter Tryz.func266,Tryz.ntmps266
 go_wp2
 go_region_held3 (λw'=>w'.cell? ⟨w.heap.size,0,none⟩=some (.int .i64 z)) (go_keep) (first | (go_at_call 265;refine(BL _ _ h0 h1).mono ?_;rintro e w' ⟨rfl,rfl⟩))
 go_wp2
 go_ret2
 exact⟨⟨_,rfl,(KX.QGS _ _ 297 Jl [Jr z] _ I we).drew⟩,(((Ext.refl _).alloc _).alloc _).drew⟩
theorem Kg(v:Value)(z:Int)(w:World)(hv:Xf w v z):
  Calls Tryz.prog 266 #[v] w λe w'=>Zw w (λr w'=>∃p l,r = .tuple #[.bool (decide (z<0)),p]/\SL w' p Jl l/\DG W l/\NZ l/\dv W l=Jr z) e w':=by
 obtain⟨s,q,n,cap,rfl,hp⟩:=hv
 rcases hp with ⟨rfl,rfl,rfl,rfl,h0,h1⟩ | ⟨b,off,l,rfl,rfl,h3,h4,h5,h6,h7,h8,h9,h10,h11⟩
 ·by_cases hz:s=0
  ·subst hz
   exact(Oh w).mono λe w' ⟨h,k⟩=>⟨_,h,⟨_,[],rfl,SL.nil _ _,DG.nil _,by simp[NZ],rfl⟩,k⟩
  ·refine(IG s w (by simpa using hz) h0 h1).mono λe w' ⟨⟨b,h,hb⟩,k⟩=>⟨_,h,⟨_,[Jr s],rfl,SL.BS hb 1 (av _) we,?_,?_,we⟩,k⟩
   ·have:Jr s=s.natAbs:=VU s
    have:=Hm
    exact DG.cons O O (DG.nil _)
   ·have:Jr s=s.natAbs:=VU s
    simp[NZ];omega
 ·have hz:decide (s<0)=decide (z<0)/\dv W l=Jr z:=by
   rcases h9 with rfl | rfl
   ·rw[iV]at h10;rw[Gk O];exact⟨wg,h10.symm⟩
   ·have:z = -dv W l:=by rw[h10];omega
    rw[Er O];exact⟨wg,O⟩
  refine(jb s b off _ cap w).mono λe w' ⟨h,k⟩=>⟨_,h,⟨_,l,by rw[hz.1],⟨_,_,rfl,h3,h4,h5.ext k⟩,h6,h7,hz.2⟩,k⟩
theorem SK{l:List Int}(h:k<l.length):l.getD k default=l[k]:=by simp[aZ,h]
theorem VZ(v:Value)(l:List Int)(w:World)(hs:SL w v Jl l):
  Calls Tryz.prog 310 #[v] w λe w'=>(∃v',e = .returned v'/\SL w v' Jl (JH l))/\w=w':=by
 obtain⟨q,cap,rfl,hcap,hmax,hc⟩:=hs
 have HC:=aa hc;clear hc
 go_enter Tryz.func310,Tryz.ntmps310
 go_wp2
 go_loop [3] (λn=>∃k:Nat,k<=l.length/\n = .int .i64 k/\JH l=JH (l.take k)) (λn=>(intOf n).toNat)
 case atStart=>exact⟨l.length,av _,rfl,by rw[bA]⟩
 case round =>
  obtain⟨k,hk,rfl,he⟩:=hrel
  have HE:=aa he;clear he
  cases k with
  |zero =>
   go_wp2
   go_ret
   exact⟨⟨_,rfl,by rw[HE.out];exact⟨q,cap,rfl,by simp[JH],hmax,λi hi=>by simp[JH]at hi⟩⟩,rfl⟩
  |succ k =>
   obtain⟨b,off,rfl,hb,hc⟩:=HC.out k O
   simp only[Jl]at hc
   have HT:=aa (GZ l k O)
   rw[SK O]at hc
   generalize hx:l[k]=x at hc
   have HX:=aa hx;clear hx
   by_cases h0:x=0
   ·have h1:(x==0)=true:=by simp[h0]
    go_wp2
    go_round
    case rel=>exact⟨k,O,rfl,by rw[HE.out,HT.out,HX.out,h0,KS]⟩
    case measure=>simp[intOf]
   ·have h1:(x==0)=false:=by simp[h0]
    go_wp2
    go_ret
    have e1:JH l=l.take (k+1):=by rw[HE.out,HT.out,HX.out,Wc _ h0,<-HX.out,<-HT.out]
    exact⟨⟨_,rfl,by rw[e1];exact⟨_,cap,by rw[aj,aR O];rfl,by rw[aj];omega,hmax,HC.out.take _⟩⟩,rfl⟩
def sz(z:Int):Nat:=if z=0 then 0 else z.natAbs.log2+1
theorem DS(z:Int):z.natAbs<2^sz z:=by
 unfold sz;split
 ·simp[*]
 ·exact Nat.lt_log2_self
theorem XL(z:Int)(k:Nat):sz z<=k↔z.natAbs<2^k:=by
 constructor
 ·intro h;exact fC (DS z) (Nat.pow_le_pow_right wa h)
 ·intro h;unfold sz;split
  ·exact bQ _
  ·rename_i hz
   have:z.natAbs.log2<k:=(Nat.log2_lt O).2 h
   omega
theorem Wd(a b:Int):sz (a*b)<=sz a+sz b:=by
 rw[XL,Int.natAbs_mul,eF]
 have h1:=DS a;have h2:=DS b
 calc a.natAbs*b.natAbs<=a.natAbs*2^sz b:=fu _ (Nat.le_of_lt h2)
  _<2^sz a*2^sz b:=eO h1 (Nat.pow_pos wa)
theorem OH(a b:Int):sz (a+b)<=max (sz a) (sz b)+1:=by
 rw[XL,Nat.pow_succ]
 have h1:=(XL a (max (sz a) (sz b))).1 (Nat.le_max_left _ _)
 have h2:=(XL b (max (sz a) (sz b))).1 (Nat.le_max_right _ _)
 omega
theorem Kw{a b:Int}(h:a.natAbs<=b.natAbs):sz a<=sz b:=by
 rw[XL];exact Nat.lt_of_le_of_lt h (DS b)
theorem Vq(a:Int):sz (-a)=sz a:=by unfold sz;simp
theorem PQ(a:Int):sz (Jr a)=sz a:=by unfold Jr;split<;>simp[Vq]
theorem QBs{l:List Int}(h:DG W l)(hn:NZ l):l.length<=sz (dv W l):=by
 by_cases hl:l=[]
 ·subst hl;simp
 ·have h1:=Nk Jx h hn hl
  have h2:=DS (dv W l)
  have h0:=Q8 Jx h
  have h3:(2:Int)^(l.length - 1)<=W^(l.length - 1):=by
   generalize l.length - 1=k
   induction k with
   |zero=>simp
   |succ k ih=>rw[aB,aB];exact ic ih wa wa (bc (pow_pos Jx k))
  have h4:(2:Int)^(l.length - 1)<2^sz (dv W l):=by
   have:((dv W l).natAbs:Int)<((2^sz (dv W l):Nat):Int):=O
   rw[aT]at this
   have e:((dv W l).natAbs:Int)=dv W l:=O
   rw[e]at this
   have e2:((2:Nat):Int)=2:=rfl
   rw[e2]at this;omega
  have h5:2^(l.length - 1)<2^sz (dv W l):=by
   have:((2^(l.length - 1):Nat):Int)<((2^sz (dv W l):Nat):Int):=by
    rw[aT,aT];exact h4
   omega
  have:=(Nat.pow_lt_pow_iff_right (by decide:1<2)).1 h5
  omega
theorem Ft(v:Value)(z:Int)(w:World)(hv:Xf w v z):
  Calls Tryz.prog 181 #[v] w λe w'=>e = .returned (.int .i64 (ED z))/\Ext w w':=by
 obtain⟨s,q,n,cap,rfl,hp⟩:=hv
 have hs:ED z=if s<0 then -1 else if s=0 then 0 else 1:=by
  rcases hp with ⟨_,_,_,rfl,_⟩ | ⟨b,off,l,_,_,_,_,_,_,_,_,h,hz,hb⟩
  ·rfl
  ·unfold ED;rcases h with rfl | rfl
   ·rw[iV]at hz;rw[if_neg O,if_neg O];rfl
   ·rw[if_pos O];rfl
 have HS:=aa hs
 clear hs hp
 rcases fP s 0 with g | g | g
 all_goals
  go_enter Tryz.func181,Tryz.ntmps181
  go_wp2
  go_ret
  exact⟨by rw[HS.out];simp[g]<;>omega,(Ext.refl _).alloc _⟩
theorem Kc.isNone{s:Int}{q:Option Addr}{cap:Nat}{z:Int}(h:Kc w s q n cap z):
  (q=none/\n=0/\cap=0/\s=z/\-9223372036854775808<=z/\z<=9223372036854775807)\/(∃b off,q=some ⟨b,off,none⟩):=by
 rcases h with h | ⟨b,off,_,h,_⟩
 ·exact .inl h
 ·exact .inr ⟨b,off,h⟩
abbrev IZ:Array Value:=#[.int .i64 0,.slice none 0 0]
theorem jf(s:Int)(w:World)(h0 : -9223372036854775807<=s)(h1:s<=9223372036854775807):
  Calls Tryz.prog 262 #[.agg #[.int .i64 s,.slice none 0 0]] w λe w'=>e = .returned (.agg #[.int .i64 (-s),.slice none 0 0])/\Ext w w':=by
 have hn:=λw=>ei (P:=Tryz.prog) w 131 297 none 0 0 0 0 Tryz.underlying131
 have hm':(s != -9223372036854775808)=true:=wg
 go_enter Tryz.func262,Tryz.ntmps262
 go_wp2
 exact bodyPost_ret (v:=.agg #[.int .i64 (-s),.slice none 0 0]) (by simp[results,Tryz.results262,go_sem]) I ⟨rfl,((Ext.refl _).alloc _).alloc _⟩
theorem Kc.kp(h:Kp w w'){s:Int}{q:Option Addr}{n cap:Nat}{z:Int}(hv:Kc w s q n cap z):Kc w' s q n cap z:=by
 rcases hv with hv | ⟨b,off,l,h1,h2,h3,h4,h5,h6⟩
 ·exact .inl hv
 ·exact .inr ⟨b,off,l,h1,h2,h3,h4,h5.kp h wa,h6⟩
theorem IT:¬DT 133:=wa
theorem Bx.DL{R T:Nat}{c0 c1:Value}(h:Bx w R T [c0,c1])(v0 v1:Value):Bx ((w.setCell ⟨R,0,none⟩ v0).setCell ⟨R,1,none⟩ v1) R T [v0,v1]:=by
 have:=(h.set 0 v0).set 1 v1;simpa using this
theorem Kp.DL{a:World}(h:Kp a w){R T:Nat}(hT:Vl w R T)(hD:¬DT T)(v0 v1:Value):Kp a ((w.setCell ⟨R,0,none⟩ v0).setCell ⟨R,1,none⟩ v1) :=
 (h.set hT hD 0 v0).set (hT.set _ _ _) hD 1 v1
theorem T5(s:Int)(q:Option Addr)(n cap:Nat)(z:Int)(w:World)(hv:Kc w s q n cap z)(hq:q.isNone=false\/(s != -9223372036854775808)=false):
  Calls Tryz.prog 262 #[.agg #[.int .i64 s,.slice q n cap]] w λe w'=>Zw w (λv w'=>Xf w' v (-z)) e w':=by
 have hn:=λw=>ei (P:=Tryz.prog) w 131 297 q n cap 0 0 Tryz.underlying131
 have hz0:Hid (sg (!decide (z<0)) (Jr z) = -z):=by
  show sg (!decide (z<0)) (Jr z) = -z
  unfold sg Jr;by_cases h:z<0<;>simp[h]
 have HV:Hid (Xf w (.agg #[.int .i64 s,.slice q n cap]) z):=⟨_,_,_,_,rfl,hv⟩
 have hB:Bx ((w.alloc (.cells #[.int .i64 s,.slice q n cap] 133)).alloc (.cells IZ 133)) (w.heap.size+1) 133 IZ.toList:=by
  have:=Bx.new (w.alloc (.cells #[.int .i64 s,.slice q n cap] 133)) 133 IZ
  simpa using this
 have HB:=aa hB
 clear hB hv
 cases hqn:q.isNone
 all_goals
  rw[hqn]at hq
  simp only[reduceCtorEq,true_or,false_or]at hq
  rw[hqn]at hn
  clear hqn
  go_enter Tryz.func262,Tryz.ntmps262
  go_wp2_with fail
  refine(Kg _ z _ (HV.out.ext (((Ext.refl _).alloc _).alloc _))).mono ?_
  rintro e w1 ⟨_,rfl,⟨p,l,rfl,hsl,hd,hnz,hval⟩,hx⟩
  go_wp2_with fail
  refine(Wk _ p l _ hsl hd hnz).mono ?_
  rw[hval,hz0.out]
  rintro e w2 ⟨_,rfl,⟨s',q',n',cap',rfl,hp'⟩,hx2⟩
  have hB2:=(HB.out.ext hx).ext hx2
  obtain⟨c0,c1,f0,f1⟩:=hB2.two
  have HB2:=aa hB2
  clear hval hB2
  go_wp2
  refine bodyPost_ret (v:=.agg #[.int .i64 s',.slice q' n' cap']) (by simp[results,Tryz.results262,go_sem,c0,c1]) I ⟨_,rfl,⟨_,_,_,_,rfl,hp'.kp ((Kp.refl _).DL HB2.out.SF IT _ _)⟩,?_⟩
  exact((((((Ext.refl w).alloc _).alloc _).trans hx).trans hx2).ZD we _).ZD we _
theorem AH(v:Value)(z:Int)(w:World)(hv:Xf w v z):
  Calls Tryz.prog 262 #[v] w λe w'=>Zw w (λv w'=>Xf w' v (-z)) e w':=by
 obtain⟨s,q,n,cap,rfl,hp⟩:=hv
 rcases hp.isNone with ⟨rfl,rfl,rfl,rfl,h0,h1⟩ | ⟨b,off,rfl⟩
 ·by_cases hm:s = -9223372036854775808
  ·exact T5 _ _ _ _ _ w hp (.inr (by simpa using hm))
  ·exact(jf s w O h1).mono λe w' ⟨he,hx⟩=>⟨_,he,Xf.small _ O O,hx⟩
 ·exact T5 _ _ _ _ _ w hp (.inl rfl)
end Go.Proofs.YtjcphjpkimmmjaaGreatDoor
namespace Ig
def Qf(l:List Int)(k:Nat):Int:=if h:k<l.length then l[k]else 0
theorem Zx{l:List Int}{k:Nat}(h:k<l.length):Qf l k=l[k]:=dif_pos h
theorem Bc{l:List Int}{k:Nat}(h:l.length<=k):Qf l k=0:=dif_neg O
theorem DG.Qf{b:Int}(hb:0<b){l:List Int}(h:DG b l)(k:Nat):0<=Qf l k/\Qf l k<b:=by
 unfold Ig.Qf;split
 ·exact h _ (fN _)
 ·exact⟨bD _,hb⟩
theorem Wy(b:Int)(l:List Int)(k:Nat):dv b (l.take (k+1))=dv b (l.take k)+b^k*Qf l k:=by
 by_cases h:k<l.length
 ·rw[Zx h,Hf b l k h]
 ·rw[Bc O,ae O,ae O];simp
theorem GX{l:List Int}{p:Nat}(h:p<l.length)(v:Int)(r:Nat):Qf (l.set p v) r=if r=p then v else Qf l r:=by
 unfold Qf
 by_cases hr:r<l.length
 ·rw[dif_pos (by simpa using hr),dif_pos hr,List.getElem_set]
  by_cases e:p=r
  ·subst e;simp
  ·rw[if_neg e,if_neg (λe'=>e e'.symm)]
 ·rw[dif_neg (by simpa using hr),dif_neg hr,if_neg O]
theorem DO(b:Int){l:List Int}{p:Nat}(h:p<l.length)(v:Int):dv b (l.set p v)=dv b l+b^p*(v - Qf l p):=by
 have h1:=Ve b (l.set p v) (p+1) wg
 have h2:=Ve b l (p+1) O
 have e1:(l.set p v).drop (p+1)=l.drop (p+1):=by rw[List.drop_set_of_lt O]
 have e2:(l.set p v).take (p+1)=l.take p++[v]:=by
  rw[GZ _ _ (by simpa using h)];simp[List.take_set_of_le]
 rw[h1,h2,e1,e2,Xl,Hf b l p h,Zx h,aj,aR O]
 grind
theorem XZ{l:List Int}{k:Nat}(h:k<l.length):l.drop k=Qf l k::l.drop (k+1):=by rw[bO h,Zx h]
theorem Iy{D V2 v' U3 u' t:Int}(hD:0<D)(hv1:v'<D)(hu0:0<=u')
  (ht0:0<=t) (ht:t*V2<=U3) (htv:t<=V2) (_hv0:0<=v'):(t - 1)*(V2*D+v')<=U3*D+u':=by
 have h1:t*V2*D<=U3*D:=aw ht O
 have h2:t*v'<=t*D:=af O ht0
 have h3:t*D<=V2*D:=aw htv O
 have e:(t - 1)*(V2*D+v')=t*V2*D+t*v' - V2*D - v':=by grind
 omega
theorem SE{D V2 v' U3 u' t:Int}(hv0:0<=v')(hu1:u'<D)(hD:0<D)
  (ht0:0<=t) (ht:U3<t*V2):U3*D+u'<t*(V2*D+v'):=by
 have h1:(U3+1)*D<=t*V2*D:=aw O O
 have h2:0<=t*v':=aJ ht0 hv0
 have e:t*(V2*D+v')=t*V2*D+t*v':=by grind
 have e2:(U3+1)*D=U3*D+D:=by grind
 omega
theorem ZN{u v q:Int}(hv:0<v)(h1:q*v<=u)(h2:u<(q+1)*v):u / v=q:=by
 have e:(q+1)*v=q*v+v:=by grind
 have:u=(u - q*v)+q*v:=O
 rw[this,Int.add_mul_ediv_right _ _ O,Int.ediv_eq_zero_of_lt O O];omega
theorem YY{u v q:Int}(h1:q*v<=u)(h2:u<(q+1)*v):u%v=u - q*v:=by
 have e:(q+1)*v=q*v+v:=by grind
 have:u=(u - q*v)+q*v:=O
 rw[this,Int.add_mul_emod_self_right,bS O O];omega
section
variable{b:Int}(hb:1<b)
include hb
theorem Yq{l:List Int}{n:Nat}(hl:DG b l)(h:l.length=n+3):
  dv b l=((Qf l (n+2)*b+Qf l (n+1))*b+Qf l n)*b^n+dv b (l.take n)/\0<=dv b (l.take n)/\dv b (l.take n)<b^n:=by
 have h1:=Wy b l n
 have h2:=Wy b l (n+1)
 have h3:=Wy b l (n+2)
 rw[ae (by omega:l.length<=n+2+1)]at h3
 have h4:=KE O (hl.take n)
 rw[aj,aR O]at h4
 refine⟨?_,Q8 O (hl.take n),h4⟩
 rw[h3,h2,h1,aB,aB];grind
theorem VN{l:List Int}{n:Nat}(hl:DG b l)(h:l.length=n+2):
  dv b l=(Qf l (n+1)*b+Qf l n)*b^n+dv b (l.take n)/\0<=dv b (l.take n)/\dv b (l.take n)<b^n:=by
 have h1:=Wy b l n
 have h2:=Wy b l (n+1)
 rw[ae (by omega:l.length<=n+1+1)]at h2
 have h4:=KE O (hl.take n)
 rw[aj,aR O]at h4
 refine⟨?_,Q8 O (hl.take n),h4⟩
 rw[h2,h1,aB];grind
omit hb
structure Wv(b:Int)(u v:List Int)(n:Nat):Prop where
 hu:DG b u
 hv:DG b v
 lu:u.length=n+3
 lv:v.length=n+2
 nz:0<Qf v (n+1)
 lt:dv b u<b*dv b v
include hb
theorem Wv.top{u v:List Int}{n:Nat}(h:Wv b u v n):Qf u (n+2)<=Qf v (n+1):=by
 obtain⟨a1,a2,a3⟩:=Yq hb h.hu h.lu
 obtain⟨b1,b2,b3⟩:=VN hb h.hv h.lv
 have hlt:=h.lt
 have hb0:0<b:=O
 have d1:=h.hu.Qf hb0 n
 have d2:=h.hu.Qf hb0 (n+1)
 have d3:=h.hv.Qf hb0 n
 have hp:=pow_pos hb0 n
 refine Int.not_lt.1 λhc=>?_
 have e1:(Qf v (n+1)+1)*(b*b*b^n)<=Qf u (n+2)*(b*b*b^n):=aw O (aJ (aJ O O) O)
 have e2:0<=Qf u (n+1)*(b*b^n):=aJ d2.1 (aJ O O)
 have e3:0<=Qf u n*b^n:=aJ d1.1 O
 have e4:(Qf v n+1)*b^n<=b*b^n:=aw O O
 have e5:b*((Qf v n+1)*b^n)<=b*(b*b^n):=af e4 O
 have e6:b*dv b (v.take n)<=b*b^n:=af O O
 have e7:b*(dv b (v.take n)+1)<=b*b^n:=af O O
 rw[a1,b1]at hlt
 generalize b^n=D at *
 generalize dv b (v.take n)=v' at *
 generalize dv b (u.take n)=u' at *
 generalize Qf u (n+2)=u0 at *
 generalize Qf u (n+1)=u1 at *
 generalize Qf u n=u2 at *
 generalize Qf v (n+1)=v1 at *
 generalize Qf v n=v2 at *
 grind
end
end Ig
namespace Go.Proofs.YtjcphjpkimmmjaaGreatDoor
variable{w w' w0:World}{E N b bytes i id k n off:Nat}{a:Act}{c cs l l' news z:List Value}{o:Obj}{u v1 v3 v4 v5 x2 x3 x4 x5 x6 x7 x8:Value}{A0 A1 A2 A3 A4 A5 A6 A7 A8 A9 α γ ι:Type}{T T' t yT:TypeId}{ops:Array Oper}{Q Q':Exit->Act->World->Prop}{tl:List Oper}{K:Act->World->Prop}{g:Bool}{x y:Operand}{bs bs' bs0 ob:List (Nat×Obj)}{fr:Nat×Nat}{P:Program}{f:Obj->List (Nat×Obj)}{fn:Func}{aft:Array Edge}{gd:Option (Nat×Bool)}{x1:Nat×Obj}{ps:List (Nat×Value)}{k':IntKind}{s:ByteArray}{pl:List (Nat×Nat)}{ds:List Int}{h:Int}{F F0:Gs}{G G' G0:Gs->Prop}{m:Sl}
open Go.RowKit Ig
def XW(x y c:Int):Int:=(x+y+c)%W
def X5(x y c:Int):Int:=(x+y+c) / W
def Zt(x y c:Int):Int:=(x - y - c)%W
def V0(x y c:Int):Int:=if x<y+c then 1 else 0
theorem Hk{x y c:Int}(hx:0<=x/\x<W)(hy:0<=y/\y<W)(hc:0<=c/\c<=1):
  XW x y c+W*X5 x y c=x+y+c/\(0<=XW x y c/\XW x y c<W)/\0<=X5 x y c/\X5 x y c<=1:=by
 unfold XW X5;simp only[Hm]at *;omega
theorem EU{x y c:Int}(hx:0<=x/\x<W)(hy:0<=y/\y<W)(hc:0<=c/\c<=1):
  Zt x y c - W*V0 x y c=x - y - c/\(0<=Zt x y c/\Zt x y c<W)/\0<=V0 x y c/\V0 x y c<=1:=by
 unfold Zt V0;simp only[Hm]at *;split<;>omega
theorem Ke(x y c:Int)(hx:0<=x)(hy:0<=y)(hc:0<=c)(hc1:c<=1)(w:World):
  (callFunc 309 #[.int .u64 x,.int .u64 y,.int .u64 c]).run Tryz.prog w = .ok (.value (.tuple #[.int .u64 (XW x y c),.int .u64 (X5 x y c)])) w:=by
 rw[run_callFunc_extern (fn:=Tryz.f309) y0 y0 y0 y0 (e:=add64Entry) y0,run_add64 x y c hx hy hc hc1]
 rfl
def Rb:Array Value->Sem Value:=λargs=>do
 let (x,y,b) <-fy "Sub64" args
 pure (fz ((x+ee - y - b)%ee) (if x<y+b then 1 else 0))
theorem jL(x y b:Nat)(hb:b<=1)(w:World):
  (Rb #[.int .u64 x,.int .u64 y,.int .u64 b]).run Tryz.prog w =
   .ok (.tuple #[.int .u64 (((x+18446744073709551616 - y - b)%18446744073709551616:Nat):Int),.int .u64 ((if x<y+b then 1 else 0:Nat):Int)]) w:=by
 have:b=0\/b=1:=O
 rcases this with rfl | rfl<;>rfl
theorem Bz(x y c:Int)(hx:0<=x/\x<W)(hy:0<=y/\y<W)(hc:0<=c/\c<=1)(w:World):
  (callFunc 312 #[.int .u64 x,.int .u64 y,.int .u64 c]).run Tryz.prog w = .ok (.value (.tuple #[.int .u64 (Zt x y c),.int .u64 (V0 x y c)])) w:=by
 obtain⟨x,rfl⟩:=ag hx.1
 obtain⟨y,rfl⟩:=ag hy.1
 obtain⟨c,rfl⟩:=ag hc.1
 rw[run_callFunc_extern (fn:=Tryz.f312) y0 y0 y0 y0 (e:=Rb) y0,jL x y c O]
 simp only[Result.andThen,Zt,V0,Hm]at *
 have e1:(((x+18446744073709551616 - y - c)%18446744073709551616:Nat):Int)=((x:Int) - y - c)%18446744073709551616:=O
 have e2:((if x<y+c then 1 else 0:Nat):Int)=if(x:Int)<y+c then 1 else 0:=by split<;>split<;>omega
 rw[e1,e2]
theorem Rg(ds:List α)(z x:α)(m:Nat):(ds++ah (m+1) z).set ds.length x=(ds++[x])++ah m z:=by
 rw[e9 _ _ (av _),ea,bf,fw,bp];rfl
theorem Mq[Inhabited α](ds:List α)(z:α)(m k:Nat)(hk:k=ds.length):(ds++ah (m+1) z).getD k default=z:=by
 subst hk;simp[aZ,bf]
theorem Jg{l:List Int}(h:DG W l)(k:Nat):0<=Qf l k/\Qf l k<W:=h.Qf Jx k
theorem XP(l:List Int)(k:Nat):dv W (l.take (k+1))=dv W (l.take k)+W^k*Qf l k:=Wy W l k
theorem YS{l:List Int}(h:k<l.length):l.getD k default=Qf l k:=by rw[SK h,Zx h]
def NB(lx ly:List Int)(k:Nat)(ds:List Int)(c:Int):Prop :=
 ds.length=k/\DG W ds/\(0<=c/\c<=1)/\dv W ds+W^k*c=dv W (lx.take k)+dv W (ly.take k)
theorem NB.step{lx ly:List Int}{c:Int}(h:NB lx ly k ds c)(hx:DG W lx)(hy:DG W ly):
  NB lx ly (k+1) (ds++[XW (Qf lx k) (Qf ly k) c]) (X5 (Qf lx k) (Qf ly k) c):=by
 obtain⟨h1,h2,h3,h4⟩:=h
 obtain⟨a1,a2,a3⟩:=Hk (Jg hx k) (Jg hy k) h3
 refine⟨by simp[h1],h2.append (DG.cons a2.1 a2.2 (DG.nil _)),a3,?_⟩
 rw[Xl,h1,XP,XP,aB]
 generalize W^k=p at *
 generalize XW (Qf lx k) (Qf ly k) c=lo at *
 generalize X5 (Qf lx k) (Qf ly k) c=hi at *
 generalize Qf lx k=a at *
 generalize Qf ly k=b at *
 have e:p*(lo+W*hi)=p*(a+b+c):=by rw[a1]
 grind
def FD(lx ly:List Int)(k:Nat)(ds:List Int)(c:Int):Prop :=
 ds.length=k/\DG W ds/\(0<=c/\c<=1)/\dv W ds - W^k*c=dv W (lx.take k) - dv W (ly.take k)
theorem FD.step{lx ly:List Int}{c:Int}(h:FD lx ly k ds c)(hx:DG W lx)(hy:DG W ly):
  FD lx ly (k+1) (ds++[Zt (Qf lx k) (Qf ly k) c]) (V0 (Qf lx k) (Qf ly k) c):=by
 obtain⟨h1,h2,h3,h4⟩:=h
 obtain⟨a1,a2,a3⟩:=EU (Jg hx k) (Jg hy k) h3
 refine⟨by simp[h1],h2.append (DG.cons a2.1 a2.2 (DG.nil _)),a3,?_⟩
 rw[Xl,h1,XP,XP,aB]
 generalize W^k=p at *
 generalize Zt (Qf lx k) (Qf ly k) c=lo at *
 generalize V0 (Qf lx k) (Qf ly k) c=hi at *
 generalize Qf lx k=a at *
 generalize Qf ly k=b at *
 have e:p*(lo - W*hi)=p*(a - b - c):=by rw[a1]
 grind
theorem Tryz.uM:(Tryz.prog.info? 297).map (λi=>(i.zero,i.size,i.bytes))=some (some (.int .u64 0),1,8):=y0
theorem Yz(n:Nat)(hn:n<=1000000000000)(w:World):
  (fT 131 (.int .i64 (n:Int)) (.int .i64 (n:Int))).run Tryz.prog w = .ok (.slice (some ⟨w.heap.size,0,none⟩) n n) (w.alloc (.cells (madeCells #[.int .u64 0] n) 297)):=by
 obtain⟨i0,hi,hz0,hz1,hz2⟩:=info_parts Tryz.uM
 have:=run_make (P:=Tryz.prog) w 131 297 i0 (.int .u64 0) Tryz.underlying131 hi hz0 .i64 .i64 n n O O (by rw[hz2];omega) O
 rw[this,hz1];simp[Value.cells]
theorem Dc(sw:Bool)(q q':Option Addr)(cap cap':Nat)(lx ly:List Int)(w:World)(hx:DG W lx)(hy:DG W ly)(hcx:Cells w q Jl lx)(hcy:Cells w q' Jl ly)(hlen:lx.length<=100000000000)(hle:ly.length<=lx.length)(hsw:sw=true->ly.length<lx.length):
  Calls Tryz.prog 278 (if sw then #[.slice q' ly.length cap',.slice q lx.length cap]else #[.slice q lx.length cap,.slice q' ly.length cap']) w λe w' =>
   Zw w (λv w'=>∃l,SL w' v Jl l/\DG W l/\NZ l/\dv W l=dv W lx+dv W ly) e w':=by
 have HX:=aa hcx;clear hcx
 have HY:=aa hcy;clear hcy
 have hmk:=λw=>Yz (lx.length+1) O w
 have ec:((lx.length+1:Nat):Int)=(lx.length:Int)+1:=O
 simp only[ec]at hmk
 cases sw
 all_goals
  simp only[Bool.false_eq_true,if_false,if_true,forall_const,false_implies]at hsw ⊢
  go_enter Tryz.func278,Tryz.ntmps278
  go_wp2
  go_loopw [22,6] (λi c wr=>∃(k:Nat) (ds:List Int) (cc:Int),k<=lx.length/\i = .int .i64 k/\c = .int .u64 cc/\NB lx ly k ds cc/\KX wr w.heap.size 297 Jl (ds++ah (lx.length+1 - k) 0)/\Ext w wr)
   (λi _ _=>lx.length - (intOf i).toNat)
  case atStart=>exact⟨0,[],0,bQ _,rfl,rfl,⟨rfl,DG.nil _,wa,we⟩,KX.made w _ Jl 0 _ _ rfl,(Ext.refl _).alloc _⟩
  case round =>
   obtain⟨k,ds,cc,hk,rfl,rfl,hI,hB,hE⟩:=hrel
   have hst:=hI.step hx hy
   obtain⟨hd1,hd2,hd3,hd4⟩:=hI
   have hd1':=aa hd1;clear hd1
   have hd4':=aa hd4;clear hd4
   by_cases hlt:k<lx.length
   ·obtain⟨b,off,rfl,hb,hc⟩:=HX.out k hlt
    rw[YS hlt]at hc
    have hc:=hE.cell hc
    simp only[Jl]at hc
    have e1:lx.length+1 - k=(lx.length - k)+1:=O
    rw[e1]at hB
    have hcell:=hB.cell (i:=k) (by simp[hd1'.out])
    rw[Mq _ _ _ _ hd1'.out.symm]at hcell
    simp only[Jl]at hcell
    have hfr:=hB.frozen k
    have hBs:=hB.set k (XW (Qf lx k) (Qf ly k) cc)
    rw[<-hd1'.out,Rg,hd1'.out]at hBs
    have HB:=aa hB;clear hB
    have HBs:=aa hBs;clear hBs
    have HS:=aa hst;clear hst
    have hx0:=(Jg hx k).1
    have hy0:=(Jg hy k).1
    by_cases hlt2:k<ly.length
    ·obtain⟨b2,off2,rfl,hb2,hc2⟩:=HY.out k hlt2
     rw[YS hlt2]at hc2
     have hc2:=hE.cell hc2
     simp only[Jl]at hc2
     have ha:=λw=>Ke (Qf lx k) (Qf ly k) cc hx0 hy0 hd3.1 hd3.2 w
     go_wp2
     go_roundw
     case rel=>exact⟨k+1,_,_,O,by go_num,rfl,HS.out,by rw[show lx.length+1 - (k+1)=lx.length - k from by omega];exact HBs.out,aQ hE we _⟩
     case measure=>simp[intOf];omega
    ·have H0:=aa (Bc (l:=ly) (k:=k) O)
     have ha:=λw=>Ke (Qf lx k) 0 cc hx0 (bD _) hd3.1 hd3.2 w
     go_wp2
     go_roundw
     case rel=>exact⟨k+1,_,_,O,by go_num,rfl,by have:=HS.out;rw[H0.out]at this;exact this,by rw[show lx.length+1 - (k+1)=lx.length - k from by omega];have:=HBs.out;rw[H0.out]at this;exact this,aQ hE we _⟩
     case measure=>simp[intOf];omega
   ·have hk':k=lx.length:=O
    subst hk'
    have e1:lx.length+1 - lx.length=0+1:=O
    rw[e1]at hB
    have hcell:=hB.cell (i:=lx.length) (by simp[hd1'.out])
    rw[Mq _ _ _ _ hd1'.out.symm]at hcell
    simp only[Jl]at hcell
    have hfr:=hB.frozen lx.length
    have hBs:=hB.set lx.length cc
    rw[<-hd1'.out,Rg,hd1'.out]at hBs
    simp only[ep,fV]at hBs
    have hSL:=SL.BS hBs (lx.length+1) (by simp[hd1'.out]) (by simp[hd1'.out];omega)
    have el:(ds++[cc]).length=lx.length+1:=by simp[hd1'.out]
    rw[ae O,el]at hSL
    have hEs:Ext w _:=aQ hE (p:=⟨w.heap.size,lx.length,none⟩) we (Jl cc)
    have hfin:DG W (ds++[cc])/\dv W (ds++[cc])=dv W lx+dv W ly:=by
     refine⟨hd2.append (DG.cons hd3.1 (by have:=Hm;omega) (DG.nil _)),?_⟩
     rw[Xl,hd1'.out,hd4'.out,ae (av _),ae hle]
    have HB:=aa hB;clear hB
    have HBs:=aa hBs;clear hBs
    have HSL:=aa hSL;clear hSL
    have HF:=aa hfin;clear hfin
    have HES:=aa hEs;clear hEs
    clear el e1 hst
    go_wp2_with (go_at_call 310;refine(VZ _ _ _ HSL.out).mono ?_;rintro e w' ⟨⟨v',rfl,hv⟩,rfl⟩)
    go_ret
    exact⟨_,rfl,⟨_,hv,HF.out.1.JH,ZW _,by rw[Xe,HF.out.2]⟩,HES.out⟩
theorem Az(v v':Value)(lx ly:List Int)(w:World)(hx:DG W lx)(hy:DG W ly)(hs:SL w v Jl lx)(hs':SL w v' Jl ly)(h1:lx.length<=100000000000)(h2:ly.length<=100000000000):
  Calls Tryz.prog 278 #[v,v'] w λe w'=>Zw w (λv w'=>∃l,SL w' v Jl l/\DG W l/\NZ l/\dv W l=dv W lx+dv W ly) e w':=by
 obtain⟨q,cap,rfl,hcap,hmax,hc⟩:=hs
 obtain⟨q',cap',rfl,hcap',hmax',hc'⟩:=hs'
 by_cases h:lx.length<ly.length
 ·have:=Dc true q' q cap' cap ly lx w hy hx hc' hc h2 O (λ_=>h)
  rw[iN]at this;exact this
 ·exact Dc false q q' cap cap' lx ly w hx hy hc hc' h1 O (λh=>by cases h)
theorem EV(v v':Value)(lx ly:List Int)(w:World)(hx:DG W lx)(hy:DG W ly)(hs:SL w v Jl lx)(hs':SL w v' Jl ly)(h1:lx.length<=100000000000)(hle:ly.length<=lx.length)(hle2:dv W ly<=dv W lx):
  Calls Tryz.prog 280 #[v,v'] w λe w'=>Zw w (λv w'=>∃l,SL w' v Jl l/\DG W l/\NZ l/\dv W l=dv W lx - dv W ly) e w':=by
 obtain⟨q,cap,rfl,hcap,hmax,hcx⟩:=hs
 obtain⟨q',cap',rfl,hcap',hmax',hcy⟩:=hs'
 have HX:=aa hcx;clear hcx
 have HY:=aa hcy;clear hcy
 have HLE:=aa hle2;clear hle2
 have hmk:=λw=>Yz lx.length O w
 go_enter Tryz.func280,Tryz.ntmps280
 go_wp2
 go_loopw [14,6] (λi c wr=>∃(k:Nat) (ds:List Int) (cc:Int),k<=lx.length/\i = .int .i64 k/\c = .int .u64 cc/\FD lx ly k ds cc/\KX wr w.heap.size 297 Jl (ds++ah (lx.length - k) 0)/\Ext w wr)
  (λi _ _=>lx.length - (intOf i).toNat)
 case atStart=>exact⟨0,[],0,bQ _,rfl,rfl,⟨rfl,DG.nil _,wa,we⟩,KX.made w _ Jl 0 _ _ rfl,(Ext.refl _).alloc _⟩
 case round =>
  obtain⟨k,ds,cc,hk,rfl,rfl,hI,hB,hE⟩:=hrel
  have hst:=hI.step hx hy
  obtain⟨hd1,hd2,hd3,hd4⟩:=hI
  have hd1':=aa hd1;clear hd1
  have hd4':=aa hd4;clear hd4
  by_cases hlt:k<lx.length
  ·obtain⟨b,off,rfl,hb,hc⟩:=HX.out k hlt
   rw[YS hlt]at hc
   have hc:=hE.cell hc
   simp only[Jl]at hc
   have e1:lx.length - k=(lx.length - (k+1))+1:=O
   rw[e1]at hB
   have hcell:=hB.cell (i:=k) (by simp[hd1'.out])
   rw[Mq _ _ _ _ hd1'.out.symm]at hcell
   simp only[Jl]at hcell
   have hfr:=hB.frozen k
   have hBs:=hB.set k (Zt (Qf lx k) (Qf ly k) cc)
   rw[<-hd1'.out,Rg,hd1'.out]at hBs
   have HB:=aa hB;clear hB
   have HBs:=aa hBs;clear hBs
   have HS:=aa hst;clear hst
   have hx0:=Jg hx k
   have hy0:=Jg hy k
   clear e1
   by_cases hlt2:k<ly.length
   ·obtain⟨b2,off2,rfl,hb2,hc2⟩:=HY.out k hlt2
    rw[YS hlt2]at hc2
    have hc2:=hE.cell hc2
    simp only[Jl]at hc2
    have ha:=λw=>Bz (Qf lx k) (Qf ly k) cc hx0 hy0 hd3 w
    go_wp2
    go_roundw
    case rel=>exact⟨k+1,_,_,O,by go_num,rfl,HS.out,HBs.out,aQ hE we _⟩
    case measure=>simp[intOf];omega
   ·have H0:=aa (Bc (l:=ly) (k:=k) O)
    have ha:=λw=>Bz (Qf lx k) 0 cc hx0 ⟨bD _,Jx⟩ hd3 w
    go_wp2
    go_roundw
    case rel=>exact⟨k+1,_,_,O,by go_num,rfl,by have:=HS.out;rw[H0.out]at this;exact this,by have:=HBs.out;rw[H0.out]at this;exact this,aQ hE we _⟩
    case measure=>simp[intOf];omega
  ·have hk':k=lx.length:=O
   subst hk'
   rw[ea,ep,fV]at hB
   have hSL:=SL.BS hB lx.length (by simp[hd1'.out]) (by simp[hd1'.out];omega)
   rw[ae (by simp[hd1'.out]),hd1'.out]at hSL
   have hfin:dv W ds=dv W lx - dv W ly:=by
    have h4:=hd4'.out
    rw[ae (av _),ae hle]at h4
    have h5:=KE Jx hd2
    have h6:=Q8 Jx hd2
    have h8:=HLE.out
    rw[hd1'.out]at h5
    have h7:cc=0\/cc=1:=O
    rcases h7 with rfl | rfl<;>omega
   have HB:=aa hB;clear hB
   have HSL:=aa hSL;clear hSL
   have HF:=aa hfin;clear hfin
   clear hst
   go_wp2_with (go_at_call 310;refine(VZ _ _ _ HSL.out).mono ?_;rintro e w' ⟨⟨v',rfl,hv⟩,rfl⟩)
   go_ret
   exact⟨_,rfl,⟨_,hv,hd2.JH,ZW _,by rw[Xe,HF.out]⟩,hE⟩
theorem Hh{x y:Int}(h:x<y):YP x y = -1:=if_pos h
theorem MC{x y:Int}(h:y<x):YP x y=1:=by unfold YP;rw[if_neg O,if_neg O]
theorem TB(x:Int):YP x x=0:=by unfold YP;rw[if_neg O,if_pos rfl]
theorem Z5(v v':Value)(lx ly:List Int)(w:World)(hx:DG W lx)(hy:DG W ly)(nx:NZ lx)(ny:NZ ly)(hs:SL w v Jl lx)(hs':SL w v' Jl ly):
  Calls Tryz.prog 279 #[v,v'] w λe w'=>e = .returned (.int .i64 (YP (dv W lx) (dv W ly)))/\Ext w w':=by
 obtain⟨q,cap,rfl,hcap,hmax,hcx⟩:=hs
 obtain⟨q',cap',rfl,hcap',hmax',hcy⟩:=hs'
 have HX:=aa hcx;clear hcx
 have HY:=aa hcy;clear hcy
 rcases fK lx.length ly.length with h | h | h
 ·have HL:=aa (Hh (ZY PJ hx hy ny h))
  go_enter Tryz.func279,Tryz.ntmps279
  go_wp2
  go_ret
  exact⟨by rw[HL.out];rfl,Ext.refl _⟩
 ·go_enter Tryz.func279,Tryz.ntmps279
  have hb:((lx.length:Int) != (ly.length:Int))=false:=by simp[h]
  have HLL:=aa h;clear h
  go_wp2
  go_loopw [5] (λi wr=>∃k:Nat,k<=lx.length/\i = .int .i64 ((k:Int) - 1)/\lx.drop k=ly.drop k/\Ext w wr) (λi _=>(intOf i+1).toNat)
  case atStart=>exact⟨lx.length,av _,rfl,by rw[eX (av _),eX (by rw[HLL.out];exact av _)],Ext.refl _⟩
  case round =>
   obtain⟨k,hk,rfl,hd,hE⟩:=hrel
   have HD:=aa hd;clear hd
   cases k with
   |zero =>
    have HF:Hid (YP (dv W lx) (dv W ly)=0):=by
     have:=HD.out;rw[hJ,hJ]at this;rw[this];exact TB _
    go_wp2
    go_ret
    exact⟨by rw[HF.out];rfl,hE⟩
   |succ k =>
    have e1:((k+1:Nat):Int) - 1=(k:Int):=O
    rw[e1]
    have hk2:k<ly.length:=by have:=HLL.out;omega
    obtain⟨b,off,rfl,hb1,hc⟩:=HX.out k O
    obtain⟨b2,off2,rfl,hb2,hc2⟩:=HY.out k hk2
    rw[SK O]at hc hc2
    have hc:=hE.cell hc
    have hc2:=hE.cell hc2
    simp only[Jl]at hc hc2
    have HLT:=aa (CK Jx hx hy HLL.out k O HD.out)
    have HGT:=aa (CK Jx hy hx HLL.out.symm k hk2 HD.out.symm)
    have HEQ:Hid (lx[k]=ly[k]->lx.drop k=ly.drop k):=by
     intro e;rw[bO O,bO hk2,e,HD.out]
    generalize lx[k]=x at *
    generalize ly[k]=y at *
    clear e1
    rcases fP x y with g | g | g
    ·have hne:(x != y)=true:=wg
     have HL:=aa (Hh (HLT.out g))
     go_wp2
     go_quiet (fail)
     go_wp2
     go_quiet (fail)
     go_wp2
     go_ret
     exact⟨by rw[HL.out];rfl,(hE.drewN _).drewN _⟩
    ·have hne:(x != y)=false:=wg
     go_wp2
     go_quiet (fail)
     go_wp2
     go_roundw
     case rel=>exact⟨k,O,by go_num,HEQ.out g,hE.drewN _⟩
     case measure=>simp[intOf]
    ·have hne:(x != y)=true:=wg
     have HL:=aa (MC (HGT.out g))
     go_wp2
     go_quiet (fail)
     go_wp2
     go_quiet (fail)
     go_wp2
     go_ret
     exact⟨by rw[HL.out];rfl,(hE.drewN _).drewN _⟩
 ·have HL:=aa (MC (ZY PJ hy hx nx h))
  go_enter Tryz.func279,Tryz.ntmps279
  go_wp2
  go_ret
  exact⟨by rw[HL.out];rfl,Ext.refl _⟩
end Go.Proofs.YtjcphjpkimmmjaaGreatDoor
namespace Go.Proofs
open Go.Shelf
def Tryz.NX:ar:=⟨λ| 169=>290 | n=>n,λ| 70=>323 | 9=>9 | 0=>0 | 72=>326 | 37=>324 | 127=>349 | 3=>3 | 5=>5 | n=>n,λ| n=>n⟩
theorem Tryz.p6:iy Tryz.prog Tryz.NX:={
 mixed:=y0
 f169:=Tryz.func290.trans w6
 t0:=Tryz.underlying0
 a0:=Tryz.isAgg0
 z0:=Tryz.sizeOf0
 v0:=Tryz.zeroValue0
 t3:=Tryz.underlying3
 a3:=Tryz.isAgg3
 z3:=Tryz.sizeOf3
 v3:=Tryz.zeroValue3
 t9:=Tryz.underlying9
 a9:=Tryz.isAgg9
 z9:=Tryz.sizeOf9
 v9:=Tryz.zeroValue9
 t37:=Tryz.underlying324
 a37:=Tryz.isAgg324
 z37:=Tryz.sizeOf324
 v37:=Tryz.zeroValue324
 t70:=Tryz.underlying323
 a70:=Tryz.isAgg323
 z70:=Tryz.sizeOf323
 v70:=Tryz.zeroValue323
 t72:=Tryz.underlying326
 a72:=Tryz.isAgg326
 z72:=Tryz.sizeOf326
 v72:=Tryz.zeroValue326
 t127:=Tryz.underlying349
 a127:=Tryz.isAgg349
 z127:=Tryz.sizeOf349
 v127:=Tryz.zeroValue349 }
theorem Tryz.MN:fR Tryz.prog Tryz.NX:={
 sizeBuilder:=y0
 liesBuilder:=y0
 t5:=Tryz.underlying5
 a5:=Tryz.isAgg5
 z5:=Tryz.sizeOf5
 v5:=Tryz.zeroValue5
 infoByte:=y0
 cellsByte:=y0
 sizeByte:=y0
 neB5:=by decide }
open Go.RowKit in
theorem Tryz.Builder_String_any(B b:Nat)(l:List UInt8)(w:World)(h:Lib.IsBuilder 326 5 B b (Lib.byteCells l) w)(hBw:B<=w.heap.size):
  Calls Tryz.prog 290 #[.pointer (some ⟨b,0,none⟩)] w λe w'=>e = .returned (.string ⟨l.toArray⟩)/\Below B w w':=Any.Builder_String_any Tryz.p6 Tryz.MN B b l w h hBw
def Tryz.Iu:ar:=⟨λ| 125=>315 | 128=>348 | 129=>311 | n=>n,λ| 46=>337 | 3=>3 | 51=>365 | 53=>297 | 4=>4 | 5=>5 | 9=>9 | n=>n,λ| n=>n⟩
theorem Tryz.uB:iC Tryz.prog Tryz.Iu:={
 mixed:=y0
 f125:=Tryz.func315.trans w6
 f128:=Tryz.func348.trans w6
 f129:=Tryz.func311.trans w6
 t3:=Tryz.underlying3
 a3:=Tryz.isAgg3
 z3:=Tryz.sizeOf3
 v3:=Tryz.zeroValue3
 t4:=Tryz.underlying4
 a4:=Tryz.isAgg4
 z4:=Tryz.sizeOf4
 v4:=Tryz.zeroValue4
 t5:=Tryz.underlying5
 a5:=Tryz.isAgg5
 z5:=Tryz.sizeOf5
 v5:=Tryz.zeroValue5
 t9:=Tryz.underlying9
 a9:=Tryz.isAgg9
 z9:=Tryz.sizeOf9
 v9:=Tryz.zeroValue9
 t46:=Tryz.underlying337
 a46:=Tryz.isAgg337
 z46:=Tryz.sizeOf337
 v46:=Tryz.zeroValue337
 t51:=Tryz.underlying365
 a51:=Tryz.isAgg365
 z51:=Tryz.sizeOf365
 v51:=Tryz.zeroValue365
 t53:=Tryz.underlying297
 a53:=Tryz.isAgg297
 z53:=Tryz.sizeOf297
 v53:=Tryz.zeroValue297 }
theorem Tryz.bits_Len(x:Int)(w:World)(h0:0<=x)(h1:x<=18446744073709551615):
  Calls Tryz.prog 315 #[.int .u64 x] w λe w'=>e = .returned (.int .i64 (aY x.toNat))/\w'=w:=Any.bits_Len Tryz.uB x w h0 h1
def Tryz.Is:ar:=⟨λ| 134=>322 | 129=>311 | n=>n,λ| 53=>297 | 3=>3 | 4=>4 | 46=>337 | 5=>5 | 9=>9 | n=>n,λ| n=>n⟩
theorem Tryz.p9:iA Tryz.prog Tryz.Is:={
 mixed:=y0
 f129:=Tryz.func311.trans w6
 f134:=Tryz.func322.trans w6
 t3:=Tryz.underlying3
 a3:=Tryz.isAgg3
 z3:=Tryz.sizeOf3
 v3:=Tryz.zeroValue3
 t4:=Tryz.underlying4
 a4:=Tryz.isAgg4
 z4:=Tryz.sizeOf4
 v4:=Tryz.zeroValue4
 t5:=Tryz.underlying5
 a5:=Tryz.isAgg5
 z5:=Tryz.sizeOf5
 v5:=Tryz.zeroValue5
 t9:=Tryz.underlying9
 a9:=Tryz.isAgg9
 z9:=Tryz.sizeOf9
 v9:=Tryz.zeroValue9
 t46:=Tryz.underlying337
 a46:=Tryz.isAgg337
 z46:=Tryz.sizeOf337
 v46:=Tryz.zeroValue337
 t53:=Tryz.underlying297
 a53:=Tryz.isAgg297
 z53:=Tryz.sizeOf297
 v53:=Tryz.zeroValue297 }
theorem Tryz.bits_LeadingZeros64(x:Int)(w:World)(h0:0<=x)(h1:x<=18446744073709551615):
  Calls Tryz.prog 322 #[.int .u64 x] w λe w'=>e = .returned (.int .i64 (64 - (aY x.toNat:Int)))/\w'=w:=Any.bits_LeadingZeros64 Tryz.p9 x w h0 h1
def Tryz.Iw:ar:=⟨λ| 103=>175 | 210=>254 | 206=>305 | n=>n,λ| 9=>9 | 4=>4 | 24=>231 | 3=>3 | n=>n,λ| n=>n⟩
theorem Tryz.uE:iF Tryz.prog Tryz.Iw:={
 mixed:=y0
 f103:=Tryz.func175.trans w6
 f206:=Tryz.func305.trans w6
 f210:=Tryz.func254.trans w6
 t3:=Tryz.underlying3
 a3:=Tryz.isAgg3
 z3:=Tryz.sizeOf3
 v3:=Tryz.zeroValue3
 t4:=Tryz.underlying4
 a4:=Tryz.isAgg4
 z4:=Tryz.sizeOf4
 v4:=Tryz.zeroValue4
 t9:=Tryz.underlying9
 a9:=Tryz.isAgg9
 z9:=Tryz.sizeOf9
 v9:=Tryz.zeroValue9
 t24:=Tryz.underlying231
 a24:=Tryz.isAgg231
 z24:=Tryz.sizeOf231
 v24:=Tryz.zeroValue231 }
open Go.RowKit in
theorem Tryz.strings_CutPrefix(s p:ByteArray)(w:World):
  Calls Tryz.prog 175 #[.string s,.string p] w λe w'=>e = .returned (.tuple #[.string ⟨(ik s.data.toList p.data.toList).toArray⟩,.bool (iI s.data.toList p.data.toList)])/\w'=w:=Any.strings_CutPrefix Tryz.uE s p w
def Tryz.QAP:ar:=⟨λ| 215=>349 | n=>n,λ| 3=>3 | 4=>4 | n=>n,λ| n=>n⟩
def Tryz.Iv:ar:=⟨λ| 122=>317 | 215=>349 | n=>n,λ| 3=>3 | 4=>4 | n=>n,λ| n=>n⟩
theorem Tryz.uC:iD Tryz.prog Tryz.Iv:={
 mixed:=y0
 f122:=Tryz.func317.trans w6
 f215:=Tryz.func349.trans w6
 t3:=Tryz.underlying3
 a3:=Tryz.isAgg3
 z3:=Tryz.sizeOf3
 v3:=Tryz.zeroValue3
 t4:=Tryz.underlying4
 a4:=Tryz.isAgg4
 z4:=Tryz.sizeOf4
 v4:=Tryz.zeroValue4 }
open Go.RowKit in
theorem Tryz.cmp_Compare_int(x y:Int)(w:World):
  Calls Tryz.prog 317 #[.int .i64 x,.int .i64 y] w λe w'=>e = .returned (.int .i64 (Lib.compareInt x y))/\w'=w:=Any.cmp_Compare_int Tryz.uC x y w
def Tryz.Iq:ar:=⟨λ| 172=>260 | 244=>307 | 245=>308 | 247=>335 | 279=>336 | 280=>337 | 281=>338 | 282=>339 | 287=>360 | 316=>361 | 171=>285 | 205=>362 | 321=>373 | 322=>374 | 243=>320 | 246=>350 | 283=>351 | 284=>352 | 285=>353 | 286=>354 | 129=>311 | 317=>368 | 318=>369 | 319=>370 | 320=>371 | 337=>376 | 338=>377 | n=>n,λ| 9=>9 | 3=>3 | 75=>294 | 76=>295 | 4=>4 | 5=>5 | 167=>351 | 37=>324 | 0=>0 | 85=>352 | 2=>2 | 168=>354 | 53=>297 | 175=>377 | 46=>337 | 210=>381 | 127=>349 | 145=>396 | 143=>394 | 21=>21 | 171=>368 | 173=>370 | 212=>390 | 51=>365 | 20=>20 | 213=>391 | 232=>400 | 233=>401 | 80=>270 | n=>n,λ| 15=>3 | 16=>4 | 17=>5 | 18=>6 | 19=>7 | n=>n⟩
theorem Tryz.p5:ix Tryz.prog Tryz.Iq:={
 mixed:=y0
 f129:=Tryz.func311.trans w6
 f171:=Tryz.func285.trans w6
 f172:=Tryz.func260.trans w6
 f205:=Tryz.func362.trans w6
 f243:=Tryz.func320.trans w6
 f244:=Tryz.func307.trans w6
 f245:=Tryz.func308.trans w6
 f246:=Tryz.func350.trans w6
 f247:=Tryz.func335.trans w6
 f279:=Tryz.func336.trans w6
 f280:=Tryz.func337.trans w6
 f281:=Tryz.func338.trans w6
 f282:=Tryz.func339.trans w6
 f283:=Tryz.func351.trans w6
 f284:=Tryz.func352.trans w6
 f285:=Tryz.func353.trans w6
 f286:=Tryz.func354.trans w6
 f287:=Tryz.func360.trans w6
 f316:=Tryz.func361.trans w6
 f317:=Tryz.func368.trans w6
 f318:=Tryz.func369.trans w6
 f319:=Tryz.func370.trans w6
 f320:=Tryz.func371.trans w6
 f321:=Tryz.func373.trans w6
 f322:=Tryz.func374.trans w6
 f337:=Tryz.func376.trans w6
 f338:=Tryz.func377.trans w6
 t0:=Tryz.underlying0
 a0:=Tryz.isAgg0
 z0:=Tryz.sizeOf0
 v0:=Tryz.zeroValue0
 t2:=Tryz.underlying2
 a2:=Tryz.isAgg2
 z2:=Tryz.sizeOf2
 v2:=Tryz.zeroValue2
 t3:=Tryz.underlying3
 a3:=Tryz.isAgg3
 z3:=Tryz.sizeOf3
 v3:=Tryz.zeroValue3
 t4:=Tryz.underlying4
 a4:=Tryz.isAgg4
 z4:=Tryz.sizeOf4
 v4:=Tryz.zeroValue4
 t5:=Tryz.underlying5
 a5:=Tryz.isAgg5
 z5:=Tryz.sizeOf5
 v5:=Tryz.zeroValue5
 t9:=Tryz.underlying9
 a9:=Tryz.isAgg9
 z9:=Tryz.sizeOf9
 v9:=Tryz.zeroValue9
 t20:=Tryz.underlying20
 a20:=Tryz.isAgg20
 z20:=Tryz.sizeOf20
 v20:=Tryz.zeroValue20
 t21:=Tryz.underlying21
 a21:=Tryz.isAgg21
 z21:=Tryz.sizeOf21
 v21:=Tryz.zeroValue21
 t37:=Tryz.underlying324
 a37:=Tryz.isAgg324
 z37:=Tryz.sizeOf324
 v37:=Tryz.zeroValue324
 t46:=Tryz.underlying337
 a46:=Tryz.isAgg337
 z46:=Tryz.sizeOf337
 v46:=Tryz.zeroValue337
 t51:=Tryz.underlying365
 a51:=Tryz.isAgg365
 z51:=Tryz.sizeOf365
 v51:=Tryz.zeroValue365
 t53:=Tryz.underlying297
 a53:=Tryz.isAgg297
 z53:=Tryz.sizeOf297
 v53:=Tryz.zeroValue297
 t75:=Tryz.underlying294
 a75:=Tryz.isAgg294
 z75:=Tryz.sizeOf294
 v75:=Tryz.zeroValue294
 t76:=Tryz.underlying295
 a76:=Tryz.isAgg295
 z76:=Tryz.sizeOf295
 v76:=Tryz.zeroValue295
 t85:=Tryz.underlying352
 a85:=Tryz.isAgg352
 z85:=Tryz.sizeOf352
 v85:=Tryz.zeroValue352
 t127:=Tryz.underlying349
 a127:=Tryz.isAgg349
 z127:=Tryz.sizeOf349
 v127:=Tryz.zeroValue349
 t143:=Tryz.underlying394
 a143:=Tryz.isAgg394
 z143:=Tryz.sizeOf394
 v143:=Tryz.zeroValue394
 t145:=Tryz.underlying396
 a145:=Tryz.isAgg396
 z145:=Tryz.sizeOf396
 v145:=Tryz.zeroValue396
 t167:=Tryz.underlying351
 a167:=Tryz.isAgg351
 z167:=Tryz.sizeOf351
 v167:=Tryz.zeroValue351
 t168:=Tryz.underlying354
 a168:=Tryz.isAgg354
 z168:=Tryz.sizeOf354
 v168:=Tryz.zeroValue354
 t171:=Tryz.underlying368
 a171:=Tryz.isAgg368
 z171:=Tryz.sizeOf368
 v171:=Tryz.zeroValue368
 t173:=Tryz.underlying370
 a173:=Tryz.isAgg370
 z173:=Tryz.sizeOf370
 v173:=Tryz.zeroValue370
 t175:=Tryz.underlying377
 a175:=Tryz.isAgg377
 z175:=Tryz.sizeOf377
 v175:=Tryz.zeroValue377
 t210:=Tryz.underlying381
 a210:=Tryz.isAgg381
 z210:=Tryz.sizeOf381
 v210:=Tryz.zeroValue381
 t212:=Tryz.underlying390
 a212:=Tryz.isAgg390
 z212:=Tryz.sizeOf390
 v212:=Tryz.zeroValue390
 t213:=Tryz.underlying391
 a213:=Tryz.isAgg391
 z213:=Tryz.sizeOf391
 t232:=Tryz.underlying400
 a232:=Tryz.isAgg400
 z232:=Tryz.sizeOf400
 v232:=Tryz.zeroValue400
 t233:=Tryz.underlying401
 a233:=Tryz.isAgg401
 z233:=Tryz.sizeOf401
 v233:=Tryz.zeroValue401
 g15:=y0
 g16:=y0
 g17:=y0
 g18:=y0
 g19:=by kernel_rfl }
open Go.RowKit in
theorem Tryz.strconv_Atoi(s:ByteArray)(n:Int)(hl:s.size<=18)(h:Lib.atoi s.data.toList=some n)(w:World):
  Calls Tryz.prog 260 #[.string s] w λe w'=>e = .returned (.tuple #[.int .i64 n,.nilIface])/\∃t,w'=Lib.bytesWorld w 5 t:=Any.strconv_Atoi Tryz.p5 s n hl h w
def Tryz.It:ar:=⟨λ| 129=>311 | n=>n,λ| 53=>297 | 3=>3 | 4=>4 | 46=>337 | 5=>5 | 9=>9 | n=>n,λ| n=>n⟩
theorem Tryz.uA:iB Tryz.prog Tryz.It:={
 mixed:=y0
 f129:=Tryz.func311.trans w6
 t3:=Tryz.underlying3
 a3:=Tryz.isAgg3
 z3:=Tryz.sizeOf3
 v3:=Tryz.zeroValue3
 t4:=Tryz.underlying4
 a4:=Tryz.isAgg4
 z4:=Tryz.sizeOf4
 v4:=Tryz.zeroValue4
 t5:=Tryz.underlying5
 a5:=Tryz.isAgg5
 z5:=Tryz.sizeOf5
 v5:=Tryz.zeroValue5
 t9:=Tryz.underlying9
 a9:=Tryz.isAgg9
 z9:=Tryz.sizeOf9
 v9:=Tryz.zeroValue9
 t46:=Tryz.underlying337
 a46:=Tryz.isAgg337
 z46:=Tryz.sizeOf337
 v46:=Tryz.zeroValue337
 t53:=Tryz.underlying297
 a53:=Tryz.isAgg297
 z53:=Tryz.sizeOf297
 v53:=Tryz.zeroValue297 }
theorem Tryz.bits_Len64(x:Int)(w:World)(h0:0<=x)(h1:x<=18446744073709551615):
  Calls Tryz.prog 311 #[.int .u64 x] w λe w'=>e = .returned (.int .i64 (aY x.toNat))/\w'=w:=Any.bits_Len64 Tryz.uA x w h0 h1
def Tryz.Io:ar:=⟨λ| 283=>351 | n=>n,λ| 3=>3 | 9=>9 | 4=>4 | n=>n,λ| n=>n⟩
theorem Tryz.pz:iv Tryz.prog Tryz.Io:={
 mixed:=y0
 f283:=Tryz.func351.trans w6
 t3:=Tryz.underlying3
 a3:=Tryz.isAgg3
 z3:=Tryz.sizeOf3
 v3:=Tryz.zeroValue3
 t4:=Tryz.underlying4
 a4:=Tryz.isAgg4
 z4:=Tryz.sizeOf4
 v4:=Tryz.zeroValue4
 t9:=Tryz.underlying9
 a9:=Tryz.isAgg9
 z9:=Tryz.sizeOf9
 v9:=Tryz.zeroValue9 }
open Go.Lib in
theorem Tryz.internal_strconv_small(i:Nat)(h:i<100)(w:World):
  Calls Tryz.prog 351 #[.int .i64 i] w λe w'=>e = .returned (.string ⟨(Lib.decDigits i).toArray⟩)/\w'=w:=Any.internal_strconv_small Tryz.pz i h w
def Tryz.AS:ar:=⟨λ| 284=>352 | 129=>311 | 317=>368 | 318=>369 | n=>n,λ| 53=>297 | 3=>3 | 212=>390 | 0=>0 | 4=>4 | 46=>337 | 5=>5 | 9=>9 | n=>n,λ| 17=>5 | n=>n⟩
theorem Tryz.kf:ig Tryz.prog Tryz.AS:={
 mixed:=y0
 f129:=Tryz.func311.trans w6
 f284:=Tryz.func352.trans w6
 f317:=Tryz.func368.trans w6
 f318:=Tryz.func369.trans w6
 t0:=Tryz.underlying0
 a0:=Tryz.isAgg0
 z0:=Tryz.sizeOf0
 v0:=Tryz.zeroValue0
 t3:=Tryz.underlying3
 a3:=Tryz.isAgg3
 z3:=Tryz.sizeOf3
 v3:=Tryz.zeroValue3
 t4:=Tryz.underlying4
 a4:=Tryz.isAgg4
 z4:=Tryz.sizeOf4
 v4:=Tryz.zeroValue4
 t5:=Tryz.underlying5
 a5:=Tryz.isAgg5
 z5:=Tryz.sizeOf5
 v5:=Tryz.zeroValue5
 t9:=Tryz.underlying9
 a9:=Tryz.isAgg9
 z9:=Tryz.sizeOf9
 v9:=Tryz.zeroValue9
 t46:=Tryz.underlying337
 a46:=Tryz.isAgg337
 z46:=Tryz.sizeOf337
 v46:=Tryz.zeroValue337
 t53:=Tryz.underlying297
 a53:=Tryz.isAgg297
 z53:=Tryz.sizeOf297
 v53:=Tryz.zeroValue297
 t212:=Tryz.underlying390
 a212:=Tryz.isAgg390
 z212:=Tryz.sizeOf390
 v212:=Tryz.zeroValue390
 g17:=y0
 i0:=y0
 i3:=y0
 i4:=y0
 i5:=y0
 i9:=y0
 i46:=y0
 i53:=y0
 i212:=y0
 m17:=by kernel_rfl }
open Go.Lib in
theorem Tryz.internal_strconv_numDigits(u:Nat)(h1:1<=u)(h2:u<18446744073709551616)(w:World)(htab:Lib.TabIs Tryz.prog w "internal/strconv.uint64pow10" .u64 iQ):
  Calls Tryz.prog 352 #[.int .u64 u] w λe w'=>e = .returned (.int .i64 (Lib.nDigits u))/\w'=w:=Any.internal_strconv_numDigits Tryz.kf u h1 h2 w htab
def Tryz.Im:ar:=⟨λ| 285=>353 | n=>n,λ| 37=>324 | 53=>297 | 3=>3 | 4=>4 | 51=>365 | 9=>9 | 5=>5 | 0=>0 | n=>n,λ| n=>n⟩
theorem Tryz.pv:iu Tryz.prog Tryz.Im:={
 mixed:=y0
 f285:=Tryz.func353.trans w6
 t0:=Tryz.underlying0
 a0:=Tryz.isAgg0
 z0:=Tryz.sizeOf0
 v0:=Tryz.zeroValue0
 t3:=Tryz.underlying3
 a3:=Tryz.isAgg3
 z3:=Tryz.sizeOf3
 v3:=Tryz.zeroValue3
 t4:=Tryz.underlying4
 a4:=Tryz.isAgg4
 z4:=Tryz.sizeOf4
 v4:=Tryz.zeroValue4
 t5:=Tryz.underlying5
 a5:=Tryz.isAgg5
 z5:=Tryz.sizeOf5
 v5:=Tryz.zeroValue5
 t9:=Tryz.underlying9
 a9:=Tryz.isAgg9
 z9:=Tryz.sizeOf9
 v9:=Tryz.zeroValue9
 t37:=Tryz.underlying324
 a37:=Tryz.isAgg324
 z37:=Tryz.sizeOf324
 v37:=Tryz.zeroValue324
 t51:=Tryz.underlying365
 a51:=Tryz.isAgg365
 z51:=Tryz.sizeOf365
 v51:=Tryz.zeroValue365
 t53:=Tryz.underlying297
 a53:=Tryz.isAgg297
 z53:=Tryz.sizeOf297
 v53:=Tryz.zeroValue297 }
open Go.RowKit Go.Sort Go.Lib in
theorem Tryz.internal_strconv_formatBase10(BA off cap:Nat)(u:Nat)(d:Array UInt8)(w:World)(hH:Holds (λ(b:UInt8)=>aK .u8 (b.toNat:Int)) w BA off d)(hu:u<10^d.size)(hu64:u<18446744073709551616)(hsz:d.size<4611686018427387904):
  Calls Tryz.prog 353 #[.slice (some ⟨BA,off,none⟩) d.size cap,.int .u64 u] w λe w' =>
   e = .returned (.tuple #[])/\∃(n v':Nat) (dk:Array UInt8),w'=(putRow (λ(b:UInt8)=>aK .u8 (b.toNat:Int)) w BA off dk).drewN n/\FmtInv d.size u 0 v' dk:=Any.internal_strconv_formatBase10 Tryz.pv BA off cap u d w hH hu hu64 hsz
def Tryz.AT:ar:=⟨λ| 171=>285 | 243=>320 | 246=>350 | 283=>351 | 284=>352 | 285=>353 | 286=>354 | 129=>311 | 317=>368 | 318=>369 | 319=>370 | 320=>371 | 337=>376 | 338=>377 | n=>n,λ| 3=>3 | 9=>9 | 2=>2 | 4=>4 | 171=>368 | 0=>0 | 53=>297 | 37=>324 | 5=>5 | 173=>370 | 212=>390 | 51=>365 | 20=>20 | 213=>391 | 46=>337 | 232=>400 | 233=>401 | n=>n,λ| 17=>5 | 18=>6 | 19=>7 | n=>n⟩
theorem Tryz.kg:ij Tryz.prog Tryz.AT:={
 mixed:=y0
 f129:=Tryz.func311.trans w6
 f171:=Tryz.func285.trans w6
 f243:=Tryz.func320.trans w6
 f246:=Tryz.func350.trans w6
 f283:=Tryz.func351.trans w6
 f284:=Tryz.func352.trans w6
 f285:=Tryz.func353.trans w6
 f286:=Tryz.func354.trans w6
 f317:=Tryz.func368.trans w6
 f318:=Tryz.func369.trans w6
 f319:=Tryz.func370.trans w6
 f320:=Tryz.func371.trans w6
 f337:=Tryz.func376.trans w6
 f338:=Tryz.func377.trans w6
 t0:=Tryz.underlying0
 a0:=Tryz.isAgg0
 z0:=Tryz.sizeOf0
 v0:=Tryz.zeroValue0
 t2:=Tryz.underlying2
 a2:=Tryz.isAgg2
 z2:=Tryz.sizeOf2
 v2:=Tryz.zeroValue2
 t3:=Tryz.underlying3
 a3:=Tryz.isAgg3
 z3:=Tryz.sizeOf3
 v3:=Tryz.zeroValue3
 t4:=Tryz.underlying4
 a4:=Tryz.isAgg4
 z4:=Tryz.sizeOf4
 v4:=Tryz.zeroValue4
 t5:=Tryz.underlying5
 a5:=Tryz.isAgg5
 z5:=Tryz.sizeOf5
 v5:=Tryz.zeroValue5
 t9:=Tryz.underlying9
 a9:=Tryz.isAgg9
 z9:=Tryz.sizeOf9
 v9:=Tryz.zeroValue9
 t20:=Tryz.underlying20
 a20:=Tryz.isAgg20
 z20:=Tryz.sizeOf20
 v20:=Tryz.zeroValue20
 t37:=Tryz.underlying324
 a37:=Tryz.isAgg324
 z37:=Tryz.sizeOf324
 v37:=Tryz.zeroValue324
 t46:=Tryz.underlying337
 a46:=Tryz.isAgg337
 z46:=Tryz.sizeOf337
 v46:=Tryz.zeroValue337
 t51:=Tryz.underlying365
 a51:=Tryz.isAgg365
 z51:=Tryz.sizeOf365
 v51:=Tryz.zeroValue365
 t53:=Tryz.underlying297
 a53:=Tryz.isAgg297
 z53:=Tryz.sizeOf297
 v53:=Tryz.zeroValue297
 t171:=Tryz.underlying368
 a171:=Tryz.isAgg368
 z171:=Tryz.sizeOf368
 v171:=Tryz.zeroValue368
 t173:=Tryz.underlying370
 a173:=Tryz.isAgg370
 z173:=Tryz.sizeOf370
 v173:=Tryz.zeroValue370
 t212:=Tryz.underlying390
 a212:=Tryz.isAgg390
 z212:=Tryz.sizeOf390
 v212:=Tryz.zeroValue390
 t213:=Tryz.underlying391
 a213:=Tryz.isAgg391
 z213:=Tryz.sizeOf391
 t232:=Tryz.underlying400
 a232:=Tryz.isAgg400
 z232:=Tryz.sizeOf400
 v232:=Tryz.zeroValue400
 t233:=Tryz.underlying401
 a233:=Tryz.isAgg401
 z233:=Tryz.sizeOf401
 v233:=Tryz.zeroValue401
 g17:=y0
 g18:=y0
 g19:=y0
 i0:=y0
 i2:=y0
 i3:=y0
 i4:=y0
 i5:=y0
 i9:=y0
 i20:=y0
 i37:=y0
 i46:=y0
 i51:=y0
 i53:=y0
 i171:=y0
 i173:=y0
 i212:=y0
 i232:=y0
 i233:=y0
 m17:=y0
 m18:=y0
 m19:=by kernel_rfl }
open Go.RowKit Go.Sort Go.Lib in
theorem Tryz.strconv_Itoa(n:Int)(h0 : -9223372036854775808<=n)(h1:n<=9223372036854775807)(w:World)(htab:Lib.TabIs Tryz.prog w "internal/strconv.uint64pow10" .u64 iQ):
  Calls Tryz.prog 285 #[.int .i64 n] w λe w'=>e = .returned (.string ⟨(Lib.itoa n).toArray⟩)/\∃k os,w'=grow (w.drewN k) os:=Any.strconv_Itoa Tryz.kg n h0 h1 w htab
def Tryz.Ir:ar:=⟨λ| 145=>174 | 220=>253 | 219=>304 | 217=>331 | 225=>332 | 224=>333 | 267=>334 | 266=>358 | 314=>359 | n=>n,λ| 9=>9 | 4=>4 | 59=>229 | 3=>3 | 5=>5 | 46=>337 | 146=>372 | 51=>365 | n=>n,λ| 1=>0 | n=>n⟩
theorem Tryz.p8:iz Tryz.prog Tryz.Ir:={
 mixed:=y0
 f145:=Tryz.func174.trans w6
 f217:=Tryz.func331.trans w6
 f219:=Tryz.func304.trans w6
 f220:=Tryz.func253.trans w6
 f224:=Tryz.func333.trans w6
 f225:=Tryz.func332.trans w6
 f266:=Tryz.func358.trans w6
 f267:=Tryz.func334.trans w6
 f314:=Tryz.func359.trans w6
 t3:=Tryz.underlying3
 a3:=Tryz.isAgg3
 z3:=Tryz.sizeOf3
 v3:=Tryz.zeroValue3
 t4:=Tryz.underlying4
 a4:=Tryz.isAgg4
 z4:=Tryz.sizeOf4
 v4:=Tryz.zeroValue4
 t5:=Tryz.underlying5
 a5:=Tryz.isAgg5
 z5:=Tryz.sizeOf5
 v5:=Tryz.zeroValue5
 t9:=Tryz.underlying9
 a9:=Tryz.isAgg9
 z9:=Tryz.sizeOf9
 v9:=Tryz.zeroValue9
 t46:=Tryz.underlying337
 a46:=Tryz.isAgg337
 z46:=Tryz.sizeOf337
 v46:=Tryz.zeroValue337
 t51:=Tryz.underlying365
 a51:=Tryz.isAgg365
 z51:=Tryz.sizeOf365
 v51:=Tryz.zeroValue365
 t59:=Tryz.underlying229
 a59:=Tryz.isAgg229
 z59:=Tryz.sizeOf229
 v59:=Tryz.zeroValue229
 t146:=Tryz.underlying372
 a146:=Tryz.isAgg372
 z146:=Tryz.sizeOf372
 v146:=Tryz.zeroValue372
 g1:=by kernel_rfl }
open Go.RowKit Go.Lib in
theorem Tryz.strings_Cut(s sep:ByteArray)(m:Int)(w:World)(hs:s.size<4294967281)(hm:w.cell? ⟨0,0,none⟩=some (.int .i64 m)):
  Calls Tryz.prog 174 #[.string s,.string sep] w λe w'=>e = .returned (.tuple #[.string ⟨(iR s.data.toList sep.data.toList).1.toArray⟩,.string ⟨(iR s.data.toList sep.data.toList).2.1.toArray⟩,.bool (iR s.data.toList sep.data.toList).2.2])/\∃n,w'=w.drewN n:=Any.strings_Cut Tryz.p8 s sep m w hs hm
def Tryz.Oy:ar:=⟨λ| 99=>258 | 206=>305 | n=>n,λ| 9=>9 | 4=>4 | 3=>3 | n=>n,λ| n=>n⟩
theorem Tryz.QBu:ir Tryz.prog Tryz.Oy:={
 mixed:=y0
 f99:=Tryz.func258.trans w6
 f206:=Tryz.func305.trans w6
 t3:=Tryz.underlying3
 a3:=Tryz.isAgg3
 z3:=Tryz.sizeOf3
 v3:=Tryz.zeroValue3
 t4:=Tryz.underlying4
 a4:=Tryz.isAgg4
 z4:=Tryz.sizeOf4
 v4:=Tryz.zeroValue4
 t9:=Tryz.underlying9
 a9:=Tryz.isAgg9
 z9:=Tryz.sizeOf9
 v9:=Tryz.zeroValue9 }
open Go.RowKit Go.Lib in
theorem Tryz.strings_HasPrefix(s p:ByteArray)(w:World):
  Calls Tryz.prog 258 #[.string s,.string p] w λe w'=>e = .returned (.bool (iI s.data.toList p.data.toList))/\w'=w:=Any.strings_HasPrefix Tryz.QBu s p w
def Tryz.Ix:ar:=⟨λ| 101=>259 | 208=>306 | 206=>305 | n=>n,λ| 9=>9 | 4=>4 | 3=>3 | n=>n,λ| n=>n⟩
theorem Tryz.uF:iG Tryz.prog Tryz.Ix:={
 mixed:=y0
 f101:=Tryz.func259.trans w6
 f206:=Tryz.func305.trans w6
 f208:=Tryz.func306.trans w6
 t3:=Tryz.underlying3
 a3:=Tryz.isAgg3
 z3:=Tryz.sizeOf3
 v3:=Tryz.zeroValue3
 t4:=Tryz.underlying4
 a4:=Tryz.isAgg4
 z4:=Tryz.sizeOf4
 v4:=Tryz.zeroValue4
 t9:=Tryz.underlying9
 a9:=Tryz.isAgg9
 z9:=Tryz.sizeOf9
 v9:=Tryz.zeroValue9 }
open Go.RowKit Go.Lib in
theorem Tryz.strings_TrimPrefix(s p:ByteArray)(w:World):
  Calls Tryz.prog 259 #[.string s,.string p] w λe w'=>e = .returned (.string ⟨(ik s.data.toList p.data.toList).toArray⟩)/\w'=w:=Any.strings_TrimPrefix Tryz.uF s p w
def Tryz.Ip:ar:=⟨λ| 264=>264 | n=>n,λ| 53=>297 | 46=>337 | n=>n,λ| n=>n⟩
theorem Tryz.p4:iw Tryz.prog Tryz.Ip:={
 mixed:=y0
 f264:=Tryz.func264.trans w6
 t46:=Tryz.underlying337
 a46:=Tryz.isAgg337
 z46:=Tryz.sizeOf337
 v46:=Tryz.zeroValue337
 t53:=Tryz.underlying297
 a53:=Tryz.isAgg297
 z53:=Tryz.sizeOf297
 v53:=Tryz.zeroValue297 }
open Go.RowKit Go.Lib in
theorem Tryz.bits_Mul64(x y:Nat)(hx:x<18446744073709551616)(hy:y<18446744073709551616)(w:World):
  Calls Tryz.prog 264 #[.int .u64 x,.int .u64 y] w λe w'=>e = .returned (.tuple #[.int .u64 ((x*y / 18446744073709551616:Nat):Int),.int .u64 ((x*y%18446744073709551616:Nat):Int)])/\w'=w:=Any.bits_Mul64 Tryz.p4 x y hx hy w
def Tryz.NY:ar:=⟨λ| 105=>288 | 212=>326 | 99=>258 | 165=>327 | 166=>289 | 170=>328 | 169=>290 | 263=>355 | 264=>264 | 206=>305 | 240=>329 | 241=>356 | 276=>357 | 277=>372 | n=>n,λ| 9=>9 | 3=>3 | 4=>4 | 20=>20 | 0=>0 | 46=>337 | 109=>346 | 5=>5 | 72=>326 | 76=>295 | 51=>365 | 146=>372 | 53=>297 | 148=>298 | 70=>323 | 37=>324 | 75=>294 | 127=>349 | 164=>374 | 80=>270 | n=>n,λ| n=>n⟩
theorem Tryz.uD:iE Tryz.prog Tryz.NY:={
 mixed:=y0
 f99:=Tryz.func258.trans w6
 f105:=Tryz.func288.trans w6
 f165:=Tryz.func327.trans w6
 f166:=Tryz.func289.trans w6
 f169:=Tryz.func290.trans w6
 f170:=Tryz.func328.trans w6
 f206:=Tryz.func305.trans w6
 f212:=Tryz.func326.trans w6
 f240:=Tryz.func329.trans w6
 f241:=Tryz.func356.trans w6
 f263:=Tryz.func355.trans w6
 f264:=Tryz.func264.trans w6
 f276:=Tryz.func357.trans w6
 f277:=Tryz.func372.trans w6
 t0:=Tryz.underlying0
 a0:=Tryz.isAgg0
 z0:=Tryz.sizeOf0
 v0:=Tryz.zeroValue0
 t3:=Tryz.underlying3
 a3:=Tryz.isAgg3
 z3:=Tryz.sizeOf3
 v3:=Tryz.zeroValue3
 t4:=Tryz.underlying4
 a4:=Tryz.isAgg4
 z4:=Tryz.sizeOf4
 v4:=Tryz.zeroValue4
 t5:=Tryz.underlying5
 a5:=Tryz.isAgg5
 z5:=Tryz.sizeOf5
 v5:=Tryz.zeroValue5
 t9:=Tryz.underlying9
 a9:=Tryz.isAgg9
 z9:=Tryz.sizeOf9
 v9:=Tryz.zeroValue9
 t20:=Tryz.underlying20
 a20:=Tryz.isAgg20
 z20:=Tryz.sizeOf20
 v20:=Tryz.zeroValue20
 t37:=Tryz.underlying324
 a37:=Tryz.isAgg324
 z37:=Tryz.sizeOf324
 v37:=Tryz.zeroValue324
 t46:=Tryz.underlying337
 a46:=Tryz.isAgg337
 z46:=Tryz.sizeOf337
 v46:=Tryz.zeroValue337
 t51:=Tryz.underlying365
 a51:=Tryz.isAgg365
 z51:=Tryz.sizeOf365
 v51:=Tryz.zeroValue365
 t53:=Tryz.underlying297
 a53:=Tryz.isAgg297
 z53:=Tryz.sizeOf297
 v53:=Tryz.zeroValue297
 t70:=Tryz.underlying323
 a70:=Tryz.isAgg323
 z70:=Tryz.sizeOf323
 v70:=Tryz.zeroValue323
 t72:=Tryz.underlying326
 a72:=Tryz.isAgg326
 z72:=Tryz.sizeOf326
 v72:=Tryz.zeroValue326
 t75:=Tryz.underlying294
 a75:=Tryz.isAgg294
 z75:=Tryz.sizeOf294
 v75:=Tryz.zeroValue294
 t76:=Tryz.underlying295
 a76:=Tryz.isAgg295
 z76:=Tryz.sizeOf295
 v76:=Tryz.zeroValue295
 t109:=Tryz.underlying346
 a109:=Tryz.isAgg346
 z109:=Tryz.sizeOf346
 v109:=Tryz.zeroValue346
 t127:=Tryz.underlying349
 a127:=Tryz.isAgg349
 z127:=Tryz.sizeOf349
 v127:=Tryz.zeroValue349
 t146:=Tryz.underlying372
 a146:=Tryz.isAgg372
 z146:=Tryz.sizeOf372
 v146:=Tryz.zeroValue372
 t148:=Tryz.underlying298
 a148:=Tryz.isAgg298
 z148:=Tryz.sizeOf298
 v148:=Tryz.zeroValue298
 t164:=Tryz.underlying374
 a164:=Tryz.isAgg374
 z164:=Tryz.sizeOf374
 v164:=Tryz.zeroValue374 }
theorem Tryz.MO:fR Tryz.prog Tryz.NY:={
 sizeBuilder:=y0
 liesBuilder:=y0
 t5:=Tryz.underlying5
 a5:=Tryz.isAgg5
 z5:=Tryz.sizeOf5
 v5:=Tryz.zeroValue5
 infoByte:=y0
 cellsByte:=y0
 sizeByte:=y0
 neB5:=by decide }
open Go.RowKit Go.Lib in
theorem Tryz.strings_Repeat(s:ByteArray)(c:Nat)(w:World)(hc:c<=9223372036854775807)(hlen:s.size*c<=140737488355328):
  Calls Tryz.prog 288 #[.string s,.int .i64 c] w λe w'=>e = .returned (.string ⟨(Lib.repeatL s.data.toList c).toArray⟩)/\Below w.heap.size w w':=Any.strings_Repeat Tryz.uD Tryz.MO s c w hc hlen
end Go.Proofs
namespace Go.Proofs.YtjcphjpkimmmjaaGreatDoor
variable{w w' w0:World}{E N b bytes i id k n off:Nat}{a:Act}{c cs l l' news z:List Value}{o:Obj}{u v1 v3 v4 v5 x2 x3 x4 x5 x6 x7 x8:Value}{A0 A1 A2 A3 A4 A5 A6 A7 A8 A9 α γ ι:Type}{T T' t yT:TypeId}{ops:Array Oper}{Q Q':Exit->Act->World->Prop}{tl:List Oper}{K:Act->World->Prop}{g:Bool}{x y:Operand}{bs bs' bs0 ob:List (Nat×Obj)}{fr:Nat×Nat}{P:Program}{f:Obj->List (Nat×Obj)}{fn:Func}{aft:Array Edge}{gd:Option (Nat×Bool)}{x1:Nat×Obj}{ps:List (Nat×Value)}{k':IntKind}{s:ByteArray}{pl:List (Nat×Nat)}{ds:List Int}{h:Int}{F F0:Gs}{G G' G0:Gs->Prop}{m:Sl}
open Go.RowKit
section
variable{P:Program}{N:Nat}{m:Sl}{S:World->Prop}{ty:TypeId}{T yT:TypeId}{x y:Operand}{a b:Nat}{k:IntKind}
theorem FW(n:Int):IntKind.u64.wrap n=n%18446744073709551616:=IntKind.wrap_u64 n
theorem Ob(hx:ev m x=some (.int .u64 (a:Int)))(hy:ev m y=some (.int k (b:Int)))(z:Nat)(h:b<=64/\a*2^b%18446744073709551616=z):Qt P N m S (.binOp .shl T x y yT) ty (.int .u64 (z:Int)):=λs w _ _ _ _ ha _=>by
 have h1:min b 64=b:=O
 have h2:¬((b:Int)<0):=O
 have h3:IntKind.u64.wrap ((a:Int)*2^b)=(z:Int):=by
  rw[FW,<-h.2,bV,aU,aT];rfl
 simp[execOp,ha.ev hx,ha.ev hy,eqGuard,binOp,iH,bF,h1,h2,h3]
theorem U7(hx:ev m x=some (.int .u64 (a:Int)))(hy:ev m y=some (.int k (b:Int)))(z:Nat)(h:b<=64/\a / 2^b=z):Qt P N m S (.binOp .shr T x y yT) ty (.int .u64 (z:Int)):=λs w _ _ _ _ ha _=>by
 have h1:min b 64=b:=O
 have h2:¬((b:Int)<0):=O
 have h3:(a:Int) / 2^b=(z:Int):=by
  rw[<-h.2,bW,aT];rfl
 simp[execOp,ha.ev hx,ha.ev hy,eqGuard,binOp,iH,bF,h1,h2]
 exact h3
theorem W7(n:Nat)(h:n<18446744073709551616):(aO 64 (n:Int)).toNat=n:=by
 rw[fj]
 have h3:(((2^64:Nat):Int))=18446744073709551616:=wa
 rw[h3];omega
theorem yo(hx:ev m x=some (.int .u64 (a:Int)))(hy:ev m y=some (.int .u64 ((4294967295:Nat):Int)))(z:Nat)(h:a<18446744073709551616/\a%4294967296=z):Qt P N m S (.binOp .and T x y yT) ty (.int .u64 (z:Int)):=λs w _ _ _ _ ha _=>by
 have e:IntKind.u64.wrap (((aO 64 (a:Int) &&& aO 64 ((4294967295:Nat):Int)).toNat:Nat):Int)=(z:Int):=by
  rw[fA,W7 a h.1,W7 _ wa,show(4294967295:Nat)=2^32 - 1 by decide,Nat.and_two_pow_sub_one_eq_mod,FW]
  have:=h.2
  omega
 have e2:(do eqGuard .and T x y (.int .u64 (a:Int)) (.int .u64 ((4294967295:Nat):Int));binOp .and T (.int .u64 (a:Int)) (.int .u64 ((4294967295:Nat):Int)):Sem Value).run P w = .ok (.int .u64 (z:Int)) w:=by
  simp only[eqGuard,binOp,fS,ak,aF,aq]
  rw[<-e];rfl
 simp only[execOp,ha.ev hx,ha.ev hy]
 simp only[ak]at e2 ⊢
 rw[e2];rfl
theorem QD6(hx:ev m x=some (.int .u64 (a:Int)))(hy:ev m y=some (.int .u64 (b:Int)))(z:Nat)(h:a<18446744073709551616/\(∃c k,a=c*2^k/\b<2^k)/\b<18446744073709551616/\a+b=z):Qt P N m S (.binOp .or T x y yT) ty (.int .u64 (z:Int)):=λs w _ _ _ _ ha _=>by
 obtain⟨h1,⟨c,k,h2,h3⟩,h4,h5⟩:=h
 have e:IntKind.u64.wrap (((aO 64 (a:Int) ||| aO 64 (b:Int)).toNat:Nat):Int)=(z:Int):=by
  have h7:a ||| b=a+b:=by rw[h2,aA,eN h3]
  have h8:a ||| b<2^64:=Nat.or_lt_two_pow h1 h4
  rw[BitVec.toNat_or,W7 a h1,W7 b h4,FW]
  omega
 have e2:(do eqGuard .or T x y (.int .u64 (a:Int)) (.int .u64 (b:Int));binOp .or T (.int .u64 (a:Int)) (.int .u64 (b:Int)):Sem Value).run P w = .ok (.int .u64 (z:Int)) w:=by
  simp only[eqGuard,binOp,fS,ak,aF,aq]
  rw[<-e];rfl
 simp only[execOp,ha.ev hx,ha.ev hy]
 simp only[ak]at e2 ⊢
 rw[e2];rfl
theorem G7(hx:ev m x=some (.int .u64 (a:Int)))(hy:ev m y=some (.int .u64 (b:Int)))(z:Nat)(h:(a+b)%18446744073709551616=z):Qt P N m S (.binOp .add T x y yT) ty (.int .u64 (z:Int)) :=
 QZ hx hy (by show some (aK .u64 (IntKind.u64.wrap ((a:Int)+b)))=_;rw[FW];congr 2;omega)
theorem Wh(hx:ev m x=some (.int .u64 (a:Int)))(hy:ev m y=some (.int .u64 (b:Int)))(z:Nat)(h:a*b%18446744073709551616=z):Qt P N m S (.binOp .mul T x y yT) ty (.int .u64 (z:Int)) :=
 QZ hx hy (by show some (aK .u64 (IntKind.u64.wrap ((a:Int)*b)))=_;rw[FW,<-aU];congr 2;omega)
theorem G6(hx:ev m x=some (.int .u64 (a:Int)))(hy:ev m y=some (.int .u64 (b:Int)))(z:Nat)(h:b<18446744073709551616/\(a+18446744073709551616 - b)%18446744073709551616=z):Qt P N m S (.binOp .sub T x y yT) ty (.int .u64 (z:Int)) :=
 QZ hx hy (by show some (aK .u64 (IntKind.u64.wrap ((a:Int) - b)))=_;rw[FW];congr 2;omega)
theorem Oc(hx:ev m x=some (.int .u64 (a:Int)))(hy:ev m y=some (.int .u64 (b:Int)))(z:Nat)(h:0<b/\a<18446744073709551616/\a / b=z):Qt P N m S (.binOp .quo T x y yT) ty (.int .u64 (z:Int)):=by
 have:=xg (P:=P) (N:=N) (m:=m) (S:=S) (ty:=ty) (T:=T) (yT:=yT) hx hy O
 have e:IntKind.u64.wrap ((a:Int).tdiv b)=(z:Int):=by
  have h1:a / b<=a:=Nat.div_le_self a b
  rw[eT O,<-bW,FW,h.2.2]
  omega
 rw[e]at this;exact this
theorem QBN(hx:ev m x=some (.int .u64 (a:Int)))(hy:ev m y=some (.int .u64 (b:Int)))(z:Nat)(h:0<b/\a%b=z):Qt P N m S (.binOp .rem T x y yT) ty (.int .u64 (z:Int)):=by
 have:=BO (P:=P) (N:=N) (m:=m) (S:=S) (ty:=ty) (T:=T) (yT:=yT) hx hy O O
 rw[<-bV,h.2]at this;exact this
end
section
variable{D yn1 yn0 u un q r:Nat}
theorem vD(hD:D=4294967296)(h:q*yn1+r=u)(hc:q*yn0<=D*r+un):q*(yn1*D+yn0)<=u*D+un:=by
 subst hD
 rw[iT,<-im,<-h]
 generalize q*yn1=A at *
 generalize q*yn0=B at *
 omega
theorem uS(hy:0<yn1*D+yn0)(hq:(u*D+un) / (yn1*D+yn0)<=q)(h:q*(yn1*D+yn0)<=u*D+un):q=(u*D+un) / (yn1*D+yn0) :=
 Nat.le_antisymm ((Nat.le_div_iff_mul_le hy).2 h) hq
theorem Mp(hD:D=4294967296)(hy:0<yn1*D+yn0)(h:q*yn1+r=u)(hq:(u*D+un) / (yn1*D+yn0)<=q)(hc:q*yn0<=D*r+un):q=(u*D+un) / (yn1*D+yn0):=uS hy hq (vD hD h hc)
theorem Es(hD:D=4294967296)(hy:0<yn1*D+yn0)(h0:yn0<D)(h:q*yn1+r=u)(hq:(u*D+un) / (yn1*D+yn0)<=q)(hqD:q<=D)(hr:D<=r):q=(u*D+un) / (yn1*D+yn0):=by
 refine Mp hD hy h hq ?_
 have h1:q*yn0<=D*D:=ib hqD O
 have h2:D*D<=D*r:=fu D hr
 omega
theorem Kl(hD:D=4294967296)(hy:0<yn1*D+yn0)(hu:u<yn1*D+yn0)(hun:un<D)(h:q*yn1+r=u)(hc:D<=q\/D*r+un<q*yn0):(u*D+un) / (yn1*D+yn0)<q:=by
 rw[aV hy]
 rcases hc with hc | hc
 ·have h1:D*(yn1*D+yn0)<=q*(yn1*D+yn0):=aX _ hc
  have h2:(u+1)*D<=(yn1*D+yn0)*D:=aX _ hu
  rw[aD]at h2
  rw[aA D]at h1
  omega
 ·subst hD
  rw[iT,<-im,<-h]
  generalize q*yn1=A at *
  generalize q*yn0=B at *
  omega
theorem SG(hD:D=4294967296)(h1:2147483648<=yn1)(hun:un<D):(u*D+un) / (yn1*D+yn0)<=u / yn1:=by
 have h2:0<yn1*D:=by subst hD;omega
 refine eB (Nat.div_le_div_left (Nat.le_add_right _ yn0) h2) ?_
 rw[aA yn1,<-Nat.div_div_eq_div_mul]
 have:(u*D+un) / D=u:=by subst hD;omega
 rw[this];exact av _
theorem Nc(hD:D=4294967296)(h1:2147483648<=yn1)(h0:yn0<D)(hu:u<yn1*D+yn0):u / yn1<=D+1:=by
 have:u / yn1<D+2:=by
  rw[aV O]
  subst hD;omega
 omega
end
structure Uh(yn1 yn0 u un:Nat) where
 q:Nat
 r:Nat
 h:q*yn1+r=u
 le:(u*4294967296+un) / (yn1*4294967296+yn0)<=q
 up:q<=4294967297
 lo:r<4294967296
theorem Kj{q yn1 r u:Nat}(h:q*yn1+r=u)(hq:1<=q):(q - 1)*yn1+(r+yn1)=u:=by
 obtain⟨k,rfl⟩:∃k,q=k+1:=⟨q - 1,O⟩
 rw[aD]at h
 rw[Nat.add_sub_cancel];omega
theorem qN{q a:Nat}(hq:q<4294967296)(ha:a<4294967296):q*a<18446744073709551616:=by
 have:q*a<=4294967295*4294967295:=ib O O
 omega
theorem C3{S:World->Prop}{ty:TypeId}{src dst:TypeId}{n:Nat}(hx:ev m x=some (.int k' (n:Int)))(hs:(P.underlying src).isSome=true)(hk:Na P dst=some .u64)(h:n<18446744073709551616):Qt P N m S (.convert src dst x) ty (.int .u64 (n:Int)):=by
 have:=Tq (P:=P) (N:=N) (m:=m) (S:=S) (ty:=ty) hx hs hk
 rw[FW,bS O O]at this;exact this
theorem QS.same[Dr]{P:Program}{f:FuncId}{args:List Value}{w:World}{F:Gs}{v:Value}(he:Enters P f)(hF:Fits F w)(h:Calls P f args.toArray w λe w'=>e = .returned v/\w'=w):QS P f args w F (λ(_:Unit)=>v) (λ_ _=>True) :=
 ⟨he,h.mono λe w' ⟨h1,h2⟩=>⟨(),F,h1,by rw[h2];exact TT.refl _,Gs.le_refl F,λ_ _=>rfl,by rw[h2];exact hF,λ_ _=>trivial⟩⟩
theorem qF{y:Nat}(h0:0<y)(h1:y<18446744073709551616):∃s:Nat,(64 - (aY y:Int))=s/\s<64/\y*2^s<18446744073709551616/\9223372036854775808<=y*2^s:=by
 obtain⟨g1,g2,g3⟩:=Lib.bitLenAux_bounds 64 y h1 O
 have g4:aY y<=64:=Lib.bitLen_le y 64 O h1
 change 1<=aY y at g1
 change 2^(aY y - 1)<=y at g2
 change y<2^aY y at g3
 generalize aY y=n at *
 refine⟨64 - n,O,O,?_,?_⟩
 ·have e:2^n*2^(64 - n)=18446744073709551616:=by rw[<-eF,show n+(64 - n)=64 by omega]
  rw[<-e];exact eO g3 (eJ _)
 ·have e:2^(n - 1)*2^(64 - n)=9223372036854775808:=by rw[<-eF,show n - 1+(64 - n)=63 by omega]
  rw[<-e];exact aX _ g2
theorem QBo{y s:Nat}(hF:Fits F w)(h1:y<18446744073709551616)(hs:(64 - (aY y:Int))=s):QS Tryz.prog 322 [.int .u64 (y:Int)] w F (λ(_:Unit)=>.int .i64 (s:Int)) (λ_ _=>True) :=
 QS.same (enters_of Tryz.func322 wc rfl) hF ((Tryz.bits_LeadingZeros64 (y:Int) w O O).mono λe w' ⟨h2,h3⟩=>⟨by rw[h2,eC,hs],h3⟩)
theorem jo{A B R1 R0 u v v1 v0:Nat}(h1:A+R1=u*4294967296+v1)(h2:B+R0=R1*4294967296+v0)(h3:v=v1*4294967296+v0):A*4294967296+B+R0=u*18446744073709551616+v:=by
 subst h3;omega
theorem I7{q a r:Nat}(h:((q*a:Nat):Int)>(r:Int)):1<=q:=by
 rcases fD q with h0 | h0
 ·subst h0;simp at h;omega
 ·exact h0
theorem QB5{q:Nat}(h:q<4294967296):q*4294967296%18446744073709551616=q*4294967296:=O
theorem QB6{q p:Nat}(h:q<4294967296)(k:p<4294967296):(q*4294967296+p)%18446744073709551616=q*4294967296+p:=O
theorem uh{h l y:Nat}(hF:Fits F w)(hh:h<y)(hl:l<18446744073709551616)(hy:y<18446744073709551616):
  QS Tryz.prog 321 [.int .u64 (h:Int),.int .u64 (l:Int),.int .u64 (y:Int)] w F (λ(_:Unit)=>.tuple #[.int .u64 (((h*18446744073709551616+l) / y:Nat):Int),.int .u64 (((h*18446744073709551616+l)%y:Nat):Int)]) (λ_ _=>True):=by
 obtain⟨s,hs,hs64,hY1,hY2⟩:=qF O hy
 obtain⟨Y,hYe⟩:∃Y,Y=y*2^s:=⟨_,rfl⟩
 obtain⟨a1,ha1⟩:∃a1,a1=Y / 4294967296:=⟨_,rfl⟩
 obtain⟨a0,ha0⟩:∃a0,a0=Y%4294967296:=⟨_,rfl⟩
 obtain⟨u,hu⟩:∃u,u=h*2^s+l / 2^(64 - s):=⟨_,rfl⟩
 obtain⟨v,hv⟩:∃v,v=l*2^s%18446744073709551616:=⟨_,rfl⟩
 obtain⟨v1,hv1⟩:∃v1,v1=v / 4294967296:=⟨_,rfl⟩
 obtain⟨v0,hv0⟩:∃v0,v0=v%4294967296:=⟨_,rfl⟩
 rw[<-hYe]at hY1 hY2
 have hA1:2147483648<=a1:=O
 have ha0l:a0<4294967296:=O
 have hv1l:v1<4294967296:=O
 have hv0l:v0<4294967296:=O
 have hYa:a1*4294967296+a0=Y:=O
 have e64:2^(64 - s)*2^s=18446744073709551616:=by rw[<-eF,show 64 - s+s=64 by omega]
 have hp:=eJ s
 have hlow:l / 2^(64 - s)<2^s:=by rw[aV (eJ _),aA,e64];exact hl
 have hhs:h*2^s+2^s<=Y:=by have:=aX (2^s) hh;rw[Nat.succ_mul]at this;omega
 have huY:u<Y:=O
 have hNv:u*18446744073709551616+v=(h*18446744073709551616+l)*2^s:=by
  have h1:l*2^s / 18446744073709551616=l / 2^(64 - s):=by rw[<-e64,fc _ _ hp]
  have h2:=aS (l*2^s) 18446744073709551616
  rw[h1,<-hv]at h2
  rw[hu,aD,aD,fB]
  omega
 obtain⟨Q1,hQ1⟩:∃Q1,Q1=(u*4294967296+v1) / (a1*4294967296+a0):=⟨_,rfl⟩
 obtain⟨R1,hR1⟩:∃R1,R1=(u*4294967296+v1)%(a1*4294967296+a0):=⟨_,rfl⟩
 have hY0:0<a1*4294967296+a0:=O
 have hR1l:R1<Y:=by rw[hR1,<-hYa];exact ew _ hY0
 have hD1:Q1*Y+R1=u*4294967296+v1:=by rw[hQ1,hR1,<-hYa,aA];exact aS _ _
 have hQ1l:Q1<4294967296:=by rw[hQ1,aV hY0,hYa];omega
 obtain⟨Q0,hQ0⟩:∃Q0,Q0=(R1*4294967296+v0) / (a1*4294967296+a0):=⟨_,rfl⟩
 obtain⟨R0,hR0⟩:∃R0,R0=(R1*4294967296+v0)%(a1*4294967296+a0):=⟨_,rfl⟩
 have hR0l:R0<Y:=by rw[hR0,<-hYa];exact ew _ hY0
 have hD0:Q0*Y+R0=R1*4294967296+v0:=by rw[hQ0,hR0,<-hYa,aA];exact aS _ _
 have hQ0l:Q0<4294967296:=by rw[hQ0,aV hY0,hYa];omega
 have hall:(Q1*4294967296+Q0)*Y+R0=(h*18446744073709551616+l)*2^s:=by
  rw[<-hNv,aD,fB]
  exact jo hD1 hD0 O
 have hq:(h*18446744073709551616+l) / y=Q1*4294967296+Q0:=by
  have:=fc (h*18446744073709551616+l) y hp
  rw[<-this,<-hall,<-hYe,aA _ Y,Nat.mul_add_div O,Nat.div_eq_of_lt hR0l,eZ]
 have hr:(h*18446744073709551616+l)%y=R0 / 2^s:=by
  have:=Nat.mul_mod_mul_right (2^s) (h*18446744073709551616+l) y
  rw[<-hall,<-hYe,aA _ Y,Nat.mul_add_mod,bC hR0l]at this
  rw[this,Nat.mul_div_cancel _ hp]
 refine QS.intro (G:=λ_=>True) Tryz.func321 rfl wc rfl rfl hF wh<|wI<|wF rfl<|wH rfl<|QG<|wJ rfl<|QA (QZ rfl rfl rfl)<|QE<|QC ?_
 refine QR I (λhc=>?_) (λhc=>?_)
 ·exact absurd hc (by simp at hc;omega)
 ·
  refine QQ<|QC<|QG<|wJ I<|wE I<|QA (QZ I I I)<|QE<|QC ?_
  refine QR I (λhc=>?_) (λhc=>?_)
  ·exact absurd hc (by simp at hc;omega)
  ·
   refine QQ<|QC<|QG<|wJ I<|QA (QZ I I I)<|QE<|QC ?_
   refine QR I (λhc=>?_) (λhc=>?_)
   ·
    refine QG<|JO wK mixed y0<|QK (QD I)<|QK (QD I)<|QK (Oc I I (l / y) (⟨O,O,rfl⟩))<|QK (QD I)<|QK (QD I)<|QK (QBN I I (l%y) (⟨O,rfl⟩))<|QK (QF I)<|QK (QF I)<|Q6<|QC<|QY ?_
    exact JZ () I (wC I I) (by have h0:h=0:=(by simp at hc;omega);subst h0;simp) wh
   ·
    refine QQ<|QC<|wJ I<|QI I (λw F hF hG=>QBo (s:=s) hF O hs) (λc35=>QA (C3 I QDf QAU O)<|wH I<|wJ I<|wE I<|QA (Ob I I (Y) (⟨O,by rw[<-hYe];omega⟩))<|wH I<|wJ I<|QA (U7 (b:=32) rfl rfl (a1) (⟨wa,ha1.symm⟩))<|wF I<|QE<|QC ?_)
    refine wJ I<|QA (yo I I (a0) (⟨O,ha0.symm⟩))<|wH I<|wJ I<|wE I<|QA (Ob I I (h*2^s) (⟨O,bC O⟩))<|wE I<|wE I<|QA (G6 (a:=64) rfl rfl (64 - s) (⟨O,O⟩))<|QA (U7 I I (l / 2^(64 - s)) (⟨O,rfl⟩))<|QA (QD6 I I (u) (⟨O,⟨h,s,rfl,hlow⟩,O,hu.symm⟩))<|wH I<|wJ I<|wE I<|QA (Ob I I (v) (⟨O,hv.symm⟩)) ?_
    refine wH I<|wJ I<|QA (U7 (b:=32) rfl rfl (v1) (⟨wa,hv1.symm⟩))<|wH I<|wJ I<|QA (yo I I (v0) (⟨O,hv0.symm⟩))<|wH I<|wJ I<|wE I<|QA (Oc I I (u / a1) (⟨O,O,rfl⟩))<|wF I<|QE<|QC ?_
    refine wJ I<|wE I<|wE I<|QA (Wh I I (u / a1*a1) (by have:=bI u a1;omega))<|QA (G6 I I (u%a1) (by have:=aS u a1;rw[aA]at this;have:=bI u a1;omega))<|wF I<|QE<|QC ?_
    refine Bn (ι:=Unit) (λ_=>[(2,.int .u64 ((Y:Nat):Int)),(8,.int .u64 ((s:Nat):Int)),(9,.int .u64 ((a1:Nat):Int)),(10,.int .u64 ((a0:Nat):Int)),(11,.int .u64 ((u:Nat):Int)),(13,.int .u64 ((v1:Nat):Int)),(14,.int .u64 ((v0:Nat):Int)),(15,.int .u64 ((Q1:Nat):Int))]) (λ_=>[]) (λ_ _=>True) ?_ ?_
    ·
     refine QU<|Zy (ι:=Uh a1 a0 u v1) (λi=>[(2,.int .u64 ((Y:Nat):Int)),(8,.int .u64 ((s:Nat):Int)),(9,.int .u64 ((a1:Nat):Int)),(10,.int .u64 ((a0:Nat):Int)),(11,.int .u64 ((u:Nat):Int)),(13,.int .u64 ((v1:Nat):Int)),(14,.int .u64 ((v0:Nat):Int)),(15,.int .u64 ((i.q:Nat):Int)),(16,.int .u64 ((i.r:Nat):Int))]) (λ_=>[]) (λ_ _=>True) (λi=>i.q) ⟨u / a1,u%a1,by rw[aA];exact aS u a1,SG I hA1 hv1l,Nc I hA1 ha0l O,by have:=ew u (show a1>0 by omega);omega⟩ wW wK wh (λi=>QG<|wJ I<|QA (QZ I I I)<|wE I ?_)
     refine Q3 (t:=69) rfl (λhb69=>?_) (λhb69=>?_)
     ·
      refine Qc I I I<|Qc I I I<|Qc I I I<|Qc I I I<|Qc I I I<|Qc I I I<|Qc I I I<|Qc I I I<|QA (Qp I I I)<|QE<|QC ?_
      refine QR I (λhc=>?_) (λhc=>?_)
      ·
       refine QQ<|QC<|QU<|wJ I<|QA (G6 (b:=1) rfl rfl (i.q - 1) (⟨wa,by have:=i.up;have:=wM hb69;omega⟩))<|wH I<|wJ I<|wE I<|QA (G7 I I (i.r+a1) (by have:=i.lo;omega))<|wH I<|wJ I<|QA (QZ I I I)<|QE<|QC ?_
       refine QR I (λhc=>?_) (λhc=>?_)
       ·
        refine Qz ?_
        repeat (first | refine QW ?_ | refine QP wc ?_)
        refine QX ?_
        simp only[decide_eq_true_eq]at *;have more:=Kl (un:=v1) (D:=4294967296) rfl O O O i.h (.inl O);exact Zq () ⟨rfl,rfl,rfl,rfl,rfl,rfl,rfl,congrArg (λn:Nat=>some (aK .u64 (n:Int))) ((Es I O ha0l (Kj i.h O) (by rw[<-hQ1];rw[<-hQ1]at more;omega) (by have:=i.up;omega) O).trans hQ1.symm),trivial⟩ wK wh
       ·
        refine QQ<|Qk ?_
        simp only[decide_eq_true_eq,decide_eq_false_iff_not]at *;have more:=Kl (un:=v1) (D:=4294967296) rfl O O O i.h (.inl O);exact Ql (⟨i.q - 1,i.r+a1,Kj i.h O,O,by have:=i.up;omega,O⟩:Uh a1 a0 u v1) (by show i.q - 1<i.q;omega) wW wK wh
      ·
       refine Qz ?_
       repeat (first | refine QW ?_ | refine QP wc ?_)
       refine QX ?_
       cases hc
     ·
      refine QM I I<|wE I<|QM I I<|wE I<|QM I I<|QA (Wh I I (i.q*a0) (bC (qN (by have:=wN hb69;omega) ha0l)))<|QM I I<|wE I<|QM I I<|QA (Wh (a:=4294967296) rfl rfl (4294967296*i.r) (by have:=i.lo;omega))<|QM I I<|wE I<|QM I I<|QA (G7 I I (4294967296*i.r+v1) (by have:=i.lo;omega))<|QM I I<|QA (QZ I I I)<|QA (Qj I I I)<|QE<|QC ?_
      refine QR I (λhc=>?_) (λhc=>?_)
      ·
       refine QQ<|QC<|QU<|wJ I<|QA (G6 (b:=1) rfl rfl (i.q - 1) (⟨wa,by have:=i.up;have:=I7 (wM hc);omega⟩))<|wH I<|wJ I<|wE I<|QA (G7 I I (i.r+a1) (by have:=i.lo;omega))<|wH I<|wJ I<|QA (QZ I I I)<|QE<|QC ?_
       refine QR I (λhc=>?_) (λhc=>?_)
       ·
        refine Qz ?_
        repeat (first | refine QW ?_ | refine QP wc ?_)
        refine QX ?_
        simp only[decide_eq_true_eq]at *;have more:=Kl (un:=v1) (D:=4294967296) rfl O O O i.h (.inr O);exact Zq () ⟨rfl,rfl,rfl,rfl,rfl,rfl,rfl,congrArg (λn:Nat=>some (aK .u64 (n:Int))) ((Es I O ha0l (Kj i.h O) (by rw[<-hQ1];rw[<-hQ1]at more;omega) (by have:=i.up;omega) O).trans hQ1.symm),trivial⟩ wK wh
       ·
        refine QQ<|Qk ?_
        simp only[decide_eq_true_eq,decide_eq_false_iff_not]at *;have more:=Kl (un:=v1) (D:=4294967296) rfl O O O i.h (.inr O);exact Ql (⟨i.q - 1,i.r+a1,Kj i.h O,O,by have:=i.up;omega,O⟩:Uh a1 a0 u v1) (by show i.q - 1<i.q;omega) wW wK wh
      ·
       refine Qz ?_
       repeat (first | refine QW ?_ | refine QP wc ?_)
       refine QX ?_
       simp only[decide_eq_false_iff_not]at *;exact Zq () ⟨rfl,rfl,rfl,rfl,rfl,rfl,rfl,congrArg (λn:Nat=>some (aK .u64 (n:Int))) ((Mp I O i.h i.le O).trans hQ1.symm),trivial⟩ wK wh
    ·intro i
     refine wJ I<|QA (Wh (b:=4294967296) rfl rfl (u*4294967296%18446744073709551616) (rfl))<|wE I<|QA (G7 I I ((u*4294967296+v1)%18446744073709551616) O)<|wE I<|wE I<|QA (Wh I I (Q1*Y%18446744073709551616) (rfl))<|QA (G6 I I (R1) (⟨O,by generalize Q1*Y=B at *;omega⟩))<|wH I<|wJ I<|wE I<|QA (Oc I I (R1 / a1) (⟨O,O,rfl⟩))<|wH I<|wJ I<|wE I ?_
     refine wE I<|QA (Wh I I (R1 / a1*a1) (by have:=bI R1 a1;omega))<|QA (G6 I I (R1%a1) (by have:=aS R1 a1;rw[aA]at this;have:=bI R1 a1;omega))<|wF I<|QE<|QC ?_
     refine Bn (ι:=Unit) (λ_=>[(2,.int .u64 ((Y:Nat):Int)),(8,.int .u64 ((s:Nat):Int)),(14,.int .u64 ((v0:Nat):Int)),(15,.int .u64 ((Q1:Nat):Int)),(17,.int .u64 ((R1:Nat):Int)),(18,.int .u64 ((Q0:Nat):Int))]) (λ_=>[]) (λ_ _=>True) ?_ ?_
     ·
      refine QU<|Zy (ι:=Uh a1 a0 R1 v0) (λi=>[(2,.int .u64 ((Y:Nat):Int)),(8,.int .u64 ((s:Nat):Int)),(9,.int .u64 ((a1:Nat):Int)),(10,.int .u64 ((a0:Nat):Int)),(14,.int .u64 ((v0:Nat):Int)),(15,.int .u64 ((Q1:Nat):Int)),(17,.int .u64 ((R1:Nat):Int)),(18,.int .u64 ((i.q:Nat):Int)),(16,.int .u64 ((i.r:Nat):Int))]) (λ_=>[]) (λ_ _=>True) (λi=>i.q) ⟨R1 / a1,R1%a1,by rw[aA];exact aS R1 a1,SG I hA1 hv0l,Nc I hA1 ha0l O,by have:=ew R1 (show a1>0 by omega);omega⟩ wW wK wh (λi=>QG<|wJ I<|QA (QZ I I I)<|wE I ?_)
      refine Q3 (t:=104) rfl (λhb104=>?_) (λhb104=>?_)
      ·
       refine Qc I I I<|Qc I I I<|Qc I I I<|Qc I I I<|Qc I I I<|Qc I I I<|Qc I I I<|Qc I I I<|QA (Qp I I I)<|QE<|QC ?_
       refine QR I (λhc=>?_) (λhc=>?_)
       ·
        refine QQ<|QC<|QU<|wJ I<|QA (G6 (b:=1) rfl rfl (i.q - 1) (⟨wa,by have:=i.up;have:=wM hb104;omega⟩))<|wH I<|wJ I<|wE I<|QA (G7 I I (i.r+a1) (by have:=i.lo;omega))<|wH I<|wJ I<|QA (QZ I I I)<|QE<|QC ?_
        refine QR I (λhc=>?_) (λhc=>?_)
        ·
         refine Qz ?_
         repeat (first | refine QW ?_ | refine QP wc ?_)
         refine QX ?_
         simp only[decide_eq_true_eq]at *;have more:=Kl (un:=v0) (D:=4294967296) rfl O O O i.h (.inl O);exact Zq () ⟨rfl,rfl,rfl,rfl,rfl,congrArg (λn:Nat=>some (aK .u64 (n:Int))) ((Es I O ha0l (Kj i.h O) (by rw[<-hQ0];rw[<-hQ0]at more;omega) (by have:=i.up;omega) O).trans hQ0.symm),trivial⟩ wK wh
        ·
         refine QQ<|Qk ?_
         simp only[decide_eq_true_eq,decide_eq_false_iff_not]at *;have more:=Kl (un:=v0) (D:=4294967296) rfl O O O i.h (.inl O);exact Ql (⟨i.q - 1,i.r+a1,Kj i.h O,O,by have:=i.up;omega,O⟩:Uh a1 a0 R1 v0) (by show i.q - 1<i.q;omega) wW wK wh
       ·
        refine Qz ?_
        repeat (first | refine QW ?_ | refine QP wc ?_)
        refine QX ?_
        cases hc
      ·
       refine QM I I<|wE I<|QM I I<|wE I<|QM I I<|QA (Wh I I (i.q*a0) (bC (qN (by have:=wN hb104;omega) ha0l)))<|QM I I<|wE I<|QM I I<|QA (Wh (a:=4294967296) rfl rfl (4294967296*i.r) (by have:=i.lo;omega))<|QM I I<|wE I<|QM I I<|QA (G7 I I (4294967296*i.r+v0) (by have:=i.lo;omega))<|QM I I<|QA (QZ I I I)<|QA (Qj I I I)<|QE<|QC ?_
       refine QR I (λhc=>?_) (λhc=>?_)
       ·
        refine QQ<|QC<|QU<|wJ I<|QA (G6 (b:=1) rfl rfl (i.q - 1) (⟨wa,by have:=i.up;have:=I7 (wM hc);omega⟩))<|wH I<|wJ I<|wE I<|QA (G7 I I (i.r+a1) (by have:=i.lo;omega))<|wH I<|wJ I<|QA (QZ I I I)<|QE<|QC ?_
        refine QR I (λhc=>?_) (λhc=>?_)
        ·
         refine Qz ?_
         repeat (first | refine QW ?_ | refine QP wc ?_)
         refine QX ?_
         simp only[decide_eq_true_eq]at *;have more:=Kl (un:=v0) (D:=4294967296) rfl O O O i.h (.inr O);exact Zq () ⟨rfl,rfl,rfl,rfl,rfl,congrArg (λn:Nat=>some (aK .u64 (n:Int))) ((Es I O ha0l (Kj i.h O) (by rw[<-hQ0];rw[<-hQ0]at more;omega) (by have:=i.up;omega) O).trans hQ0.symm),trivial⟩ wK wh
        ·
         refine QQ<|Qk ?_
         simp only[decide_eq_true_eq,decide_eq_false_iff_not]at *;have more:=Kl (un:=v0) (D:=4294967296) rfl O O O i.h (.inr O);exact Ql (⟨i.q - 1,i.r+a1,Kj i.h O,O,by have:=i.up;omega,O⟩:Uh a1 a0 R1 v0) (by show i.q - 1<i.q;omega) wW wK wh
       ·
        refine Qz ?_
        repeat (first | refine QW ?_ | refine QP wc ?_)
        refine QX ?_
        simp only[decide_eq_false_iff_not]at *;exact Zq () ⟨rfl,rfl,rfl,rfl,rfl,congrArg (λn:Nat=>some (aK .u64 (n:Int))) ((Mp I O i.h i.le O).trans hQ0.symm),trivial⟩ wK wh
     ·intro i
      refine wJ I<|QA (Wh (b:=4294967296) rfl rfl (Q1*4294967296) (QB5 hQ1l))<|wE I<|QA (G7 I I (Q1*4294967296+Q0) (QB6 hQ1l hQ0l))<|wE I<|QA (Wh (b:=4294967296) rfl rfl (R1*4294967296%18446744073709551616) (rfl))<|wE I<|QA (G7 I I ((R1*4294967296+v0)%18446744073709551616) O)<|wE I<|wE I<|QA (Wh I I (Q0*Y%18446744073709551616) (rfl))<|QA (G6 I I (R0) (⟨O,by generalize Q0*Y=B at *;omega⟩))<|wE I<|QA (U7 I I (R0 / 2^s) (⟨O,rfl⟩))<|wF I<|wH I<|QY ?_
      exact JZ () I (wC I I) (by rw[hq,hr]) wh
open Go.RowKit Ig
def ZE(x y:Int):Int:=x*y / W
def XE(x y:Int):Int:=x*y%W
theorem Ki(x y:Int)(w:World)(hx:0<=x/\x<W)(hy:0<=y/\y<W):
  Calls Tryz.prog 264 #[.int .u64 x,.int .u64 y] w λe w'=>e = .returned (.tuple #[.int .u64 (ZE x y),.int .u64 (XE x y)])/\w=w':=by
 obtain⟨a,rfl⟩:=ag hx.1
 obtain⟨b,rfl⟩:=ag hy.1
 have hW:W=18446744073709551616:=rfl
 refine(Tryz.bits_Mul64 a b O O w).mono ?_
 rintro e w' ⟨rfl,rfl⟩
 refine⟨?_,rfl⟩
 unfold ZE XE
 rw[hW]
 simp only[bW,bV,aU]
 rfl
def CE(h l y:Int):Int:=(h*W+l) / y
def j3(h l y:Int):Int:=(h*W+l)%y
def OU(w:World):Gs:=λb=>match w.heap[b]? with | some (.cells c T _)=>some (c,T) | _=>none
theorem F2(w:World):Fits (OU w) w:=by
 refine⟨λb c T h=>?_,λb c fr h=>?_⟩
 ·unfold OU at h
  split at h
  ·rename_i c' T' fr e;cases h;exact⟨fr,e⟩
  ·cases h
 ·unfold OU;rw[h]
theorem UP(h l y:Int)(w:World)(hh:0<=h/\h<y)(hl:0<=l/\l<W)(hy:y<W):
  Calls Tryz.prog 321 #[.int .u64 h,.int .u64 l,.int .u64 y] w λe w'=>e = .returned (.tuple #[.int .u64 (CE h l y),.int .u64 (j3 h l y)])/\Ext w w':=by
 obtain⟨a,rfl⟩:=ag hh.1
 obtain⟨b,rfl⟩:=ag hl.1
 obtain⟨c,rfl⟩:=ag (show 0<=y by omega)
 have hW:W=18446744073709551616:=rfl
 refine(uh (F2 w) (h:=a) (l:=b) (y:=c) O O O).2.mono ?_
 rintro e w' ⟨_,F',rfl,hx,_⟩
 refine⟨?_,hx.toBelow⟩
 unfold CE j3
 rw[hW]
 simp only[bW,bV,aU,Int.natCast_add]
 rfl
theorem ka(x:Int)(w:World)(hx:0<x/\x<W):
  Calls Tryz.prog 322 #[.int .u64 x] w λe w'=>(∃s:Nat,e = .returned (.int .i64 s)/\s<64/\x*2^s<W/\9223372036854775808<=x*2^s)/\w=w':=by
 obtain⟨a,rfl⟩:=ag (show 0<=x by omega)
 have hW:W=18446744073709551616:=rfl
 obtain⟨s,h1,h2,h3,h4⟩:=qF (y:=a) O O
 refine(Tryz.bits_LeadingZeros64 (a:Int) w O O).mono ?_
 rintro e w' ⟨rfl,rfl⟩
 refine⟨⟨s,?_,h2,?_,?_⟩,rfl⟩
 ·rw[eC,h1]
 ·rw[hW];have:((a*2^s:Nat):Int)<18446744073709551616:=O
  simpa[aU,aT]using this
 ·have:(9223372036854775808:Int)<=((a*2^s:Nat):Int):=O
  simpa[aU,aT]using this
theorem Pa{x y o c:Int}(hx:0<=x/\x<W)(hy:0<=y/\y<W)(ho:0<=o/\o<W)(hc:0<=c/\c<W):
  (0<=ZE x y/\ZE x y<W)/\(0<=XE x y/\XE x y<W) /\
  (0<=XW (XE x y) o 0/\XW (XE x y) o 0<W) /\
  (0<=ZE x y+X5 (XE x y) o 0/\ZE x y+X5 (XE x y) o 0<W) /\
  (0<=XW (XW (XE x y) o 0) c 0/\XW (XW (XE x y) o 0) c 0<W) /\
  (0<=ZE x y+X5 (XE x y) o 0+X5 (XW (XE x y) o 0) c 0/\ZE x y+X5 (XE x y) o 0+X5 (XW (XE x y) o 0) c 0<W) /\
  XW (XW (XE x y) o 0) c 0+W*(ZE x y+X5 (XE x y) o 0+X5 (XW (XE x y) o 0) c 0)=x*y+o+c:=by
 have hm0:0<=x*y:=aJ hx.1 hy.1
 have hm1:x*y<=(W - 1)*(W - 1):=ic O O hy.1 (by simp only[Hm];omega)
 have e1:XE x y+W*ZE x y=x*y:=by unfold XE ZE;rw[iN];exact fg _ _
 have l0:0<=XE x y:=eK _ wa
 have l1:XE x y<W:=fG _ Jx
 have h0:0<=ZE x y:=eL hm0 wa
 generalize x*y=m at *
 generalize XE x y=lo at *
 generalize ZE x y=hi at *
 have a:=Hk (x:=lo) (y:=o) (c:=0) ⟨l0,l1⟩ ho wa
 generalize XW lo o 0=lo1 at *
 generalize X5 lo o 0=c1 at *
 have a':=Hk (x:=lo1) (y:=c) (c:=0) a.2.1 hc wa
 generalize XW lo1 c 0=lo2 at *
 generalize X5 lo1 c 0=c2 at *
 simp only[Hm]at *
 omega
def K5(la lb:List Int)(i j:Nat)(x:Int)(o:List Int)(c:Int):Prop :=
 o.length=la.length+lb.length/\DG W o/\(∀p,i+lb.length<=p->Qf o p=0)/\(0<=c/\c<W) /\
  dv W o+W^(i+j)*c=dv W (la.take i)*dv W lb+W^i*(x*dv W (lb.take j))
theorem K5.step{la lb o:List Int}{j:Nat}{x c:Int}(h:K5 la lb i j x o c)(hx:0<=x/\x<W)(hb:DG W lb)(hj:j<lb.length)(hi:i<la.length):
  K5 la lb i (j+1) x (o.set (i+j) (XW (XW (XE x (Qf lb j)) (Qf o (i+j)) 0) c 0))
   (ZE x (Qf lb j)+X5 (XE x (Qf lb j)) (Qf o (i+j)) 0+X5 (XW (XE x (Qf lb j)) (Qf o (i+j)) 0) c 0):=by
 obtain⟨h1,h2,h3,h4,h5⟩:=h
 obtain⟨_,_,_,_,m1,m2,m3⟩:=Pa hx (Jg hb j) (Jg h2 (i+j)) h4
 refine⟨by simpa using h1,h2.set _ m1.1 m1.2,?_,m2,?_⟩
 ·intro p hp
  rw[GX O,if_neg O];exact h3 p hp
 ·rw[DO W O,XP,<-iq,aB]
  generalize XW (XW (XE x (Qf lb j)) (Qf o (i+j)) 0) c 0=lo at *
  generalize ZE x (Qf lb j)+X5 (XE x (Qf lb j)) (Qf o (i+j)) 0+X5 (XW (XE x (Qf lb j)) (Qf o (i+j)) 0) c 0=hi at *
  have e:W^(i+j)*(lo+W*hi)=W^(i+j)*(x*Qf lb j+Qf o (i+j)+c):=by rw[m3]
  rw[fl]at *
  grind
theorem K5.row{la lb o:List Int}{x c:Int}(h:K5 la lb i lb.length x o c)(hi:i<la.length)(hx:x=Qf la i):
  K5 la lb (i+1) 0 0 (o.set (i+lb.length) c) 0:=by
 obtain⟨h1,h2,h3,h4,h5⟩:=h
 refine⟨by simpa using h1,h2.set _ h4.1 h4.2,?_,⟨bD _,Jx⟩,?_⟩
 ·intro p hp
  rw[GX O,if_neg O];exact h3 p O
 ·rw[DO W O,h3 _ (av _),XP,<-hx]
  rw[bA]at h5
  simp only[Int.mul_zero,Int.add_zero,Int.zero_mul,Int.sub_zero]
  rw[h5];grind
theorem K5.start(la lb:List Int):K5 la lb 0 0 0 (ah (la.length+lb.length) 0) 0:=by
 refine⟨we,DG.replicate Jx _,?_,⟨bD _,Jx⟩,by rw[SY];simp⟩
 intro p _;unfold Qf;split<;>simp
theorem K5.next{la lb o:List Int}{c y:Int}(h:K5 la lb i 0 0 o c)(x:Int)(hc:c=0)(hy:y=0):K5 la lb i 0 x o y:=by
 obtain⟨h1,h2,h3,h4,h5⟩:=h
 subst hc hy
 exact⟨h1,h2,h3,h4,by simpa using h5⟩
theorem Ek(v v':Value)(la lb:List Int)(w:World)(ha:DG W la)(hb:DG W lb)(hs:SL w v Jl la)(hs':SL w v' Jl lb)(h1:la.length<=100000000000)(h2:lb.length<=100000000000):
  Calls Tryz.prog 268 #[v,v'] w λe w'=>Zw w (λv w'=>∃l,SL w' v Jl l/\DG W l/\NZ l/\dv W l=dv W la*dv W lb) e w':=by
 obtain⟨q,cap,rfl,hcap,hmax,hca⟩:=hs
 obtain⟨q',cap',rfl,hcap',hmax',hcb⟩:=hs'
 have HA:=aa hca;clear hca
 have HB:=aa hcb;clear hcb
 have hmk:=λw=>Yz (la.length+lb.length) O w
 have ec:((la.length+lb.length:Nat):Int)=(la.length:Int)+lb.length:=O
 simp only[ec]at hmk
 clear ec
 go_enter Tryz.func268,Tryz.ntmps268
 go_wp2
 go_loopw [22] (λi wr=>∃(k:Nat) (o:List Int),k<=la.length/\i = .int .i64 k/\K5 la lb k 0 0 o 0/\KX wr w.heap.size 297 Jl o/\Ext w wr)
  (λi _=>la.length - (intOf i).toNat)
 case atStart=>exact⟨0,_,bQ _,rfl,K5.start la lb,KX.made w _ Jl 0 _ _ rfl,(Ext.refl _).alloc _⟩
 case round =>
  obtain⟨k,o,hk,rfl,hI,hBl,hE⟩:=hrel
  rename_i wr _
  obtain⟨wo,rfl⟩:∃wo:World,wo=wr:=⟨_,rfl⟩
  clear hmk
  by_cases hlt:k<la.length
  ·obtain⟨b,off,rfl,hbl,hc⟩:=HA.out k hlt
   rw[YS hlt]at hc
   have hc:=hE.cell hc
   simp only[Jl]at hc
   have hx:=Jg ha k
   have HI:=aa hI;clear hI
   have HBl:=aa hBl;clear hBl
   go_wp2
   go_loopw [29,8] (λj c wr=>∃(m:Nat) (o:List Int) (cc:Int),m<=lb.length/\j = .int .i64 m/\c = .int .u64 cc/\K5 la lb k m (Qf la k) o cc/\KX wr w.heap.size 297 Jl o/\Ext w wr)
    (λj _ _=>lb.length - (intOf j).toNat)
   case atStart=>exact⟨0,o,0,bQ _,rfl,rfl,HI.out.next _ rfl rfl,HBl.out,hE⟩
   case round =>
    clear HI HBl hE hc
    obtain⟨m,o,cc,hm,rfl,rfl,hI,hBl,hE⟩:=hrel
    by_cases hlt2:m<lb.length
    ·obtain⟨b2,off2,rfl,hb2,hc2⟩:=HB.out m hlt2
     rw[YS hlt2]at hc2
     have hc2:=hE.cell hc2
     simp only[Jl]at hc2
     have hst:=hI.step hx hb hlt2 hlt
     obtain⟨hd1,hd2,hd3,hd4,hd5⟩:=hI
     clear hd3 hd5
     have hd1':=aa hd1
     have hol:k+m<o.length:=O
     clear hd1
     have hy:=Jg hb m
     have ho:=Jg hd2 (k+m)
     have hcell:=hBl.cell (i:=k+m) hol
     rw[YS hol]at hcell
     simp only[Jl]at hcell
     have hfr:=hBl.frozen (k+m)
     have HBs:=aa (hBl.set (k+m) (XW (XW (XE (Qf la k) (Qf lb m)) (Qf o (k+m)) 0) cc 0))
     have HS:=aa hst
     clear hst hBl
     obtain⟨g1,g2,g3,g4,g5,g6,_⟩:=Pa hx hy ho hd4
     generalize hmy:ZE (Qf la k) (Qf lb m)=mh at *
     generalize hml:XE (Qf la k) (Qf lb m)=ml at *
     have HMH:=aa hmy
     have HML:=aa hml
     clear hmy hml
     have ha1:=λw=>Ke ml (Qf o (k+m)) 0 g2.1 ho.1 wa wa w
     have ha2:=λw=>Ke (XW ml (Qf o (k+m)) 0) cc 0 g3.1 hd4.1 wa wa w
     have b1:0<=mh+X5 ml (Qf o (k+m)) 0:=g4.1
     have b2:mh+X5 ml (Qf o (k+m)) 0<=18446744073709551615:=by have:=g4.2;simp only[Hm]at this;omega
     have b3:0<=mh+X5 ml (Qf o (k+m)) 0+X5 (XW ml (Qf o (k+m)) 0) cc 0:=g6.1
     have b4:mh+X5 ml (Qf o (k+m)) 0+X5 (XW ml (Qf o (k+m)) 0) cc 0<=18446744073709551615:=by have:=g6.2;simp only[Hm]at this;omega
     go_wp2_with (go_at_call 264;refine(Ki _ _ _ hx hy).mono ?_;rw[HMH.out,HML.out];rintro e w' ⟨rfl,rfl⟩)
     go_roundw
     case rel=>exact⟨m+1,_,_,O,by go_num,rfl,HS.out,HBs.out,aQ hE we _⟩
     case measure=>simp[intOf];omega
    ·have hk':m=lb.length:=O
     subst hk'
     have hst:=hI.row hlt rfl
     obtain⟨hd1,hd2,hd3,hd4,hd5⟩:=hI
     clear hd3 hd5
     have hol:k+lb.length<o.length:=O
     clear hd1
     have hcell:=hBl.cell (i:=k+lb.length) hol
     rw[YS hol]at hcell
     simp only[Jl]at hcell
     have hfr:=hBl.frozen (k+lb.length)
     have HBs:=aa (hBl.set (k+lb.length) cc)
     have HS:=aa hst
     clear hst hBl
     go_wp2
     go_roundw
     case rel=>exact⟨k+1,_,O,by go_num,HS.out,HBs.out,aQ hE we _⟩
     case measure=>simp[intOf];omega
  ·have hk':k=la.length:=O
   subst hk'
   obtain⟨hd1,hd2,hd3,hd4,hd5⟩:=hI
   have hSL:=SL.BS hBl (la.length+lb.length) O O
   rw[ae O,hd1]at hSL
   have HSL:=aa hSL
   rw[bA]at hd5
   have HF:=aa hd5
   clear hd5 hSL hd1 hBl
   go_wp2_with (go_at_call 310;refine(VZ _ _ _ HSL.out).mono ?_;rintro e w' ⟨⟨v',rfl,hv⟩,rfl⟩)
   go_ret
   exact⟨_,rfl,⟨_,hv,hd2.JH,ZW _,by rw[Xe];have:=HF.out;simpa using this⟩,hE⟩
def p2(s:Nat):Int:=2^s
theorem Ym(s:Nat):0<p2 s:=iU wa
theorem G9{s:Nat}(h:s<64):p2 (64 - s)*p2 s=W:=by
 unfold p2;rw[<-fl,show 64 - s+s=64 from by omega];rfl
theorem AD:p2 0=1:=rfl
theorem QAK{s:Nat}(h:s<64):2*p2 s<=W:=by
 have h1:=G9 h
 have h2:2<=p2 (64 - s):=by
  unfold p2;rw[show 64 - s=(63 - s)+1 from by omega,aB]
  have:=Ym (63 - s);unfold p2 at this;omega
 have h3:2*p2 s<=p2 (64 - s)*p2 s:=aw h2 (bc (Ym s))
 omega
theorem Co{x:Int}{s:Nat}(hs:s<64):x*p2 s%W=p2 s*(x%p2 (64 - s)):=by
 rw[<-G9 hs,bL (p2 (64 - s)) (p2 s),bL x (p2 s),Int.mul_emod_mul_of_pos _ _ (Ym s)]
theorem yF{x:Int}{s:Nat}(hs:s<64):x*p2 s / W=x / p2 (64 - s):=by
 rw[<-G9 hs];exact Int.mul_ediv_mul_of_pos_left x _ (Ym s)
theorem AE{x:Int}{s:Nat}(hs:s<64)(h0:0<=h)(h1:h<p2 s):bits .or .u64 h (x*p2 s%W)=h+x*p2 s%W/\h+x*p2 s%W<W:=by
 have e:=Co (x:=x) hs
 have k0:=Ym (64 - s)
 have b0:0<=x%p2 (64 - s):=eK _ O
 have b1:x%p2 (64 - s)<p2 (64 - s):=fG _ k0
 have hb:p2 s*(x%p2 (64 - s))+h<W:=by
  have:p2 s*(x%p2 (64 - s)+1)<=p2 s*p2 (64 - s):=af O (bc (Ym s))
  rw[bL (p2 s) (p2 (64 - s)),G9 hs,fm]at this;omega
 have hb0:0<=p2 s*(x%p2 (64 - s)):=aJ (bc (Ym s)) b0
 rw[e]
 refine⟨?_,O⟩
 obtain⟨a,ha⟩:=ag b0
 obtain⟨c,rfl⟩:=ag h0
 rw[ha]at *
 have e2:p2 s*(a:Int)=((2^s*a:Nat):Int):=by simp[p2]
 have h1':c<2^s:=by
  have:(c:Int)<((2^s:Nat):Int):=(by simpa[p2]using h1);omega
 rw[e2]at hb ⊢
 have hW:=Hm
 rw[u64_or_nat _ _ O O,Nat.or_comm,<-eN h1']
 omega
def M6(l:List Int)(s k:Nat)(ds:List Int)(h:Int):Prop :=
 ds.length=k/\DG W ds/\(0<=h/\h<p2 s)/\dv W ds+W^k*h=dv W (l.take k)*p2 s
theorem M6.step{l:List Int}{s:Nat}(hi:M6 l s k ds h)(hs:s<64)(hl:DG W l):
  M6 l s (k+1) (ds++[h+Qf l k*p2 s%W]) (Qf l k / p2 (64 - s)):=by
 obtain⟨h1,h2,h3,h4⟩:=hi
 obtain⟨_,b⟩:=AE (x:=Qf l k) hs h3.1 h3.2
 have hd:=Jg hl k
 have l0:0<=Qf l k*p2 s%W:=eK _ wa
 have q:=fg (Qf l k*p2 s) W
 have hk:0<=Qf l k / p2 (64 - s)/\Qf l k / p2 (64 - s)<p2 s:=by
  refine⟨eL hd.1 (bc (Ym _)),?_⟩
  refine Int.ediv_lt_of_lt_mul (Ym _) ?_
  rw[bL,G9 hs];exact hd.2
 refine⟨by simp[h1],h2.append (DG.cons O b (DG.nil _)),hk,?_⟩
 rw[Xl,h1,XP,aB,<-yF hs]
 generalize Qf l k*p2 s / W=a at *
 generalize Qf l k*p2 s%W=c at *
 have e:W^k*(W*a+c)=W^k*(Qf l k*p2 s):=by rw[q]
 grind
theorem M6.zero{l:List Int}(hi:M6 l 0 k ds h):h=0:=by
 have:=hi.2.2.1;rw[AD]at this;omega
theorem RI(x:Int)(s:Nat):IntKind.u64.wrap (x*2^s)=x*p2 s%W:=by
 simp[fW,fH,bF,p2,Hm]
theorem G3(ds:List α)(x y:α)(r:List α)(k:Nat)(h:ds.length=k):(ds++x::r).set k y=ds++y::r:=by
 subst h;rw[e9 _ _ (av _),ea,fw]
theorem yL(ds:List α)(x y z:α)(r:List α)(k:Nat)(h:ds.length=k):(ds++z::x::r).set (k+1) y=(ds++[z])++y::r:=by
 have:=G3 (ds++[z]) x y r (k+1) (by simp[h])
 rw[bp]at this;exact this
set_option maxRecDepth 100000 in
theorem Uv(s:Nat)(q:Option Addr)(cap:Nat)(l:List Int)(w:World)(hs:s<64)(hl:DG W l)(hc:Cells w q Jl l)(hlen:l.length<=100000000000):
  Calls Tryz.prog 323 #[.slice q l.length cap,.int .i64 s] w λe w' =>
   Zw w (λv w'=>∃l':List Int,v = .slice (some ⟨w.heap.size,0,none⟩) (l.length+1) (l.length+1)/\KX w' w.heap.size 297 Jl l'/\l'.length=l.length+1/\DG W l'/\dv W l'=dv W l*p2 s) e w':=by
 have HC:=aa hc;clear hc
 have hmk:=λw=>Yz (l.length+1) O w
 have ec:((l.length+1:Nat):Int)=(l.length:Int)+1:=O
 simp only[ec]at hmk
 clear ec
 go_enter Tryz.func323,Tryz.ntmps323
 go_wp2
 go_loopw [14] (λi wr=>∃(k:Nat) (ds:List Int) (h:Int),k<=l.length/\i = .int .i64 k/\M6 l s k ds h/\KX wr w.heap.size 297 Jl (ds++h::ah (l.length - k) 0)/\Ext w wr)
  (λi _=>l.length - (intOf i).toNat)
 case atStart=>exact⟨0,[],0,bQ _,rfl,⟨rfl,DG.nil _,⟨bD _,Ym _⟩,we⟩,KX.made w _ Jl 0 _ _ rfl,(Ext.refl _).alloc _⟩
 case round =>
  obtain⟨k,ds,h,hk,rfl,hI,hB,hE⟩:=hrel
  clear hmk
  by_cases hlt:k<l.length
  ·obtain⟨b,off,rfl,hb,hc⟩:=HC.out k hlt
   rw[YS hlt]at hc
   have hc:=hE.cell hc
   simp only[Jl]at hc
   have hst:=hI.step hs hl
   obtain⟨hd1,hd2,hd3,hd4⟩:=hI
   have hor:=(AE (x:=Qf l k) hs hd3.1 hd3.2).1
   have HO:=aa hor;clear hor hd4
   have hlen1:k<(ds++h::ah (l.length - k) 0).length:=by simp[hd1]
   have hlen2:k+1<(ds++h::ah (l.length - k) 0).length:=by simp[hd1];omega
   have hcell:=hB.cell hlen1
   have hcell2:=hB.cell hlen2
   have hg:(ds++h::ah (l.length - k) 0).getD k default=h:=by subst hd1;simp[aZ]
   rw[hg]at hcell
   simp only[Jl]at hcell hcell2
   have hfr:=hB.frozen k
   have hfr2:=hB.frozen (k+1)
   have hx0:(0:Int)<=(k:Int):=O
   have hx1:(k:Int)<(l.length:Int)+1:=O
   generalize (ds++h::ah (l.length - k) 0).getD (k+1) default=z at hcell2
   have HD1:=aa hd1
   have HB:=aa hB
   clear hg hd1 hB hlen1 hlen2
   by_cases hs0:0<s
   ·go_wp2
    go_still_tail 9,y0
    go_wp2
    go_roundw
    case rel =>
     refine⟨k+1,ds++[h+Qf l k*p2 s%W],Qf l k / p2 (64 - s),O,by go_num,hst,?_,((hE.ZD we _).ZD we _).drew⟩
     rw[RI,HO.out]
     have h1:=HB.out.set k (h+Qf l k*p2 s%W)
     rw[G3 _ _ _ _ _ HD1.out,show l.length - k=(l.length - (k+1))+1 from by omega,bf]at h1
     have h2:=h1.set (k+1) (Qf l k / p2 (64 - s))
     rw[yL _ _ _ _ _ _ HD1.out]at h2
     exact h2.drew
    case measure=>simp[intOf];omega
   ·have hz:Hid (Qf l k / p2 (64 - s)=0):=by
     have e:s=0:=O
     subst e;exact hst.zero
    go_wp2
    go_still_tail 9,y0
    go_wp2
    go_roundw
    case rel =>
     refine⟨k+1,ds++[h+Qf l k*p2 s%W],Qf l k / p2 (64 - s),O,by go_num,hst,?_,(hE.ZD we _).drew⟩
     rw[RI,HO.out,hz.out]
     have h1:=HB.out.set k (h+Qf l k*p2 s%W)
     rw[G3 _ _ _ _ _ HD1.out,show l.length - k=(l.length - (k+1))+1 from by omega,bf]at h1
     rw[bp]
     exact h1.drew
    case measure=>simp[intOf];omega
  ·have hk':k=l.length:=O
   subst hk'
   obtain⟨hd1,hd2,hd3,hd4⟩:=hI
   have HF:Hid (dv W ds+W^l.length*h=dv W l*p2 s):=by rw[bA]at hd4;exact hd4
   have HD1:=aa hd1
   rw[ea,ep]at hB
   have HB:=aa hB
   have hh:h<W:=by have:=QAK hs;have:=Ym s;omega
   clear hd1 hd4 hB
   go_wp2
   go_ret
   exact⟨_,rfl,⟨_,rfl,HB.out,by simp[HD1.out],hd2.append (DG.cons hd3.1 hh (DG.nil _)),by rw[Xl,HD1.out,HF.out]⟩,hE⟩
theorem NR(s:Nat)(v:Value)(l:List Int)(w:World)(hs:s<64)(hl:DG W l)(hv:SL w v Jl l)(hlen:l.length<=100000000000):
  Calls Tryz.prog 323 #[v,.int .i64 s] w λe w' =>
   Zw w (λv w'=>∃l':List Int,v = .slice (some ⟨w.heap.size,0,none⟩) (l.length+1) (l.length+1)/\KX w' w.heap.size 297 Jl l'/\l'.length=l.length+1/\DG W l'/\dv W l'=dv W l*p2 s) e w':=by
 obtain⟨q,cap,rfl,_,_,hc⟩:=hv
 exact Uv s q cap l w hs hl hc hlen
end Go.Proofs.YtjcphjpkimmmjaaGreatDoor
