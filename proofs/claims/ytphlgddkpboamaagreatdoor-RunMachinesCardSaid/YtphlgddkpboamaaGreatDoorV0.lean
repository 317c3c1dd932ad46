/- Steps of the proof of the theorem in the last file. -/
import Derived.Duo
import Derived.RowKit
import Derived.IntWalk
import Derived.Laws.Strings
import Derived.Laws.Cells
import Derived.Laws.BytesString
import Derived.Lib.Builder
import Derived.Laws.CopyRow
import Derived.Deep.AppendSrc
import Derived.Deep.Upon
import Derived.Lib.UnsafeStr
import Derived.Laws.AppendOwn
import Derived.Lib.AppendZeros
import Derived.Lib.ConvBytes
import Derived.Laws.RangeString
import Derived.RangeFuncLeaves
import Derived.RangeFuncSeq
import Derived.OwnWalkIn
import Derived.OrdersIn
import Derived.Sort.LoopGhostIn
import Derived.Scope
set_option linter.all false
set_option maxHeartbeats 4000000
open Option.some renaming inj -> aa
open Nat renaming le_of_ble_eq_true -> ae,eq_of_beq_eq_true -> ah,ble -> ak,beq -> ao,le_refl -> ar,lt_of_lt_of_le -> aA,succ -> aC,ble_eq_true_of_le -> aD,le_trans -> aR,lt_or_ge -> aX,zero_le -> ba,shiftRight -> bg,zero_add -> bh,mod_eq_of_lt -> bj,beq_refl -> bz,shiftLeft -> bD,shiftRight_eq_div_pow -> bQ,add_assoc -> bT,min -> ew,rec -> eF,lor -> eG,strongRecOn -> eP,mul_le_mul -> eU,land -> eV,add_zero -> eZ,le_div_iff_mul_le -> fg,add_mul -> fm,mul_div_cancel -> fA,succ_mul -> ia,mul -> ib,div_one -> ig
open Go.Result renaming andThen_ok -> af
open Go.Sem renaming run_bind -> ai,run_pure -> ax,run -> bI
open Go.Op renaming operands -> aj,equalIn -> aV,intCmp -> eC,intArith -> eQ,stringOp -> fw,intBits -> fG,equal -> fX
open Bool renaming and_eq_true -> aq,false_eq_true -> au,or_eq_true -> bF,not_eq_true' -> eE
open List renaming rec -> ay,all_eq_true -> aB,casesOn -> aE,length_append -> aH,all_cons -> bB,getElem?_take -> bN,map_cons -> bS,length_take -> bU,getElem?_append -> ep,getElem?_drop -> eD,length_map -> eO,extract_eq_take_drop -> eW,getElem?_toArray -> fb,range -> fu,ext_getElem? -> fB,mem_toArray -> fC,filter_cons -> fD,foldl_cons -> fI,mem_map -> fW
open UInt8 renaming ofNat -> aF,toNat_ofNat' -> bm,toNat -> eH
open Array renaming replicate -> aG,length_toList -> eu,range -> ff,foldl_toList -> fp,ext_getElem? -> fq,size_append -> fz,ext' -> ic
open Go.Lib renaming bytesCells -> aK
open Go.Builtin renaming append_ -> aM,unsafeString_ -> aY,zeroCells -> bw,firstCells -> bH,unsafeSliceData_ -> bP,copy_ -> er,len_ -> eX,lenOf -> fH,min_ -> fL,min2 -> fM,max_ -> fN,max2 -> fO,cap_ -> fP
open Go.Region renaming wanted -> aQ,binds -> aW,ready -> bV
open Go.Call renaming operands -> aS
open Option renaming casesOn -> aT,map_some -> eI,map -> fV
open BitVec renaming ofInt -> aZ,toNat_ofNat -> fk,ofNat -> fT
open Go.Instr renaming sliceAt -> bA,sureAddr -> bJ,fill -> bK,mapUpdate -> bZ,indexAt -> ey,findKey -> eB,slice -> eN,next -> eR,build -> fe,makeInterface -> fh,sliceBounds -> fy,sameBits -> fJ,checkKey -> fK,sameNow -> fQ,findNow -> fR,lookup -> fU,range -> fY,field -> fZ
open ByteArray renaming ext -> bL,data_extract -> eT
open Int renaming ofNat -> bO
open Go.World renaming shape? -> bW,cell? -> eM
open Go.Fence renaming wide -> bY
open Go.IntWalk renaming i64_in -> ee
open Go.ByteArray renaming toList_eq -> eY
open Go.Deferred renaming ofValue -> fi
open ForInStep renaming yield -> fj
open Go renaming isAgg -> fv
open Go.Oper renaming semAt_plain -> fF
open Go.Code renaming rec -> fS
namespace Go.Ev
noncomputable def bd {α β:Type} (o:Option α) (k:α->Option β):Option β:=@Option.rec α (fun _=>Option β) none k o
noncomputable def gu {β:Type} (b:Bool) (k:Option β):Option β:=@Bool.rec (fun _=>Option β) none k b
noncomputable def cn {α:Type} (b:Bool) (x y:α):α:=@Bool.rec (fun _=>α) y x b
structure Bx(α:Type) where
 f:α
noncomputable section
inductive Po where
 |h
 |o (p:Po)
 |i (p:Po)
def Po.s(p:Po):Po:=Po.rec (.o .h) (fun p _=>.i p) (fun _ ih=>.o ih) p
def Po.n(p:Po):Nat:=Po.rec 1 (fun _ ih=>ib 2 ih) (fun _ ih=>aC (ib 2 ih)) p
def Po.eq(p:Po):Po->Bool:=Po.rec (fun q=>Po.casesOn q true (fun _=>false) (fun _=>false)) (fun _ ih q=>Po.casesOn q false (fun q=>ih q) (fun _=>false)) (fun _ ih q=>Po.casesOn q false (fun _=>false) (fun q=>ih q)) p
def poF:Nat->Nat->Po
 |0,_=>.h
 |f+1,t=>cn (ao t 0) .h (cn (ao (eV t 1) 0) (.o (poF f (bg t 1))) (.i (poF f (bg t 1))))
def po(t:Nat):Po:=poF t t
inductive Tr(α:Type) where
 |lf
 |nd (v:Option α) (l r:Tr α)
def Tr.v{α:Type}(t:Tr α):Option α:=Tr.casesOn t none (fun v _ _=>v)
def Tr.l{α:Type}(t:Tr α):Tr α:=Tr.casesOn t .lf (fun _ l _=>l)
def Tr.r{α:Type}(t:Tr α):Tr α:=Tr.casesOn t .lf (fun _ _ r=>r)
def Tr.get{α:Type}(p:Po):Tr α->Option α:=Po.rec Tr.v (fun _ ih t=>ih t.l) (fun _ ih t=>ih t.r) p
def Tr.put{α:Type}(x:Option α)(p:Po):Tr α->Tr α:=Po.rec (fun t=>.nd x t.l t.r) (fun _ ih t=>.nd t.v (ih t.l) t.r) (fun _ ih t=>.nd t.v t.l (ih t.r)) p
inductive A where
 |i (k:IntKind) (n:Int)
 |b (x:Bool)
 |s (l:List Nat)
 |k (v:Value)
 |p (n:Po) (off:Nat)
 |l (n:Po) (off len cap:Nat)
 |o (n:Po) (off len sz:Nat)
 |m (n:Po)
 |f (fn:FuncId) (cap:List A)
 |y (n:Po)
 |g (l:List A)
 |t (l:List A)
 |xi (T:TypeId) (a:A)
inductive O where
 |c (l:List A) (T:TypeId) (op:Bool)
 |r (l:List A) (T:TypeId)
 |m (es:List (A×A×Nat)) (clock:Nat)
 |si (l:List Nat) (pos:Nat)
 |mi (n:Po) (since:Nat) (seen:List Nat) (last:Nat)
 |lp (m:Tr A) (X:Nat->Bool) (ps:List Tmp) (as body:Code)
structure B where
 o:O
 lv:Nat
inductive Ex where
 |nm | ex (id:Nat) | rt
structure R where
 e:Ex
 a:A
 m:Tr A
 h:Tr B
 n:Po
def u0:A:=.t []
def gA(v:Value):A:=match v with
 |.int k n=>.i k n
 |.bool b=>.b b
 |.string s=>.s (s.data.toList.map eH)
 |v=>.k v
def ofV(v:Value):A:=match v with
 |.agg cs=>.g (cs.toList.map gA)
 |.tuple cs=>.t (cs.toList.map gA)
 |v=>gA v
def ixD(t:Nat)(loc:List Nat):Nat->Option Nat:=ay (fun _=>none) (fun d _ ih k=>cn (ao d t) (some k) (ih (aC k))) loc
abbrev Ac:=List A->Tr A->Option A
def CA(k:Nat):List A->Option A:=eF (fun l=>aE l none fun a _=>some a) (fun _ ih l=>aE l none fun _ r=>ih r) k
def oaD(X:Nat->Bool)(loc:List Nat)(x:Operand):Bx Ac:=match x with
 |.tmp t=>match ixD t loc 0 with
  |some i=>⟨fun st _=>CA i st⟩
  |none=>cn (X t) ⟨fun _ m=>Tr.get (po t) m⟩ ⟨fun _ _=>none⟩
 |.const v=>⟨fun _ _=>some (ofV v)⟩
 |.global g=>cn (ak g 60) ⟨fun _ _=>some (.p (po g) 0)⟩ ⟨fun _ _=>none⟩
 |.func f=>⟨fun _ _=>some (.f f [])⟩
structure Lc where
 X:Nat->Bool
 loc:List Nat
def ev(c:Lc)(x:Operand)(st:List A)(m:Tr A):Option A:=Bx.casesOn (oaD c.X c.loc x) fun f=>f st m
def HM(c:Lc)(l:List Operand)(st:List A)(m:Tr A):Option (List A):=ay (some []) (fun x _ ih=>bd (ev c x st m) fun a=>bd ih fun l=>some (a::l)) l
def A.cells(a:A):List A:=match a with
 |.g q1=>q1
 |a=>[a]
def A.P(a:A):Option (Po×Nat):=match a with | .p q1 q2=>some (q1,q2) | _=>none
def A.N(a:A):Option Nat:=match a with | .i _ (.ofNat n)=>some n | _=>none
def A.I(a:A):Option (IntKind×Int):=match a with | .i q1 q2=>some (q1,q2) | _=>none
def A.B(a:A):Option Bool:=match a with | .b x=>some x | _=>none
def A.S(a:A):Option (List Nat):=match a with | .s x=>some x | _=>none
def A.G(a:A):Option (List A):=match a with | .g x=>some x | _=>none
def A.T(a:A):Option (List A):=match a with | .t x=>some x | _=>none
def A.M(a:A):Option Po:=match a with | .m x=>some x | _=>none
def O.C(o:O):Option (List A×TypeId×Bool):=match o with | .c l T op=>some (l,T,op) | _=>none
def O.D(o:O):Option (List A):=match o with | .c q1 _ _=>some q1 | .r q1 _=>some q1 | _=>none
def kK(d:TypeDesc):Bool:=match d with | .struct _ | .array _ _=>true | _=>false
def isAgg(P:Program)(T:TypeId):Option Bool:=bd (P.underlying T) fun d=>some (kK d)
def M8(P:Program)(T:TypeId):Option Nat:=bd (P.info? T) fun i=>some i.size
def GI(P:Program)(T:TypeId):Option TypeId:=bd (P.underlying T) fun d=>match d with
 |.slice e=>some e
 |_=>none
def WE(P:Program)(T:TypeId):Bool:=match P.underlying T with
 |some .string=>true
 |_=>false
def slS(P:Program)(T:TypeId):Option (TypeId×Nat):=bd (GI P T) fun e=>bd (M8 P e) fun s=>some (e,s)
def Jw(P:Program)(T:TypeId):Option (List A):=bd (P.info? T) fun i=>bd i.zero fun v=>some (v.cells.toList.map gA)
def Z9(P:Program)(T:TypeId)(f:Nat):Option (Nat×TypeId):=bd (P.underlying T) fun d=>match d with
 |.struct fs=>bd fs[f]? fun x=>some (x.offset,x.type)
 |_=>none
def QIJ(n:Int):Int:=match n with
 |.ofNat m=>bif ak m 9223372036854775807 then .ofNat m else IntKind.i64.wrap (.ofNat m)
 |.negSucc m=>bif ak m 9223372036854775807 then .negSucc m else IntKind.i64.wrap (.negSucc m)
def wru(n:Int):Int:=match n with
 |.ofNat m=>.ofNat (Nat.mod m 18446744073709551616)
 |.negSucc m=>IntKind.u64.wrap (.negSucc m)
def wrp(k:IntKind):Bx (Int->Int):=match k with
 |.i64=>⟨QIJ⟩
 |.u64=>⟨wru⟩
 |k=>⟨k.wrap⟩
def wr(k:IntKind)(n:Int):Int:=Bx.casesOn (wrp k) fun f=>f n
def cY(a b:Int):Bool:=match a,b with
 |.ofNat a,.ofNat b=>ak (aC a) b
 |.negSucc a,.negSucc b=>ak (aC b) a
 |.negSucc _,.ofNat _=>true
 |.ofNat _,.negSucc _=>false
def eqI(a b:Int):Bool:=match a,b with
 |.ofNat a,.ofNat b=>ao a b
 |.negSucc a,.negSucc b=>ao a b
 |_,_=>false
def adI(a b:Int):Int:=match a,b with
 |.ofNat a,.ofNat b=>.ofNat (Nat.add a b)
 |a,b=>Int.add a b
def muI(a b:Int):Int:=match a,b with
 |.ofNat a,.ofNat b=>.ofNat (ib a b)
 |a,b=>Int.mul a b
def QHZ(k:IntKind)(a b:Int):Int:=match k,a,b with
 |.u64,.ofNat x,.ofNat y=>.ofNat (Nat.mod (eV x y) 18446744073709551616)
 |k,a,b=>k.wrap (aZ k.bits a &&& aZ k.bits b).toNat
def QKM(a:Int)(n:Nat):Int:=match a with
 |.ofNat x=>.ofNat (Nat.div x (Nat.pow 2 n))
 |.negSucc x=>Int.fdiv (.negSucc x) (2^n)
def QJg(op:BinOp):Bx (IntKind->Int->Int->Option A):=match op with
 |.add=>⟨fun k a b=>some (.i k (wr k (adI a b)))⟩
 |.sub=>⟨fun k a b=>some (.i k (wr k (Int.sub a b)))⟩
 |.mul=>⟨fun k a b=>some (.i k (wr k (muI a b)))⟩
 |.quo=>⟨fun k a b=>bif eqI b 0 then none else some (.i k (wr k (Int.tdiv a b)))⟩
 |.rem=>⟨fun k a b=>bif eqI b 0 then none else some (.i k (Int.tmod a b))⟩
 |.and=>⟨fun k a b=>some (.i k (QHZ k a b))⟩
 |.or=>⟨fun k a b=>some (.i k (k.wrap (aZ k.bits a ||| aZ k.bits b).toNat))⟩
 |.xor=>⟨fun k a b=>some (.i k (k.wrap (aZ k.bits a ^^^ aZ k.bits b).toNat))⟩
 |.andNot=>⟨fun _ _ _=>none⟩
 |.shl=>⟨fun k a b=>match b with | .ofNat b=>some (.i k (wr k (muI a (.ofNat (Nat.pow 2 (ew b k.bits)))))) | .negSucc _=>none⟩
 |.shr=>⟨fun k a b=>match b with | .ofNat b=>some (.i k (QKM a (ew b k.bits))) | .negSucc _=>none⟩
 |.eql=>⟨fun _ a b=>some (.b (eqI a b))⟩
 |.neq=>⟨fun _ a b=>some (.b (!eqI a b))⟩
 |.lss=>⟨fun _ a b=>some (.b (cY a b))⟩
 |.leq=>⟨fun _ a b=>some (.b (!cY b a))⟩
 |.gtr=>⟨fun _ a b=>some (.b (cY b a))⟩
 |.geq=>⟨fun _ a b=>some (.b (!cY a b))⟩
def eqL(l:List Nat):List Nat->Bool:=ay (fun q=>aE q true fun _ _=>false) (fun a _ ih q=>aE q false fun b r=>cn (ao a b) (ih r) false) l
def QMN(a:A):Bool:=match a with | .k (.slice none _ _)=>true | _=>false
def eqSl(x y:A):Option Bool:=match x,y with
 |.k (.slice none _ _),.k (.slice none _ _)=>some true
 |.k (.slice none _ _),.l _ _ _ _=>some false
 |.k (.slice none _ _),.o _ _ _ _=>some false
 |.l _ _ _ _,.k (.slice none _ _)=>some false
 |.o _ _ _ _,.k (.slice none _ _)=>some false
 |_,_=>none
def eqPt(x y:A):Option Bool:=match x,y with
 |.k (.pointer none),.k (.pointer none)=>some true
 |.k (.pointer none),.p _ _=>some false
 |.p _ _,.k (.pointer none)=>some false
 |.p n o,.p n' o'=>cn (Po.eq n n') (cn (ao o o') (some true) none) none
 |_,_=>none
def eqFn(x y:A):Option Bool:=match x,y with
 |.k .nilFunc,.k .nilFunc=>some true
 |.k .nilFunc,.f _ _=>some false
 |.f _ _,.k .nilFunc=>some false
 |_,_=>none
def eqIf(x y:A):Option Bool:=match x,y with
 |.k .nilIface,.k .nilIface=>some true
 |_,_=>none
def eqBl(x y:A):Option Bool:=match x,y with
 |.b a,.b b=>some (a==b)
 |_,_=>none
def zu(a b:IntKind):Bool:=match a,b with
 |.i8,.i8 | .i16,.i16 | .i32,.i32 | .i64,.i64 | .u8,.u8 | .u16,.u16 | .u32,.u32 | .u64,.u64=>true
 |_,_=>false
def eqIn(x y:A):Option Bool:=match x,y with
 |.i k a,.i k' b=>cn (zu k k') (some (eqI a b)) none
 |_,_=>none
def eqSt(x y:A):Option Bool:=match x,y with
 |.s a,.s b=>some (eqL a b)
 |_,_=>none
def eq1(P:Program)(T:TypeId):Bx (A->A->Option Bool):=match P.underlying T with
 |some (.int _)=>⟨eqIn⟩
 |some .string=>⟨eqSt⟩
 |some .bool=>⟨eqBl⟩
 |_=>⟨fun _ _=>none⟩
def eqFs(P:Program)(fs:List Field)(xs ys:List A):Option Bool:=ay (some true) (fun f _ ih=>gu (f.name != "_") (bd (CA f.offset xs) fun x=>bd (CA f.offset ys) fun y=>Bx.casesOn (eq1 P f.type) fun e=>bd (e x y) fun t=>cn t ih (some false))) fs
def eqD(P:Program)(T:TypeId):Bx (A->A->Option Bool):=match P.underlying T with
 |some (.slice _)=>⟨eqSl⟩
 |some (.pointer e)=>cn (P.info? e).isSome ⟨eqPt⟩ ⟨fun _ _=>none⟩
 |some (.func _ _ _)=>⟨eqFn⟩
 |some (.interface _)=>⟨eqIf⟩
 |some (.struct fs)=>cn (!P.stoodInHeld T&&!P.eqGuardType P.depth T) ⟨fun x y=>bd x.G fun xs=>bd y.G fun ys=>eqFs P fs.toList xs ys⟩ ⟨fun _ _=>none⟩
 |_=>eq1 P T
def lim:Nat:=1000000
def QHT(op:BinOp)(a b:List Nat):Option A:=match op with
 |.add=>gu (ak (a.length+b.length) lim) (some (.s (a++b)))
 |.eql=>some (.b (eqL a b))
 |.neq=>some (.b (!eqL a b))
 |_=>none
def QHU(P:Program)(T:TypeId)(op:BinOp)(x y:A):Option A:=match op with
 |.eql=>Bx.casesOn (eqD P T) fun e=>bd (e x y) fun e=>some (.b e)
 |.neq=>Bx.casesOn (eqD P T) fun e=>bd (e x y) fun e=>some (.b (!e))
 |_=>none
def QJC(op:BinOp):Bool:=match op with | .shl | .shr=>true | _=>false
def bin(P:Program)(T:TypeId)(op:BinOp)(x y:A):Option A:=match x,y with
 |.i k a,.i k' b=>cn (QJC op||zu k k') (Bx.casesOn (QJg op) fun f=>f k a b) none
 |.s a,.s b=>QHT op a b
 |x,y=>QHU P T op x y
def zP(v:Value):Bool:=match v with | .agg _ | .tuple _=>false | _=>true
def A.ok(a:A):Bool:=match a with | .k q1=>zP q1 | _=>true
def A.one(a:A):Bool:=match a with | .g _ | .t _=>false | .k q1=>zP q1 | _=>true
def O9(n:Nat)(k:Nat):List A->Option (List A):=eF (fun l=>bif ak n l.length then some (l.take n)else none) (fun _ ih l=>aE l none fun _ r=>ih r) k
def putAt(vs:List A)(k:Nat):List A->Option (List A):=eF (fun l=>bif ak vs.length l.length then some (vs++l.drop vs.length)else none) (fun _ ih l=>aE l none fun x r=>bd (ih r) fun q=>some (x::q)) k
def cellsOf(h:Tr B)(n:Po)(off len:Nat):Option (List A):=bd (h.get n) fun b=>bd b.o.D fun c=>O9 len off c
def uA(P:Program)(T:TypeId):Bx (Tr B->Po->Nat->Option A):=match isAgg P T,M8 P T with
 |some true,some sz=>⟨fun h n off=>bd (cellsOf h n off sz) fun l=>some (.g l)⟩
 |some false,_=>⟨fun h n off=>bd (h.get n) fun b=>bd b.o.D fun c=>CA off c⟩
 |_,_=>⟨fun _ _ _=>none⟩
def Tf(lv:Nat)(h:Tr B)(n:Po)(off:Nat)(vs:List A):Option (Tr B):=bd (h.get n) fun b=>gu (ak lv b.lv) (gu (vs.all A.one) (bd b.o.C fun c=>bd (putAt vs off c.1) fun l=>some (h.put (some ⟨.c l c.2.1 c.2.2,b.lv⟩) n)))
def rz(a:A)(h:Tr B)(n:Po):Option R:=some ⟨.nm,a,.lf,h,n⟩
def nw(o:O)(a:Po->A)(lv:Nat)(h:Tr B)(n:Po):Option R:=rz (a n) (h.put (some ⟨o,lv⟩) n) n.s
def lit(sz:Nat)(ps:List (Nat×A)):Nat->Option (List A):=ay (fun _=>some []) (fun p _ ih k=>gu (ao p.1 k) (gu (ao p.2.cells.length sz) (bd (ih (aC k)) fun l=>some (p.2.cells++l)))) ps
def rep(z:List A)(n:Nat):List A:=eF [] (fun _ ih=>z++ih) n
def parts(c:Lc)(l:List (Nat×Operand))(st:List A)(m:Tr A):Option (List (Nat×A)):=ay (some []) (fun p _ ih=>bd (ev c p.2 st m) fun v=>bd ih fun l=>some ((p.1,v)::l)) l
def fill(place:Nat->Option (Nat×Nat))(ps:List (Nat×A)):List A->Option (List A):=ay (fun cs=>some cs) (fun p _ ih cs=>bd (place p.1) fun q=>gu (ao p.2.cells.length q.2) (bd (putAt p.2.cells q.1 cs) fun cs=>ih cs)) ps
def TK(l:List Nat):List A:=l.map fun c=>.i .u8 (.ofNat c)
def elems(sz:Nat)(h:Tr B)(x:A):Option (List A):=match x with
 |.k (.slice none 0 0)=>some []
 |.l n off len _=>cellsOf h n off (len*sz)
 |.o n off len _=>cellsOf h n off (len*sz)
 |_=>none
def QBl(x:A):Option Nat:=match x with
 |.k (.slice none l _)=>some l
 |.l _ _ len _=>some len
 |.o _ _ len _=>some len
 |_=>none
def zi(P:Program)(T:TypeId)(sz:Nat):Bx (Tr B->A->Option (Nat×List A)):=match P.underlying T with
 |some (.slice _)=>⟨fun h x=>bd (QBl x) fun k=>bd (elems sz h x) fun vs=>some (k,vs)⟩
 |some .string=>cn (ao sz 1) ⟨fun _ x=>bd x.S fun l=>some (l.length,TK l)⟩ ⟨fun _ _=>none⟩
 |_=>⟨fun _ _=>none⟩
def byU(a:A):Option Nat:=match a with | .i .u8 (.ofNat c)=>some c | _=>none
def dK(l:List A):Option (List Nat):=ay (some []) (fun a _ ih=>bd (byU a) fun c=>gu (ak c 255) (bd ih fun l=>some (c::l))) l
def qe(eq:A->A->Option Bool)(k:A)(es:List (A×A×Nat)):Nat->Option (Option (Nat×A)):=ay (fun _=>some none) (fun e _ ih i=>bd (eq k e.1) fun t=>cn t (some (some (i,e.2.1))) (ih (aC i))) es
def cX(P:Program)(T:TypeId):Option (Bx (A->A->Option Bool)×TypeId):=bd (P.underlying T) fun d=>match d with
 |.map kt e=>(match P.underlying kt with
  |some (.int _)=>some (eq1 P kt,e)
  |some .string=>some (eq1 P kt,e)
  |_=>none)
 |_=>none
def QFv(v:A):Nat->List (A×A×Nat)->List (A×A×Nat)
 |_,[]=>[]
 |0,(k,_,b)::r=>(k,v,b)::r
 |i+1,e::r=>e::QFv v i r
def RD(c:Lc)(x:Option Operand)(st:List A)(m:Tr A):Option (Option Nat):=match x with
 |none=>some none
 |some x=>bd (ev c x st m) fun a=>bd a.N fun n=>some (some n)
def xg(lv:Nat)(sz e:Nat)(k:Nat)(vs:List A)(h:Tr B)(nx:Po)(x:A):Option R:=match x with
 |.k (.slice none 0 0)=>bif ao k 0 then rz x h nx else gu (ak k lim) (nw (.c vs e true) (.o · 0 k sz) lv h nx)
 |.l n off len cap=>bif ak (len+k) cap then bd (Tf lv h n (off+len*sz) vs) fun h=>rz (.l n off (len+k) cap) h nx
   else bd (cellsOf h n off (len*sz)) fun us=>gu (ak (len+k) lim) (nw (.c (us++vs) e true) (.o · 0 (len+k) sz) lv h nx)
 |.o n off len z=>bd (h.get n) fun b=>bd b.o.C fun c=>gu (ao z sz&&ao c.2.1 e)<|gu c.2.2 (
   bif ak (off+(len+k)*sz) c.1.length then bd (Tf lv h n (off+len*sz) vs) fun h=>rz (.o n off (len+k) sz) h nx
   else gu (ao off 0)<|gu (ao (off+len*sz) c.1.length) (gu (ak lv b.lv) (gu (ak (len+k) lim) (rz (.o nx 0 (len+k) sz) ((h.put none n).put (some ⟨.c (c.1++vs) e true,lv⟩) nx) nx.s))))
 |_=>none
def append(P:Program)(T U:TypeId):Bx (Nat->Tr B->Po->A->A->Option R):=match slS P T with
 |none=>⟨fun _ _ _ _ _=>none⟩
 |some q=>match P.info? q.1 with
  |none=>⟨fun _ _ _ _ _=>none⟩
  |some i=>cn (ak i.bytes 1000&&(ao ((Jw P q.1).getD []).length q.2&&ak 1 q.2)) (Bx.casesOn (zi P U q.2) fun f=>⟨fun lv h nx x y=>bd (f h y) fun s=>gu (ao s.2.length (s.1*q.2)) (gu (s.2.all A.one) (xg lv q.2 q.1 s.1 s.2 h nx x))⟩) ⟨fun _ _ _ _ _=>none⟩
def xf(P:Program)(T:TypeId):Bx (Nat->Tr B->Po->A->A->Option R):=match slS P T with
 |none=>⟨fun _ _ _ _ _=>none⟩
 |some q=>match P.info? q.1 with
  |none=>⟨fun _ _ _ _ _=>none⟩
  |some i=>cn (ak i.bytes 1000&&(ao ((Jw P q.1).getD []).length q.2&&ak 1 q.2)) ⟨fun lv h nx x y=>match x,y with
   |.k (.slice none 0 0),.i .i64 (.ofNat k)=>gu (ak 1 k) (gu (ak k lim) (nw (.c (rep ((Jw P q.1).getD []) k) q.1 true) (.o · 0 k q.2) lv h nx))
   |_,_=>none⟩ ⟨fun _ _ _ _ _=>none⟩
def QBt(P:Program)(T:TypeId):Bool:=match P.underlying T with
 |some (.int _)=>true
 |_=>false
inductive Tk where
 |ca (lv:Nat) (f:FuncId) (args:List A) (h:Tr B) (n:Po)
 |rd (lv:Nat) (r:Po) (args:List A) (h:Tr B) (n:Po)
 |me (lv:Nat) (T:TypeId) (name:String) (args:List A) (h:Tr B) (n:Po)
abbrev Ih:=Tk->Option R
def u8B(P:Program)(T:TypeId):Bool:=match P.underlying T with
 |some (.int .u8)=>true
 |_=>false
def okN(x:A):Bool:=match x with
 |.p _ _=>true
 |.f _ _=>true
 |_=>false
def utf(l:List Nat)(pos:Nat):Option (Nat×Nat):=bd l[pos]? fun c=>gu (ak c 127) (some (c,1))
def num(n:Nat):A:=.i .i64 (.ofNat n)
def bi(P:Program)(b:Builtin)(T U:TypeId):Bx (Nat->Tr B->Po->List A->Option R):=match b with
 |.append=>Bx.casesOn (cn (QBt P U) (xf P T) (append P T U)) fun f=>⟨fun lv h n xs=>match xs with
  |[x,y]=>f lv h n x y
  |_=>none⟩
 |.copy=>(match slS P T with
  |none=>⟨fun _ _ _ _=>none⟩
  |some q=>Bx.casesOn (zi P U q.2) fun f=>⟨fun lv h n xs=>match xs with
   |[x,y]=>bd (f h y) fun s=>gu (ao s.2.length (s.1*q.2)) (match x with
    |.k (.slice none 0 _)=>rz (num 0) h n
    |.l d off a _=>bd (Tf lv h d off (s.2.take (ew s.1 a*q.2))) fun h=>rz (num (ew s.1 a)) h n
    |.o d off a _=>bd (Tf lv h d off (s.2.take (ew s.1 a*q.2))) fun h=>rz (num (ew s.1 a)) h n
    |_=>none)
   |_=>none⟩)
 |.unsafeSliceData=>⟨fun _ h n xs=>match xs with
  |[.l d off _ (_+1)]=>rz (.p d off) h n
  |[.o d off (_+1) _]=>rz (.p d off) h n
  |[.k (.slice none _ _)]=>rz (.k (.pointer none)) h n
  |_=>none⟩
 |.unsafeString=>(match P.underlying T with
  |some (.pointer e)=>cn (ao (P.cellsOf e) 1) ⟨fun lv h n xs=>match xs with
   |[.p _ _,.i _ (.ofNat 0)]=>rz (.s []) h n
   |[.k (.pointer none),.i _ (.ofNat 0)]=>rz (.s []) h n
   |[.p d off,.i .i64 (.ofNat k)]=>gu (ao off 0)<|gu (ak k lim)<|bd (h.get d) fun b=>gu (ak lv b.lv) (bd b.o.C fun c=>gu (ao c.2.1 e) (bd (O9 k 0 c.1) fun l=>bd (dK l) fun bs=>rz (.s bs) (h.put none d) n))
   |_=>none⟩ ⟨fun _ _ _ _=>none⟩
  |_=>⟨fun _ _ _ _=>none⟩)
 |_=>⟨fun _ _ _ _=>none⟩
def ifG(a:A)(b:Bool):Bool:=match a with | .k .nilIface=>b | _=>true
def isC(x:Operand):Bool:=match x with | .const _=>true | _=>false
def QCK(P:Program)(src d:TypeId):Bx (Tr B->A->Option A):=match P.underlying src,P.underlying d with
 |some _,some (.int k)=>⟨fun _ x=>bd x.I fun q=>some (.i k (wr k q.2))⟩
 |some (.slice e),some .string=>(match P.underlying e with
  |some (.int .u8)=>⟨fun h x=>bd (QBl x) fun k=>bd (elems 1 h x) fun l=>gu (ao l.length k) (bd (dK l) fun l=>some (.s l))⟩
  |_=>⟨fun _ _=>none⟩)
 |some .string,some .string=>⟨fun _ x=>bd x.S fun l=>some (.s l)⟩
 |some (.pointer t),some .unsafePointer=>⟨fun h x=>bd x.P fun q=>bd (h.get q.1) fun b=>bd b.o.C fun c=>gu (ak (aC q.2) c.1.length) (gu ((P.info? t).any fun j=>j.size != 0) (some x))⟩
 |some .unsafePointer,some (.pointer t)=>⟨fun h x=>bd x.P fun q=>bd (h.get q.1) fun b=>bd b.o.C fun c=>gu (!c.2.2) (gu (liesAt P P.depth c.2.1 (c.1.length/P.cellsOf c.2.1) q.2 t 1) (gu (P.info? t).isSome (some x)))⟩
 |_,_=>⟨fun _ _=>none⟩
def Ow(eq:A->A->Option Bool)(lv:Nat)(h:Tr B)(n q:Po)(k v:A):Option R:=bd (h.get q) fun b=>gu (ak lv b.lv) (match b.o with
  |.m es c=>bd (qe eq k es 0) fun r=>rz u0 (h.put (some ⟨(match r with | some x=>.m (QFv v x.1 es) c | none=>.m (es++[(k,v,c)]) (c+1)),b.lv⟩) q) n
  |_=>none)
def vN(P:Program)(T:TypeId)(av hv:Option Nat)(x:A):Option A:=match x with
 |.s l=>gu (WE P T) (gu (ak (av.getD 0) (hv.getD l.length)) (gu (ak (hv.getD l.length) l.length) (some (.s ((l.take (hv.getD l.length)).drop (av.getD 0))))))
 |.l q off len cap=>bd (slS P T) fun e=>gu (ak (av.getD 0) (hv.getD len)) (gu (ak (hv.getD len) cap)
  (some (.l q (cn (ao cap (av.getD 0)) off (off+av.getD 0*e.2)) (hv.getD len-av.getD 0) (cap-av.getD 0))))
 |.o q off len sz=>bd (slS P T) fun e=>gu (ao sz e.2) (gu (ak (av.getD 0) (hv.getD len)) (gu (ak (hv.getD len) len) (gu (ak 1 sz) (gu (ak (aC (av.getD 0)) len) (some (.o q (off+av.getD 0*sz) (hv.getD len-av.getD 0) sz))))))
 |.p q off=>bd (P.underlying T) fun d=>(match d with
  |.array len e=>bd (M8 P e) fun sz=>gu (ak (av.getD 0) (hv.getD len)) (gu (ak (hv.getD len) len) (some (.l q (cn (ao len (av.getD 0)) off (off+av.getD 0*sz)) (hv.getD len-av.getD 0) (len-av.getD 0))))
  |_=>none)
 |.k (.slice none 0 0)=>bd (slS P T) fun _=>gu (ao (av.getD 0) 0) (gu (ao (hv.getD 0) 0) (some x))
 |_=>none
def QG9(sz:Nat)(x:A)(i:Nat):Option A:=match x with
 |.l n off len _=>gu (ak (aC i) len) (some (.p n (off+i*sz)))
 |.o n off len s=>gu (ak (aC i) len) (gu (ao s sz) (some (.p n (off+i*sz))))
 |_=>none
def QKi(len sz:Nat)(x:A)(i:Nat):Option A:=bd x.P fun q=>gu (ak (aC i) len) (some (.p q.1 (q.2+i*sz)))
def QHC(P:Program)(T:TypeId):Bx (A->Nat->Option A):=match P.underlying T with
 |some (.slice e)=>(match M8 P e with
  |some sz=>⟨QG9 sz⟩
  |none=>⟨fun _ _=>none⟩)
 |some (.array len e)=>(match M8 P e with
  |some sz=>⟨QKi len sz⟩
  |none=>⟨fun _ _=>none⟩)
 |_=>⟨fun _ _=>none⟩
def jW(P:Program)(T:TypeId):Nat->Option (Nat×Nat):=fun i=>bd (P.underlying T) fun d=>match d with
 |.struct _=>bd (Z9 P T i) fun q=>bd (M8 P q.2) fun n=>some (q.1,n)
 |.array _ e=>bd (M8 P e) fun sz=>some (i*sz,sz)
 |_=>none
def QCX(P:Program)(T:TypeId):Bool:=match P.underlying T with
 |some (.struct fs)=>fs.toList.all fun f=>(P.info? f.type).isSome
 |some (.array _ e)=>(M8 P e).isSome
 |_=>false
def QFG(es:List (A×A×Nat))(seen:List Nat):List (A×A×Nat):=es.filter fun e=>!seen.contains e.2.2
def PZ(b:Builtin)(xs:List A):Option A:=match b,xs with
 |.min,[.i k a,.i _ b]=>some (.i k (cn (cY b a) b a))
 |.max,[.i k a,.i _ b]=>some (.i k (cn (cY a b) b a))
 |.min,[.i k a,.i _ b,.i _ c]=>some (.i k (cn (cY c (cn (cY b a) b a)) c (cn (cY b a) b a)))
 |.max,[.i k a,.i _ b,.i _ c]=>some (.i k (cn (cY (cn (cY a b) b a) c) c (cn (cY a b) b a)))
 |.cap,[.l _ _ _ c]=>some (num c)
 |.cap,[.k (.slice none _ c)]=>some (num c)
 |_,_=>none
def QJD(P:Program)(T:TypeId):Bool:=match P.underlying T with
 |some (.interface _)=>false
 |some _=>true
 |none=>false
def C1(P:Program)(c:Lc)(o:Op):Option (Bx Ac):=match o with
 |.move x=>some (oaD c.X c.loc x)
 |.assign x=>some (oaD c.X c.loc x)
 |.pick x a b=>some ⟨fun st m=>bd (ev c x st m) fun x=>bd x.B fun t=>bif t then ev c a st m else ev c b st m⟩
 |.build T ps=>some ⟨fun st m=>gu (QCX P T)<|bd (Jw P T) fun z=>bd (parts c ps.toList st m) fun l=>gu (l.all fun p=>p.2.ok) (bd (fill (jW P T) l z) fun cs=>some (.g cs))⟩
 |.nilCheck x=>some ⟨fun st m=>bd (ev c x st m) fun v=>gu (okN v) (some v)⟩
 |.binOp op T x y _=>some ⟨fun st m=>bd (ev c x st m) fun a=>bd (ev c y st m) fun b=>gu (ifG a (isC x||isC y)) (bin P T op a b)⟩
 |.unOp .not _ x=>some ⟨fun st m=>bd (ev c x st m) fun a=>bd a.B fun t=>some (.b (!t))⟩
 |.unOp .neg _ x=>some ⟨fun st m=>bd (ev c x st m) fun a=>bd a.I fun q=>some (.i q.1 (wr q.1 (Int.neg q.2)))⟩
 |.makeFunc (.func fn) a b=>some ⟨fun st m=>gu a.toList.isEmpty (bd (HM c b.toList st m) fun y=>some (.f fn y))⟩
 |.slice T x lo hi none=>some ⟨fun st m=>bd (ev c x st m) fun a=>bd (RD c lo st m) fun av=>bd (RD c hi st m) fun hv=>vN P T av hv a⟩
 |.fieldAddr T x f=>some ⟨fun st m=>bd (ev c x st m) fun a=>bd a.P fun q=>bd (Z9 P T f) fun p=>bd (M8 P p.2) fun s=>gu (ak 1 s) (some (.p q.1 (Nat.add q.2 p.1)))⟩
 |.field T x f=>some ⟨fun st m=>bd (ev c x st m) fun a=>bd a.G fun l=>bd (Z9 P T f) fun p=>bd (isAgg P p.2) fun g=>bif g then bd (M8 P p.2) fun sz=>bd (O9 sz p.1 l) fun l=>some (.g l)else CA p.1 l⟩
 |.indexAddr T x y=>some ⟨fun st m=>bd (ev c x st m) fun a=>bd (ev c y st m) fun b=>bd b.N fun i=>Bx.casesOn (QHC P T) fun f=>f a i⟩
 |.index T x y=>some ⟨fun st m=>gu (WE P T)<|bd (ev c x st m) fun a=>bd a.S fun l=>bd (ev c y st m) fun b=>bd b.N fun i=>bd l[i]? fun c=>some (.i .u8 (.ofNat c))⟩
 |.extract x i=>some ⟨fun st m=>bd (ev c x st m) fun a=>bd a.T fun l=>CA i l⟩
 |.makeInterface T x=>some ⟨fun st m=>gu (QJD P T) (bd (ev c x st m) fun a=>some (.xi T a))⟩
 |.call ⟨.builtin .min,args,_⟩=>some ⟨fun st m=>bd (HM c args.toList st m) fun xs=>PZ .min xs⟩
 |.call ⟨.builtin .max,args,_⟩=>some ⟨fun st m=>bd (HM c args.toList st m) fun xs=>PZ .max xs⟩
 |.call ⟨.builtin .cap,args,ts⟩=>(match bd ts[0]? (GI P)with
  |some _=>some ⟨fun st m=>bd (HM c args.toList st m) fun xs=>PZ .cap xs⟩
  |_=>none)
 |_=>none
def zeroV(P:Program)(T:TypeId):Option A:=bd (P.info? T) fun i=>bd i.zero fun v=>some (ofV v)
def QFN(P:Program)(T:TypeId)(r:Option (Nat×A)):Option A:=match r with
 |some x=>some x.2
 |none=>zeroV P T
def QEB(P:Program)(ts:Array TypeId):Bx (Tr B->A->Option A):=match bd ts[0]? P.underlying with
 |some .string=>⟨fun _ x=>bd x.S fun l=>some (num l.length)⟩
 |some (.slice _)=>⟨fun _ x=>bd (QBl x) fun k=>some (num k)⟩
 |some (.map _ _)=>⟨fun h x=>bd x.M fun q=>bd (h.get q) fun b=>(match b.o with | .m es _=>some (num es.length) | _=>none)⟩
 |_=>⟨fun _ _=>none⟩
abbrev Me:=List A->Tr A->Tr B->Option A
def jk(P:Program)(c:Lc)(o:Op):Option (Bx Me):=match o with
 |.load T x=>some ⟨fun st m h=>bd (ev c x st m) fun a=>bd a.P fun q=>Bx.casesOn (uA P T) fun f=>f h q.1 q.2⟩
 |.lookup T x y ok=>(match cX P T with
  |none=>none
  |some q=>Bx.casesOn q.1 fun eq=>some ⟨fun st m h=>bd (ev c x st m) fun a=>bd a.M fun n=>bd (ev c y st m) fun k=>bd (h.get n) fun b=>(match b.o with
   |.m es _=>bd (qe eq k es 0) fun r=>bd (QFN P q.2 r) fun v=>some (cn ok (.t [v,.b r.isSome]) v)
   |_=>none)⟩)
 |.entry x=>some ⟨fun st m h=>bd (ev c x st m) fun a=>bd a.P fun q=>gu (ao q.2 0)<|bd (h.get q.1) fun b=>match b.o with
  |.mi p _ (e::_) last=>bd (h.get p) fun d=>(match d.o with
   |.m es clock=>gu (ao clock last) (bd (es.find? fun x=>ao x.2.2 e) fun x=>some (.t [x.1,x.2.1]))
   |_=>none)
  |_=>none⟩
 |.call ⟨.builtin .len,args,ts⟩=>Bx.casesOn (QEB P ts) fun f=>some ⟨fun st m h=>bd (HM c args.toList st m) fun xs=>match xs with
  |[x]=>f h x
  |_=>none⟩
 |.convert s d x=>(match P.underlying s,P.underlying d with
  |some .string,some (.slice _)=>none
  |_,_=>some ⟨fun st m h=>bd (ev c x st m) fun a=>Bx.casesOn (QCK P s d) fun f=>f h a⟩)
 |_=>none
def p6(P:Program)(c:Lc)(o:Op):Option (Bx (List A->Tr A->Option (O×(Po->A)))):=match o with
 |.alloc T=>some ⟨fun _ _=>bd (Jw P T) fun z=>some (.c z T false,(.p · 0))⟩
 |.box T x=>some ⟨fun st m=>bd (ev c x st m) fun v=>gu v.ok (some (.c v.cells T false,(.p · 0)))⟩
 |.buildSlice T k ps=>some ⟨fun st m=>bd (slS P T) fun q=>gu (Jw P q.1).isSome<|bd (parts c ps.toList st m) fun l=>gu (l.all fun p=>p.2.ok)<|bd (lit q.2 l 0) fun cs=>gu (ao cs.length (k*q.2)) (gu (ak (k*q.2) 16777216) (some (.c cs q.1 false,(.l · 0 k k))))⟩
 |.makeMap _ none=>some ⟨fun _ _=>some (.m [] 0,.m)⟩
 |.makeSlice T l n=>some ⟨fun st m=>bd (ev c l st m) fun a=>bd a.N fun k=>bd (ev c n st m) fun a=>bd a.N fun n=>bd (slS P T) fun q=>bd (P.info? q.1) fun i=>gu (ak i.bytes 1000)<|bd (Jw P q.1) fun z=>gu (ao z.length q.2)<|gu (ak k n) (gu (ak n 16777216) (some (.c (rep z n) q.1 false,(.l · 0 k n))))⟩
 |_=>none
abbrev Fo:=Ih->Nat->List A->Tr A->Tr B->Po->Option R
def biT(P:Program)(b:Builtin)(ts:Array TypeId):Bx (Nat->Tr B->Po->List A->Option R):=match ts.toList with
 |[T,U]=>bi P b T U
 |[T]=>(match b with | .unsafeSliceData=>bi P b T T | _=>⟨fun _ _ _ _=>none⟩)
 |_=>⟨fun _ _ _ _=>none⟩
def loD(P:Program)(c:Lc)(o:Op):Bx Fo:=match o with
 |.store T x y=>⟨fun _ lv st m h n=>bd (ev c x st m) fun a=>bd a.P fun q=>bd (ev c y st m) fun v=>bd (M8 P T) fun sz=>gu (ao v.cells.length sz) (bd (Tf lv h q.1 q.2 v.cells) fun h=>rz u0 h n)⟩
 |.mapUpdate T x y z=>(match cX P T with
  |none=>⟨fun _ _ _ _ _ _=>none⟩
  |some w=>Bx.casesOn w.1 fun eq=>⟨fun _ lv st m h n=>bd (ev c x st m) fun a=>bd a.M fun q=>bd (ev c y st m) fun k=>bd (ev c z st m) fun v=>Ow eq lv h n q k v⟩)
 |.insert T x y z=>(match cX P T with
  |none=>⟨fun _ _ _ _ _ _=>none⟩
  |some w=>Bx.casesOn w.1 fun eq=>⟨fun _ lv st m h n=>bd (ev c x st m) fun a=>bd a.M fun q=>bd (ev c y st m) fun k=>bd (ev c z st m) fun v=>Ow eq lv h n q k v⟩)
 |.range T x=>(match P.underlying T with
  |some .string=>⟨fun _ lv st m h n=>bd (ev c x st m) fun a=>bd a.S fun l=>nw (.si l 0) (.p · 0) lv h n⟩
  |some (.map _ _)=>⟨fun _ lv st m h n=>bd (ev c x st m) fun a=>bd a.M fun q=>bd (h.get q) fun b=>(match b.o with | .m _ c=>nw (.mi q c [] c) (.p · 0) lv h n | _=>none)⟩
  |_=>⟨fun _ _ _ _ _ _=>none⟩)
 |.next x str=>⟨fun _ lv st m h n=>bd (ev c x st m) fun a=>bd a.P fun q=>gu (ao q.2 0)<|bd (h.get q.1) fun b=>gu (ak lv b.lv) (match b.o with
  |.si l pos=>gu str<|bif ak (aC pos) l.length then bd (utf l pos) fun c=>rz (.t [.b true,num pos,.i .i32 (.ofNat c.1)]) (h.put (some ⟨.si l (pos+c.2),b.lv⟩) q.1) n else rz (.t [.b false]) h n
  |.mi p since seen last=>gu (!str)<|bd (h.get p) fun d=>(match d.o with
   |.m es clock=>gu (seen.isEmpty||(es.isEmpty||!(es.all fun e=>ak last e.2.2))) (match QFG es seen with
    |[]=>rz (.t [.b false]) h n
    |[e]=>gu (ak (aC e.2.2) since)<|rz (.t [.b true,e.1,e.2.1]) (h.put (some ⟨.mi p since (e.2.2::seen) clock,b.lv⟩) q.1) n
    |_=>none)
   |_=>none)
  |_=>none)⟩
 |.call ⟨.builtin b,args,ts⟩=>⟨fun _ lv st m h n=>bd (HM c args.toList st m) fun xs=>Bx.casesOn (biT P b ts) fun f=>f lv h n xs⟩
 |.call ⟨.value f,args,_⟩=>⟨fun ih lv st m h n=>bd (ev c f st m) fun a=>bd (HM c args.toList st m) fun xs=>match a with
  |.f g c=>ih (.ca lv g (xs++c) h n)
  |.y r=>ih (.rd lv r xs h n)
  |_=>none⟩
 |.call ⟨.invoke x name,args,_⟩=>⟨fun ih lv st m h n=>bd (ev c x st m) fun a=>bd (HM c args.toList st m) fun xs=>match a with
  |.xi T v=>ih (.me lv T name (v::xs) h n)
  |_=>none⟩
 |.convert s d x=>⟨fun _ lv st m h n=>bd (ev c x st m) fun a=>bd a.S fun l=>bd (GI P d) fun e=>gu (WE P s) (cn (u8B P e) (nw (.r (TK l) e) (.o · 0 l.length 1) lv h n) none)⟩
 |_=>⟨fun _ _ _ _ _ _=>none⟩
def push(d:Option Tmp)(a:A)(st:List A):List A:=match d with | some _=>a::st | none=>st
def qO(d:Option Tmp)(loc:List Nat):List Nat:=match d with | some d=>d::loc | none=>loc
def qU(P:Program)(c:Lc)(o:Op):Bx Fo:=match C1 P c o with
 |some g=>Bx.casesOn g fun g=>⟨fun _ _ st m h n=>bd (g st m) fun a=>rz a h n⟩
 |none=>match jk P c o with
  |some g=>Bx.casesOn g fun g=>⟨fun _ _ st m h n=>bd (g st m h) fun a=>rz a h n⟩
  |none=>match p6 P c o with
   |some g=>Bx.casesOn g fun g=>⟨fun _ lv st m h n=>bd (g st m) fun q=>nw q.1 q.2 lv h n⟩
   |none=>loD P c o
def qY(ops:List Oper)(o:Oper):Option (Option Nat×Bool):=match o.guard with
 |none=>none
 |some (g,want)=>some (bd ops[g]? (·.dst),want)
def wanted(c:Lc)(g:Option Nat×Bool)(st:List A)(m:Tr A):Option Bool:=bd g.1 fun d=>bd (ev c (.tmp d) st m) fun a=>match a with
 |.b t=>some (t==g.2)
 |.t []=>some false
 |_=>none
def flD(X:Nat->Bool)(loc:List Nat):Bx (List A->Tr A->Tr A):=ay ⟨fun _ m=>m⟩ (fun t _ k=>Bx.casesOn k fun k=>cn (X t) ⟨fun st m=>aE st m fun a st=>(k st m).put (some a) (po t)⟩ ⟨fun st m=>aE st m fun _ st=>k st m⟩) loc
def TS(P:Program)(X:Nat->Bool)(ops:List Oper)(l:List Oper):List Nat->Bx Fo:=ay (fun loc=>Bx.casesOn (flD X loc) fun f=>⟨fun _ _ st m h n=>some ⟨.nm,u0,f st m,h,n⟩⟩)
 (fun o _ k loc=>Bx.casesOn (k (qO o.dst loc)) fun k=>match qY ops o with
  |none=>(match C1 P ⟨X,loc⟩ o.op with
   |some g=>Bx.casesOn g fun g=>(match o.dst with
    |some _=>⟨fun ih lv st m h n=>bd (g st m) fun a=>k ih lv (a::st) m h n⟩
    |none=>⟨fun ih lv st m h n=>bd (g st m) fun _=>k ih lv st m h n⟩)
   |none=>Bx.casesOn (qU P ⟨X,loc⟩ o.op) fun f=>⟨fun ih lv st m h n=>bd (f ih lv st m h n) fun r=>k ih lv (push o.dst r.a st) m r.h r.n⟩)
  |some g=>Bx.casesOn (qU P ⟨X,loc⟩ o.op) fun f=>⟨fun ih lv st m h n=>bd (wanted ⟨X,loc⟩ g st m) fun t=>cn t (bd (f ih lv st m h n) fun r=>k ih lv (push o.dst r.a st) m r.h r.n) (k ih lv (push o.dst u0 st) m h n)⟩) l
def bit(m t:Nat):Bool:=ao (eV (bg m t) 1) 1
def dC(acc:List Nat)(es:List Edge):Nat:=ay 0 (fun e _ ih=>cn (aW .any e) (eG ih (eG (bD 1 e.on) (acc.getD e.on 0))) ih) es
def zJ(l:List Oper):List Nat->List Nat:=ay (fun acc=>acc) (fun o _ ih acc=>ih (acc++[dC acc o.after.toList])) l
def VH(P:Program)(o:Op):Bool:=(C1 P ⟨fun _=>false,[]⟩ o).isNone&&(jk P ⟨fun _=>false,[]⟩ o).isNone&&(p6 P ⟨fun _=>false,[]⟩ o).isNone
structure Pn where
 j:Nat
 n:Po
 b:B
structure Vw where
 h:Tr B
 pd:List Pn
def act(mask:Nat)(v:Vw):Tr B:=ay v.h (fun x _ ih=>cn (bit mask x.j) (ih.put (some x.b) x.n) ih) v.pd
def QAJ(v:Vw):Tr B:=ay v.h (fun x _ ih=>ih.put (some x.b) x.n) v.pd
def rst(mask:Nat)(pd:List Pn):List Pn:=ay [] (fun x _ ih=>cn (bit mask x.j) ih (x::ih)) pd
structure Ms where
 j:Nat
 g:Tr B->Option A
 mask:Nat
 a:A
structure Hv where
 j:Nat
 v:Vw
structure Z where
 st:List A
 v:Vw
 n:Po
 hs:List Hv
 ms:List Ms
def QAo(a b:Value):Bool:=match a,b with
 |.pointer none,.pointer none=>true
 |.slice none a b,.slice none c d=>ao a c&&ao b d
 |.nilFunc,.nilFunc=>true
 |.nilIface,.nilIface=>true
 |.map none,.map none=>true
 |_,_=>false
mutual
def same:A->A->Bool
 |.i k n,.i k' n'=>zu k k'&&eqI n n'
 |.b x,.b y=>x==y
 |.s x,.s y=>eqL x y
 |.k x,.k y=>QAo x y
 |.p n o,.p n' o'=>Po.eq n n'&&ao o o'
 |.l n o a b,.l n' o' a' b'=>Po.eq n n'&&(ao o o'&&(ao a a'&&ao b b'))
 |.o n o a b,.o n' o' a' b'=>Po.eq n n'&&(ao o o'&&(ao a a'&&ao b b'))
 |.m n,.m n'=>Po.eq n n'
 |.f g l,.f g' l'=>ao g g'&&Rk l l'
 |.g l,.g l'=>Rk l l'
 |.t l,.t l'=>Rk l l'
 |.xi T a,.xi T' a'=>ao T T'&&same a a'
 |_,_=>false
def Rk:List A->List A->Bool
 |[],[]=>true
 |a::l,b::r=>same a b&&Rk l r
 |_,_=>false
end
def ckE(g:Tr B->Option A)(mask:Nat)(a:A)(hs:List Hv):Bool:=ay true (fun x _ ih=>cn (bit mask x.j) true (aT (g (act mask x.v)) false fun a'=>cn (same a' a) ih false)) hs
def nmP(n q:Po):Bool:=ak (aC q.n) n.n
mutual
def gH(n:Po):A->Bool
 |.p q _=>nmP n q
 |.l q _ _ _=>nmP n q
 |.o q _ _ _=>nmP n q
 |.m q=>nmP n q
 |.y q=>nmP n q
 |.f _ l=>cJ n l
 |.g l=>cJ n l
 |.t l=>cJ n l
 |.xi _ a=>gH n a
 |_=>true
def cJ(n:Po):List A->Bool
 |[]=>true
 |a::l=>gH n a&&cJ n l
end
def ckM(dm:Nat)(v:Vw)(ms:List Ms):Bool:=ay true (fun x _ ih=>cn (bit dm x.j) ih (aT (x.g (act x.mask v)) false fun a=>cn (same a x.a) ih false)) ms
abbrev Dz:=Ih->Nat->Tr A->Z->Option Z
def pJ(P:Program)(c:Lc)(o:Op)(i dm:Nat)(lt:Bool):Bx Dz:=match C1 P c o with
 |some g=>Bx.casesOn g fun g=>⟨fun _ _ m z=>bd (g z.st m) fun a=>some ⟨a::z.st,z.v,z.n,z.hs,z.ms⟩⟩
 |none=>match jk P c o with
  |some g=>Bx.casesOn g fun g=>⟨fun _ _ m z=>bd (g z.st m (act dm z.v)) fun a=>gu (gH z.n a)<|gu (ckE (g z.st m) dm a z.hs) (some ⟨a::z.st,z.v,z.n,z.hs,cn lt (⟨i,g z.st m,dm,a⟩::z.ms) z.ms⟩)⟩
  |none=>match p6 P c o with
   |some g=>Bx.casesOn g fun g=>⟨fun _ lv m z=>bd (g z.st m) fun q=>some ⟨q.2 z.n::z.st,⟨z.v.h,⟨i,z.n,⟨q.1,lv⟩⟩::z.v.pd⟩,z.n.s,z.hs,z.ms⟩⟩
   |none=>Bx.casesOn (loD P c o) fun f=>⟨fun ih lv m z=>bd (f ih lv z.st m (act dm z.v) z.n) fun r=>gu (ak z.n.n r.n.n)<|gu (ckM dm ⟨r.h,rst dm z.v.pd⟩ z.ms) (some ⟨r.a::z.st,⟨r.h,rst dm z.v.pd⟩,r.n,⟨i,z.v⟩::z.hs,z.ms⟩)⟩
def stepG(P:Program)(X:Nat->Bool)(loc:List Nat)(ops:List Oper)(o:Oper)(i dm:Nat)(lt:Bool):Bx Dz:=match qY ops o with
 |none=>pJ P ⟨X,loc⟩ o.op i dm lt
 |some g=>Bx.casesOn (pJ P ⟨X,loc⟩ o.op i dm lt) fun f=>⟨fun ih lv m z=>bd (wanted ⟨X,loc⟩ g z.st m) fun t=>cn t (f ih lv m z) (some ⟨u0::z.st,z.v,z.n,(cn (VH P o.op) (⟨i,z.v⟩::z.hs) z.hs),z.ms⟩)⟩
def CN(o:Oper):Nat:=match o.dst with | some d=>d | none=>1000000
def QAI(ls:List Bool)(D:List Nat)(i:Nat):Bool:=(fu ls.length).any fun j=>ak (aC i) j&&(ls.getD j false&&!bit (D.getD j 0) i)
def uM(P:Program)(X:Nat->Bool)(ops:List Oper)(D:List Nat)(ls:List Bool)(l:List Oper):Nat->List Nat->Bx Dz:=ay (fun _ _=>⟨fun _ _ _ z=>some z⟩)
 (fun o _ k i loc=>Bx.casesOn (stepG P X loc ops o i (D.getD i 0) (QAI ls D i)) fun f=>Bx.casesOn (k (aC i) (CN o::loc)) fun k=>⟨fun ih lv m z=>bd (f ih lv m z) fun z=>k ih lv m z⟩) l
def slotsOf(ops:List Oper)(o:Oper):List Nat:=(o.op.operands.toList.filterMap fun x=>match x with | .tmp t=>some t | _=>none)++(match qY ops o with | some (some d,_)=>[d] | _=>[])
def okR(P:Program)(ops:List Oper)(D:List Nat)(ls:List Bool):Bool :=
 (fu ops.length).all fun i=>aT ops[i]? false fun o=>(o.after.toList.all fun e=>!(aW .any e)||ak (aC e.on) i)&&(((slotsOf ops o).all fun t=>ak (aC t) 1000000) &&
  (fu ops.length).all fun j=>aT ops[j]? false fun q =>
   ao i j||(aT q.dst true fun t=>!(match o.dst with | some d=>ao d t | none=>false)&&(!((slotsOf ops o).any (ao t))||(bit (D.getD i 0) j||bit (D.getD j 0) i)))&&(!(ak (aC i) j&&(ls.getD i false&&ls.getD j false))||bit (D.getD j 0) i))
def uN(P:Program)(X:Nat->Bool)(ops:List Oper):Bx (Ih->Nat->Tr A->Tr B->Po->Option R) :=
 let D:=zJ ops [];let ls:=ops.map fun o=>VH P o.op
 cn (P.follows .mixedOrders&&(!X 1000000&&okR P ops D ls)) (Bx.casesOn (uM P X ops D ls ops 0 []) fun f=>Bx.casesOn (flD X (ops.map CN).reverse) fun fl=>⟨fun ih lv m h n=>bd (f ih lv m ⟨[],⟨h,[]⟩,n,[],[]⟩) fun z=>some ⟨.nm,u0,fl z.st m,QAJ z.v,z.n⟩⟩) ⟨fun _ _ _ _ _=>none⟩
def sub(o:O):List A:=match o with
 |.c l _ _=>l
 |.r l _=>l
 |.m es _=>es.flatMap fun e=>[e.1,e.2.1]
 |_=>[]
def TN(lv:Nat)(h1:Tr B)(f:Nat):List A->Tr B->Tr B:=eF (fun _ h=>h) (fun _ ih l h=>aE l h fun a r =>
 let nm (n:Po):Tr B:=aT (h.get n) (aT (h1.get n) (ih r h) fun b=>cn (ak (aC lv) b.lv) (ih (sub b.o++r) (h.put (some ⟨b.o,lv⟩) n)) (ih r h)) fun _=>ih r h
 match a with
 |.p n _=>nm n
 |.l n _ _ _=>nm n
 |.o n _ _ _=>nm n
 |.m n=>nm n
 |.f _ x=>ih (x++r) h
 |.g l=>ih (l++r) h
 |.t l=>ih (l++r) h
 |.xi _ a=>ih (a::r) h
 |_=>ih r h) f
def OD(P:Program)(rs:List ResultVar)(m:Tr A)(h:Tr B):Option (List A):=ay (some []) (fun r _ ih=>bd (match r with
 |.tmp t=>m.get (po t)
 |.cell t T=>bd (m.get (po t)) fun a=>bd a.P fun q=>Bx.casesOn (uA P T) fun f=>f h q.1 q.2) fun v=>bd ih fun l=>some (v::l)) rs
def one(l:List A):A:=match l with | [v]=>v | vs=>.t vs
def dO(as:List A):Nat->Tr A->Tr A:=ay (fun _ m=>m) (fun a _ ih k m=>ih (aC k) (m.put (some a) (po k))) as
def QDm(ps:List Tmp):List A->Tr A->Option (Tr A):=ay (fun l m=>aE l (some m) fun _ _=>none) (fun p _ ih l m=>aE l none fun a r=>ih r (m.put (some a) (po p))) ps
abbrev Co:=Ih->Nat->Tr A->Tr B->Po->Option R
def orT(loc:Nat)(x:Operand)(m:Nat):Nat:=match x with
 |.tmp t=>cn (bit loc t) m (eG m (bD 1 t))
 |_=>m
def orO(loc:Nat)(x:Option Nat)(m:Nat):Nat:=match x with
 |some t=>orT loc (.tmp t) m
 |none=>m
def orL(loc:Nat)(l:List Operand)(m:Nat):Nat:=ay m (fun x _ ih=>orT loc x ih) l
def outs(l:List Oper)(ops:List Oper):Nat->Nat->Nat:=ay (fun _ m=>m) (fun o _ ih loc m=>ih (match o.dst with | some d=>eG loc (bD 1 d) | none=>loc) (match qY ops o with | some g=>orO loc g.1 (orL loc o.op.operands.toList m) | none=>orL loc o.op.operands.toList m)) l
def orN(l:List Nat)(m:Nat):Nat:=ay m (fun t _ ih=>eG ih (bD 1 t)) l
def need(c:Code):Nat->Nat:=fS (motive:=fun _=>Nat->Nat) (fun m=>m) (fun _ ops _=>outs ops.toList ops.toList 0) (fun _ _ a b m=>b (a m)) (fun x _ _ a b m=>orT 0 x (b (a m))) (fun _ _ a=>a) (fun _ a=>a) (fun f ps _ _ a b m=>orT 0 f (orN ps.toList (b (a m)))) (fun _ m=>m) (fun _ a=>a) (fun _ m=>m) (fun _ m=>m) (fun m=>m) (fun _ m=>m) c
def QBe(a:Tr A->Tr B->Po->Option R)(k:Nat):Tr A->Tr B->Po->Option R:=eF (fun _ _ _=>none) (fun _ ih m h n=>bd (a m h n) fun r=>Ex.casesOn r.e (ih r.m r.h r.n) (fun _=>some r) (some r)) k
def hasB(P:Program)(g:FuncId):Bool:=match P.funcs[g]? with
 |some fn=>fn.body.isSome
 |none=>false
def CW(P:Program)(rf:Bool)(X:Nat->Bool)(c:Code):Bx Co:=fS (motive:=fun _=>Bx Co)
 ⟨fun _ _ m h n=>some ⟨.nm,u0,m,h,n⟩⟩
 (fun _ ops dr=>cn dr (uN P X ops.toList) (Bx.casesOn (TS P X ops.toList ops.toList []) fun f=>⟨fun ih lv m h n=>f ih lv [] m h n⟩))
 (fun _ _ a b=>Bx.casesOn a fun a=>Bx.casesOn b fun b=>⟨fun ih lv m h n=>bd (a ih lv m h n) fun r=>Ex.casesOn r.e (b ih lv r.m r.h r.n) (fun _=>some r) (some r)⟩)
 (fun x _ _ a b=>Bx.casesOn a fun a=>Bx.casesOn b fun b=>⟨fun ih lv m h n=>bd (ev ⟨X,[]⟩ x [] m) fun v=>bd v.B fun t=>cn t (a ih lv m h n) (b ih lv m h n)⟩)
 (fun id _ a=>Bx.casesOn a fun a=>⟨fun ih lv m h n=>bd (a ih lv m h n) fun r=>Ex.casesOn r.e (some r) (fun i=>bif ao i id then some ⟨.nm,u0,r.m,r.h,r.n⟩else some r) (some r)⟩)
 (fun _ a=>Bx.casesOn a fun a=>⟨fun ih lv m h n=>QBe (a ih lv) lim m h n⟩)
 (fun f ps as body _ _=>⟨fun ih lv m h n=>gu rf<|bd (ev ⟨X,[]⟩ f [] m) fun v=>match v with
  |.f g c=>gu (hasB P g)<|bd (ih (.ca lv g (.y n::c) (h.put (some ⟨.lp m X ps.toList as body,lv⟩) n) n.s)) fun r=>bd (r.h.get n) fun b=>gu (ak lv b.lv) (match b.o with
   |.lp _ _ _ _ _=>some ⟨.nm,u0,m,r.h.put none n,r.n⟩
   |_=>none)
  |_=>none⟩)
 (fun id=>⟨fun _ _ m h n=>some ⟨.ex id,u0,m,h,n⟩⟩)
 (fun _ a=>Bx.casesOn a fun a=>⟨fun ih lv m h n=>gu rf (a ih lv m h n)⟩)
 (fun _=>⟨fun _ _ m h n=>some ⟨.nm,u0,m,h,n⟩⟩)
 (fun _=>⟨fun _ _ _ _ _=>none⟩)
 ⟨fun _ _ m h n=>some ⟨.rt,u0,m,h,n⟩⟩
 (fun _=>⟨fun _ _ _ _ _=>none⟩) c
def kf(N:Nat)(d:Option Tmp):Bool:=match d with | some d=>ak (aC d) N | none=>true
def IV(N:Nat)(c:Code):Bool:=fS (motive:=fun _=>Bool) true (fun _ ops _=>ops.toList.all fun o=>kf N o.dst) (fun _ _ a b=>a&&b) (fun _ _ _ a b=>a&&b) (fun _ _ a=>a) (fun _ a=>a) (fun _ ps _ _ a b=>(ps.toList.all fun p=>kf N (some p))&&(a&&b)) (fun _=>true) (fun _ a=>a) (fun _=>true) (fun _=>true) true (fun _=>true) c
def rsL(l:List ResultVar):List Nat:=l.map fun r=>match r with | .tmp t=>t | .cell t _=>t
abbrev Ora:=FuncId->Option (Bx (List A->Tr B->Po->Nat->Option R))
def fbD(P:Program)(imp:FuncId->Bool)(f:FuncId):Bx (Ih->Nat->List A->Tr B->Po->Option R):=match P.funcs[f]? with
 |none=>⟨fun _ _ _ _ _=>none⟩
 |some fn=>match fn.body with
  |none=>⟨fun _ _ _ _ _=>none⟩
  |some c=>bif imp f then⟨fun ih lv args h n=>Bx.casesOn (CW P true (bit (need c (orN (rsL fn.results.toList) 0))) c) fun k=>bd (k ih lv (dO args 0 .lf) h n) fun r=>Ex.casesOn r.e (bd (OD P fn.results.toList r.m r.h) fun vs=>rz (one vs) r.h r.n) (fun _=>none) (bd (OD P fn.results.toList r.m r.h) fun vs=>rz (one vs) r.h r.n)⟩
   else⟨fun ih lv args h n=>Bx.casesOn (CW P true (bit (need c (orN (rsL fn.results.toList) 0))) c) fun k=>bd (k ih (aC lv) (dO args 0 .lf) h n) fun r=>Ex.casesOn r.e (bd (OD P fn.results.toList r.m r.h) fun vs=>rz (one vs) (TN lv r.h 100000 vs h) r.n) (fun _=>none) (bd (OD P fn.results.toList r.m r.h) fun vs=>rz (one vs) (TN lv r.h 100000 vs h) r.n)⟩
def fnD(P:Program)(imp:FuncId->Bool)(ora:Ora)(f:FuncId):Bx (Ih->Nat->List A->Tr B->Po->Option R):=match ora f with
 |some o=>Bx.casesOn o fun o=>Bx.casesOn (fbD P imp f) fun k=>⟨fun ih lv args h n=>aT (o args h n lv) (k ih lv args h n) some⟩
 |none=>fbD P imp f
def go(P:Program)(imp:FuncId->Bool)(ora:Ora)(met:TypeId->String->Option FuncId)(k:Nat):Ih:=eF (fun _=>none) (fun _ ih t=>Tk.casesOn (motive:=fun _=>Option R) t
 (fun lv f args h n=>Bx.casesOn (fnD P imp ora f) fun k=>k ih lv args h n)
 (fun lv l args h n=>bd (h.get l) fun b=>match b.o with
  |.lp m X ps as body=>bd (QDm ps args m) fun m=>Bx.casesOn (CW P false X as) fun f=>bd (f ih lv m h n) fun r=>Ex.casesOn r.e (bd (r.h.get l) fun b2=>(match b2.o with
   |.lp _ _ _ _ _=>Bx.casesOn (CW P false X body) fun f=>bd (f ih lv r.m (r.h.put none l) r.n) fun r2=>Ex.casesOn r2.e (rz (.b true) (r2.h.put (some b2) l) r2.n) (fun _=>none) none
   |_=>none)) (fun _=>none) none
  |_=>none)
 (fun lv T name args h n=>bd (met T name) fun f=>Bx.casesOn (fnD P imp ora f) fun k=>k ih lv args h n)) k
end
end Go.Ev
namespace Go.Ev
theorem QX{α β:Type}{o:Option α}{k:α->Option β}{b:β}(h:bd o k=some b):∃a,o=some a/\k a=some b:=by
 cases o with
 |none=>cases h
 |some a=>exact⟨a,rfl,h⟩
theorem Q5{β:Type}{c:Bool}{k:Option β}{b:β}(h:gu c k=some b):c=true/\k=some b:=by
 cases c with
 |false=>cases h
 |true=>trivial
theorem X6{α:Type}(b:Bool)(x y:α):cn b x y=if b then x else y:=by cases b<;>rfl
theorem Bx.co{α β:Type}(b:Bx α)(k:α->β):(Bx.casesOn b k:β)=k b.f:=by rfl
theorem Po.n_o(p:Po):(Po.o p).n=2*p.n:=rfl
theorem Po.n_i(p:Po):(Po.i p).n=2*p.n+1:=rfl
theorem Po.cM(p:Po):p.s.n=p.n+1:=by
 induction p with
 |h=>rfl
 |o p ih=>rfl
 |i p ih=>show(Po.o p.s).n=_;grind[n_o,n_i]
theorem Po.eq_eq:∀ {p q:Po},Po.eq p q=true->p=q:=by
 intro p
 induction p with
 |h=>intro q h;cases q with
  |h=>rfl
  |o q=>cases h
  |i q=>cases h
 |o p ih=>intro q h;cases q with
  |h=>cases h
  |o q=>rw[ih h]
  |i q=>cases h
 |i p ih=>intro q h;cases q with
  |h=>cases h
  |o q=>cases h
  |i q=>rw[ih h]
noncomputable def Po.u (p:Po):Nat:=Po.rec 0 (fun _ ih=>2*ih) (fun _ ih=>2*ih+1) p
theorem QAb:∀(f t:Nat),t<=f->(poF f t).u=t
 |0,t,h=>by cases (show t=0 by omega);rfl
 |f+1,t,h=>by
  unfold poF;rw[X6,X6];have e1:bg t 1=t/2:=bQ t 1;have e2:eV t 1=t%2:=by simp
  rw[e1,e2];split
  ·rename_i h0;have:=ah h0;subst this;rfl
  ·have ih:=QAb f (t/2) (by omega);split
   ·rename_i h1;have:=ah h1;show 2*(poF f _).u=t;omega
   ·have:t%2≠0:=by simp_all
    show 2*(poF f _).u+1=t;omega
theorem vi{s t:Nat}(h:po s=po t):s=t:=by
 have:=congrArg Po.u h;unfold po at this<;>simp_all[QAb,ar]
section
variable{α:Type}
theorem Tr.jz(p:Po):Tr.get p (.lf:Tr α)=none:=by
 induction p with
 |h=>rfl
 |o p ih=>exact ih
 |i p ih=>exact ih
theorem Tr.O8(x:Option α):∀(p:Po) (t:Tr α),Tr.get p (Tr.put x p t)=x:=by
 intro p
 induction p with
 |h=>intro t;rfl
 |o p ih=>intro t;exact ih t.l
 |i p ih=>intro t;exact ih t.r
theorem Tr.UJ(x:Option α):∀ {p q:Po} (t:Tr α),q≠p->Tr.get q (Tr.put x p t)=Tr.get q t:=by
 intro p
 induction p with
 |h=>intro q t h;cases q with
  |h=>trivial
  |o q=>rfl
  |i q=>rfl
 |o p ih=>intro q t h;cases q with
  |h=>rfl
  |o q=>exact ih t.l (fun e=>h (by rw[e]))
  |i q=>rfl
 |i p ih=>intro q t h;cases q with
  |h=>rfl
  |i q=>exact ih t.r (fun e=>h (by rw[e]))
  |o q=>rfl
theorem Tr.KK(x:Option α){p q:Po}{t:Tr α}{a:α}(h:Tr.get q (Tr.put x p t)=some a):(q=p/\x=some a)\/(q≠p/\Tr.get q t=some a):=by
 by_cases e:q=p
 ·subst e;rw[O8]at h<;>simp_all
 grind[UJ]
end
end Go.Ev
namespace Go.Ev
structure Pl where
 Y1:Nat
 B1:Nat
 size:Nat
abbrev Be:=Po->Option Pl
def GK(l:List Nat):ByteArray:=⟨(l.map aF).toArray⟩
def RH(l:List Nat):Bool:=l.all fun c=>ak c 255
def Pl.at(p:Pl)(off:Nat):Addr:=⟨p.Y1,p.B1+off,none⟩
mutual
def V(β:Be):A->Option Value
 |.i k n=>some (.int k n)
 |.b x=>some (.bool x)
 |.s l=>if RH l then some (.string (GK l))else none
 |.k v=>some v
 |.p n off=>(β n).map fun p=>.pointer (some (p.at off))
 |.l n off len cap=>(β n).map fun p=>.slice (some (p.at off)) len cap
 |.o n off len sz=>(β n).bind fun p=>if len<=(p.size-(p.B1+off))/sz then some (.slice (some (p.at off)) len ((p.size-(p.B1+off))/sz))else none
 |.m n=>(β n).map fun p=>.map (some p.Y1)
 |.f fn l=>(Vs β l).map fun l=>.func (.func fn) #[] l.toArray
 |.y n=>(β n).map fun p=>.func (.yield p.Y1) #[] #[]
 |.g l=>(Vs β l).map fun l=>.agg l.toArray
 |.t l=>(Vs β l).map fun l=>.tuple l.toArray
 |.xi T a=>(V β a).map fun v=>.iface T v
def Vs(β:Be):List A->Option (List Value)
 |[]=>some []
 |a::l=>match V β a,Vs β l with
  |some v,some r=>some (v::r)
  |_,_=>none
end
def Be.le(β β':Be):Prop:=∀q p,β q=some p->β' q=some p
theorem Be.le_refl(β:Be):Be.le β β:=fun _ _ h=>h
theorem map_le{β β':Be}(h:Be.le β β'){n:Po}{f:Pl->Value}{v:Value}(e:(β n).map f=some v):(β' n).map f=some v:=by
 cases hn:β n with
 |none=>simp_all
 |some p=>rw[h n p hn];simp_all
theorem QEf{β β':Be}(h:Be.le β β'){n:Po}{f:Pl->Option Value}{v:Value}(e:(β n).bind f=some v):(β' n).bind f=some v:=by
 cases hn:β n with
 |none=>simp_all
 |some p=>rw[h n p hn];simp_all
theorem XI{β:Be}{a:A}{l:List A}{vs:List Value}(h:Vs β (a::l)=some vs):∃v r,V β a=some v/\Vs β l=some r/\vs=v::r:=by
 unfold Vs at h
 grind
theorem Vk{β:Be}{a:A}{l:List A}{v:Value}{r:List Value}(h:V β a=some v)(k:Vs β l=some r):Vs β (a::l)=some (v::r):=by
 grind[Vs]
mutual
theorem IF{β β':Be}(h:Be.le β β'):∀(a:A) (v:Value),V β a=some v->V β' a=some v
 |.i _ _,_,e=>e
 |.b _,_,e=>e
 |.s _,_,e=>e
 |.k _,_,e=>e
 |.p _ _,_,e=>map_le h e
 |.l _ _ _ _,_,e=>map_le h e
 |.o _ _ _ _,_,e=>QEf h e
 |.m _,_,e=>map_le h e
 |.y _,_,e=>map_le h e
 |.f _ l,_,e=>by
  unfold V at e ⊢;obtain⟨r,h1,h2⟩:=Option.map_eq_some_iff.1 e;rw[Ch h l r h1];exact congrArg some h2
 |.g l,_,e=>by
  unfold V at e ⊢;obtain⟨r,h1,h2⟩:=Option.map_eq_some_iff.1 e;rw[Ch h l r h1];exact congrArg some h2
 |.t l,_,e=>by
  unfold V at e ⊢;obtain⟨r,h1,h2⟩:=Option.map_eq_some_iff.1 e;rw[Ch h l r h1];exact congrArg some h2
 |.xi T a,_,e=>by
  unfold V at e ⊢;obtain⟨r,h1,h2⟩:=Option.map_eq_some_iff.1 e;rw[IF h a r h1];exact congrArg some h2
theorem Ch{β β':Be}(h:Be.le β β'):∀(l:List A) (vs:List Value),Vs β l=some vs->Vs β' l=some vs
 |[],_,e=>e
 |a::l,vs,e=>by
  obtain⟨v,r,h1,h2,rfl⟩:=XI e;exact Vk (IF h a v h1) (Ch h l r h2)
end
theorem Kw{β:Be}:∀ {l:List A} {vs:List Value},Vs β l=some vs->vs.length=l.length
 |[],vs,h=>by cases h;rfl
 |a::l,vs,h=>by obtain⟨v,r,_,h2,rfl⟩:=XI h;simp[Kw h2]
theorem P2{β:Be}:∀ {l l':List A} {vs vs':List Value},Vs β l=some vs->Vs β l'=some vs'->Vs β (l++l')=some (vs++vs')
 |[],_,vs,_,h,k=>by cases h;exact k
 |a::l,_,vs,_,h,k=>by obtain⟨v,r,h1,h2,rfl⟩:=XI h;simp_all[Vk,P2]
theorem Uf{β:Be}:∀ {l:List A} {vs:List Value} {i:Nat} {a:A},Vs β l=some vs->l[i]?=some a->∃v,vs[i]?=some v/\V β a=some v
 |[],vs,i,v,h,k=>by cases k
 |a::l,vs,i,b,h,k=>by
  obtain⟨u,r,h1,h2,rfl⟩:=XI h;cases i with
  |zero=>simp_all
  |succ i=>have:=Uf h2 (by trivial);trivial
theorem TL{β:Be}:∀(n:Nat) {l:List A} {vs:List Value},Vs β l=some vs->Vs β (l.drop n)=some (vs.drop n)
 |0,_,_,h=>h
 |n+1,[],vs,h=>by cases h;rfl
 |n+1,a::l,vs,h=>by obtain⟨u,r,h1,h2,rfl⟩:=XI h;exact TL n h2
theorem MZ{β:Be}:∀(n:Nat) {l:List A} {vs:List Value},Vs β l=some vs->Vs β (l.take n)=some (vs.take n)
 |0,l,vs,h=>by rfl
 |n+1,[],vs,h=>by cases h;rfl
 |n+1,a::l,vs,h=>by obtain⟨u,r,h1,h2,rfl⟩:=XI h;simp_all[Vk,MZ]
def Sl(X:Nat->Bool)(β:Be)(m:Tr A)(ts:Array Value):Prop:=∀t a,X t=true->m.get (po t)=some a->∃v,V β a=some v/\ts[t]?=some v
theorem Sl.le{X:Nat->Bool}{β β':Be}{m:Tr A}{ts:Array Value}(h:Sl X β m ts)(k:Be.le β β'):Sl X β' m ts:=fun t a hX ha=>by
 obtain⟨v,h1,h2⟩:=h t a hX ha;grind[IF]
def En(β:Be):List (A×A×Nat)->List MapEntry->Prop
 |[],[]=>True
 |(k,v,b)::r,e::es=>V β k=some e.key/\V β v=some e.val/\e.born=b/\En β r es
 |_,_=>False
theorem En.le{β β':Be}(h:Be.le β β'):∀ {l:List _} {es:List _},En β l es->En β' l es
 |[],[],_=>trivial
 |(_,_,_)::_,_::_,⟨h1,h2,h3,h4⟩=>⟨IF h _ _ h1,IF h _ _ h2,h3,En.le h h4⟩
def Oo(β:Be)(p:Pl)(o:Obj):O->Prop
 |.c l T op=>∃c vs,o = .cells c T (0,0)/\c.size=p.size/\Vs β l=some vs/\(∀i v,vs[i]?=some v->c[p.B1+i]?=some v)/\p.B1+l.length<=p.size/\(op=false->p.B1=0/\l.length=p.size)/\p.B1=0
 |.r l _=>∃c T fr vs,o = .cells c T fr/\c.size=p.size/\Vs β l=some vs/\(∀i v,vs[i]?=some v->c[p.B1+i]?=some v)/\p.B1+l.length<=p.size
 |.m es ck=>∃ents,o = .map ents ck/\En β es ents.toList
 |.si l pos=>RH l=true/\o = .stringIter (GK l) pos/\p.B1=0
 |.mi q since seen last=>p.B1=0/\∃pq,β q=some pq/\o = .mapIter (some pq.Y1) since seen.reverse.toArray last
 |.lp m X ps as body=>∃r:Loop,o = .loop r/\r.state = .ready/\r.pending=none/\r.params=ps.toArray/\r.assign=as/\r.body=body/\Sl X β m r.tmps/\IV r.tmps.size (.rangeFunc (.const (.bool true)) r.params as body)=true
theorem Oo.le{β β':Be}(h:Be.le β β'){p:Pl}{o:Obj}:∀ {x:O},Oo β p o x->Oo β' p o x
 |.c _ _ _,⟨c,vs,h1,h2,h3,h4⟩=>⟨c,vs,h1,h2,Ch h _ _ h3,h4⟩
 |.r _ _,⟨c,T,fr,vs,h1,h2,h3,h4⟩=>⟨c,T,fr,vs,h1,h2,Ch h _ _ h3,h4⟩
 |.m _ _,⟨e,h1,h2⟩=>⟨e,h1,h2.le h⟩
 |.si _ _,k=>k
 |.mi _ _ _ _,⟨h0,pq,h1,h2⟩=>⟨h0,pq,h _ _ h1,h2⟩
 |.lp _ _ _ _ _,⟨r,h1,h2,h3,h4,h5,h6,h7,h8⟩=>⟨r,h1,h2,h3,h4,h5,h6,h7.le h,h8⟩
def Ob(β:Be)(h:Tr B)(w:World):Prop:=∀q b,h.get q=some b->∃p o,β q=some p/\w.heap[p.Y1]?=some o/\Oo β p o b.o
structure Ok(β:Be)(h:Tr B)(n:Po)(w:World):Prop where
 ob:∀q b,h.get q=some b->∃p o,β q=some p/\w.heap[p.Y1]?=some o/\Oo β p o b.o
 inj:∀q q' b b' p p',h.get q=some b->h.get q'=some b'->β q=some p->β q'=some p'->p.Y1=p'.Y1->q=q'
 top:∀q:Po,n.n<=q.n->β q=none
theorem Ok.lt{β:Be}{h:Tr B}{n:Po}{w:World}(k:Ok β h n w){q:Po}{b:B}(hq:h.get q=some b){p:Pl}(hp:β q=some p):p.Y1<w.heap.size:=by
 obtain⟨p',o,h1,h2,_⟩:=k.ob q b hq
 grind
theorem Ok.nm{β:Be}{h:Tr B}{n:Po}{w:World}(k:Ok β h n w){q:Po}{b:B}(hq:h.get q=some b):q.n<n.n:=by
 obtain⟨p,o,h1,_⟩:=k.ob q b hq;rcases aX q.n n.n with g | g
 ·exact g
 ·rw[k.top q g]at h1;cases h1
structure Mv(lv:Nat)(β:Be)(h:Tr B)(n:Po)(w:World)(β':Be)(h':Tr B)(n':Po)(w':World):Prop where
 le:n.n<=n'.n
 old:∀q:Po,q.n<n.n->β' q=β q
 ok:Ok β' h' n' w'
 os:w'.os=w.os
 tape:w'.tape=w.tape
 out:w'.output=w.output
 drawn:True
 size:w.heap.size<=w'.heap.size
 fr:∀b,b<w.heap.size->(∀q c p,h.get q=some c->lv<=c.lv->β q=some p->p.Y1≠b)->w'.heap[b]?=w.heap[b]?
 src:∀q c p,h'.get q=some c->β' q=some p->p.Y1<w.heap.size->∃q0 c0 p0,h.get q0=some c0/\β q0=some p0/\p0.Y1=p.Y1/\(lv<=c.lv->lv<=c0.lv)
 yh:∀K,lv<=K->(∀q c,h.get q=some c->c.lv<=K)->∀q c,h'.get q=some c->c.lv<=K
theorem Mv.be{lv:Nat}{β β':Be}{h h':Tr B}{n n':Po}{w w':World}(k:Mv lv β h n w β' h' n' w')(hk:Ok β h n w):Be.le β β':=fun q p e=>by
 rcases aX q.n n.n with g | g
 ·rw[k.old q g];exact e
 ·rw[hk.top q g]at e;cases e
theorem Mv.refl{lv:Nat}{β:Be}{h:Tr B}{n:Po}{w:World}(k:Ok β h n w):Mv lv β h n w β h n w :=
 ⟨ar _,fun _ _=>rfl,k,rfl,rfl,rfl,trivial,ar _,fun _ _ _=>rfl,fun q c p h1 h2 _=>⟨q,c,p,h1,h2,rfl,id⟩,fun _ _ h=>h⟩
theorem Mv.trans{lv:Nat}{β1 β2 β3:Be}{h1 h2 h3:Tr B}{n1 n2 n3:Po}{w1 w2 w3:World}(a:Mv lv β1 h1 n1 w1 β2 h2 n2 w2)(b:Mv lv β2 h2 n2 w2 β3 h3 n3 w3):Mv lv β1 h1 n1 w1 β3 h3 n3 w3 where
 le:=aR a.le b.le
 old:=fun q hq=>(b.old q (aA hq a.le)).trans (a.old q hq)
 ok:=b.ok
 os:=b.os.trans a.os
 tape:=b.tape.trans a.tape
 out:=b.out.trans a.out
 drawn:=trivial
 size:=aR a.size b.size
 fr:=fun x hx hh=>by
  rw[b.fr x (aA hx a.size) ?_,a.fr x hx hh];intro q c p hq hc hp e;obtain⟨q0,c0,p0,g1,g2,g3,g4⟩:=a.src q c p hq hp (by omega)
  grind
 src:=fun q c p hq hp hb=>by
  obtain⟨q1,c1,p1,g1,g2,g3,g4⟩:=b.src q c p hq hp (aA hb a.size);obtain⟨q0,c0,p0,k1,k2,k3,k4⟩:=a.src q1 c1 p1 g1 g2 (by omega)
  grind
 yh:=fun K hK h=>b.yh K hK (a.yh K hK h)
end Go.Ev
namespace Go.Ev
open Go.RowKit
theorem QCg(β:Be)(v:Value):V β (gA v)=some v:=by
 unfold gA;split
 ·rfl
 ·rfl
 ·rename_i s;have h1:RH (s.data.toList.map eH)=true:=by
   unfold RH;rw[aB];intro c hc;obtain⟨b,_,rfl⟩:=List.mem_map.1 hc;have:=b.toNat_lt
   grind[aD]
  unfold V;unfold GK;have:(aF∘eH)=id:=by funext c;simp
  simp_all
 ·rfl
theorem La(β:Be):∀l:List Value,Vs β (l.map gA)=some l
 |[]=>rfl
 |v::l=>Vk (QCg β v) (La β l)
theorem QCh(β:Be)(v:Value):V β (ofV v)=some v:=by
 unfold ofV;split
 ·unfold V;rw[La];rfl
 ·unfold V;rw[La];rfl
 simp[QCg]
theorem A.Ck{a:A}{q:Po×Nat}(h:a.P=some q):a = .p q.1 q.2:=by
 cases a<;>simp[A.P]at h
 grind
theorem A.QCk{a:A}{n:Nat}(h:a.N=some n):∃k,a = .i k (.ofNat n):=by
 cases a<;>simp[A.N]at h;rename_i k m;cases m<;>simp_all
theorem A.QJo{a:A}{q:IntKind×Int}(h:a.I=some q):a = .i q.1 q.2:=by
 cases a<;>simp[A.I]at h
 grind
theorem A.QHx{a:A}{t:Bool}(h:a.B=some t):a = .b t:=by
 cases a<;>simp[A.B]at h;rw[h]
theorem A.dX{a:A}{l:List Nat}(h:a.S=some l):a = .s l:=by
 cases a<;>simp[A.S]at h;rw[h]
theorem A.QHs{a:A}{l:List A}(h:a.G=some l):a = .g l:=by
 cases a<;>simp[A.G]at h;rw[h]
theorem A.QK3{a:A}{l:List A}(h:a.T=some l):a = .t l:=by
 cases a<;>simp[A.T]at h;rw[h]
theorem A.QEq{a:A}{n:Po}(h:a.M=some n):a = .m n:=by
 cases a<;>simp[A.M]at h;rw[h]
theorem O.QC6{o:O}{c:List A×TypeId×Bool}(h:o.C=some c):o = .c c.1 c.2.1 c.2.2:=by
 cases o<;>simp[O.C]at h
 grind
theorem O.QLH{o:O}{l:List A}(h:o.D=some l):(∃T op,o = .c l T op)\/∃T,o = .r l T:=by
 cases o<;>simp[O.D]at h
 all_goals simp_all
theorem qp{β:Be}{n:Po}{off:Nat}{v:Value}(h:V β (.p n off)=some v):∃p,β n=some p/\v = .pointer (some (p.at off)):=by
 obtain⟨p,h1,h2⟩:=Option.map_eq_some_iff.1 h;simp_all
theorem V_l{β:Be}{n:Po}{off len cap:Nat}{v:Value}(h:V β (.l n off len cap)=some v):∃p,β n=some p/\v = .slice (some (p.at off)) len cap:=by
 obtain⟨p,h1,h2⟩:=Option.map_eq_some_iff.1 h;simp_all
theorem V_o{β:Be}{n:Po}{off len sz:Nat}{v:Value}(h:V β (.o n off len sz)=some v):∃p,β n=some p/\len<=(p.size-(p.B1+off))/sz/\v = .slice (some (p.at off)) len ((p.size-(p.B1+off))/sz):=by
 obtain⟨p,h1,h2⟩:=Option.bind_eq_some_iff.1 h;simp_all
theorem Ci{β:Be}{n:Po}{off len sz:Nat}{p:Pl}(h:β n=some p)(k:len<=(p.size-(p.B1+off))/sz):V β (.o n off len sz)=some (.slice (some (p.at off)) len ((p.size-(p.B1+off))/sz)):=by
 unfold V;simp_all
theorem V_m{β:Be}{n:Po}{v:Value}(h:V β (.m n)=some v):∃p,β n=some p/\v = .map (some p.Y1):=by
 obtain⟨p,h1,h2⟩:=Option.map_eq_some_iff.1 h;simp_all
theorem V_y{β:Be}{n:Po}{v:Value}(h:V β (.y n)=some v):∃p,β n=some p/\v = .func (.yield p.Y1) #[] #[]:=by
 obtain⟨p,h1,h2⟩:=Option.map_eq_some_iff.1 h;simp_all
theorem V_g{β:Be}{l:List A}{v:Value}(h:V β (.g l)=some v):∃vs,Vs β l=some vs/\v = .agg vs.toArray:=by
 obtain⟨p,h1,h2⟩:=Option.map_eq_some_iff.1 h;simp_all
theorem V_t{β:Be}{l:List A}{v:Value}(h:V β (.t l)=some v):∃vs,Vs β l=some vs/\v = .tuple vs.toArray:=by
 obtain⟨p,h1,h2⟩:=Option.map_eq_some_iff.1 h;simp_all
theorem V_f{β:Be}{f:FuncId}{l:List A}{v:Value}(h:V β (.f f l)=some v):∃vs,Vs β l=some vs/\v = .func (.func f) #[] vs.toArray:=by
 obtain⟨p,h1,h2⟩:=Option.map_eq_some_iff.1 h;simp_all
theorem zK{β:Be}{l:List Nat}{v:Value}(h:V β (.s l)=some v):RH l=true/\v = .string (GK l):=by
 unfold V at h;simp_all
theorem TU{β:Be}{k:IntKind}{n:Int}{v:Value}(h:V β (.i k n)=some v):v = .int k n:=(aa h).symm
theorem V_b{β:Be}{t:Bool}{v:Value}(h:V β (.b t)=some v):v = .bool t:=(aa h).symm
theorem xk{β:Be}{u v:Value}(h:V β (.k u)=some v):v=u:=(aa h).symm
theorem QDs{a b:List Nat}(h:RH a=true)(k:RH b=true):RH (a++b)=true:=by
 unfold RH at *;simp_all
theorem QBV{a:List Nat}(n:Nat)(h:RH a=true):RH (a.take n)=true:=by
 grind[RH,aB,List.mem_of_mem_take]
theorem QBW{a:List Nat}(n:Nat)(h:RH a=true):RH (a.drop n)=true:=by
 grind[RH,aB,List.mem_of_mem_drop]
theorem qm{β:Be}{l:List Nat}(h:RH l=true):V β (.s l)=some (.string (GK l)):=by unfold V;simp_all
theorem AV:∀(k:Nat) (l:List A),CA k l=l[k]?
 |0,[]=>rfl
 |0,a::l=>rfl
 |k+1,[]=>rfl
 |k+1,a::l=>by exact AV k l
theorem AU{n:Nat}:∀ {k:Nat} {l r:List A},O9 n k l=some r->k+n<=l.length/\r=(l.drop k).take n
 |0,l,r,h=>by
  have:O9 n 0 l=(bif ak n _ then some _ else none):=rfl
  grind[ak,ae,aa]
 |k+1,[],r,h=>by cases h
 |k+1,a::l,r,h=>by
  have:=AU (l:=l) h
  grind
theorem OU{vs:List A}:∀ {k:Nat} {l r:List A},putAt vs k l=some r->k+vs.length<=l.length/\r=l.take k++vs++l.drop (k+vs.length)
 |0,l,r,h=>by
  have:putAt vs 0 l=(bif ak _ _ then some _ else none):=rfl;cases hb:ak vs.length l.length<;>simp_all
 |k+1,[],r,h=>by cases h
 |k+1,a::l,r,h=>by
  have h':=h;obtain⟨q,h1,h2⟩:=QX h';have:=OU h1
  grind
theorem QDM(n:Int):QIJ n=IntKind.i64.wrap n:=by
 cases n with
 |ofNat m =>
  show(bif ak m 9223372036854775807 then bO m else IntKind.i64.wrap _)=_;cases hb:ak m 9223372036854775807 with
  |false=>rfl
  |true =>
   have:=ae hb
   grind[ee]
 |negSucc m =>
  show(bif ak m 9223372036854775807 then Int.negSucc m else IntKind.i64.wrap _)=_;cases hb:ak m 9223372036854775807 with
  |false=>grind
  |true =>
   have:=ae hb
   grind[ee]
theorem QFf(n:Int):wru n=IntKind.u64.wrap n:=by
 cases n<;>rfl
theorem Lg(k:IntKind)(n:Int):wr k n=k.wrap n:=by
 cases k<;>first | exact QDM n | exact QFf n | rfl
theorem Mj(a b:Int):cY a b=decide (a<b):=by
 cases a with
 |ofNat a=>cases b with
  |ofNat b =>
   show ak _ b=_;cases h:ak _ b with
   |true=>have:=ae h;grind
   |false=>grind[decide_eq_false_iff_not,ak,aD]
  |negSucc b=>rfl
 |negSucc a=>cases b with
  |ofNat b=>symm;show decide _=true;grind
  |negSucc b =>
   show ak _ a=_;cases h:ak _ a with
   |true=>have:=ae h;grind
   |false=>grind[decide_eq_false_iff_not,ak,aD]
theorem eqI_eq(a b:Int):eqI a b=(a==b):=by
 cases a with
 |ofNat a=>cases b with
  |ofNat b =>
   show ao a b=_;cases h:ao a b with
   |true=>simp_all
   |false=>symm;rw[beq_eq_false_iff_ne];intro e;injection e with e;simp_all
  |negSucc b=>rfl
 |negSucc a=>cases b with
  |ofNat b=>rfl
  |negSucc b =>
   show ao a b=_;cases h:ao a b with
   |true=>simp_all
   |false=>symm;rw[beq_eq_false_iff_ne];intro e;simp_all
theorem QHb(a b:Int):adI a b=a+b:=by cases a<;>cases b<;>rfl
theorem QBb(a b:Int):muI a b=a*b:=by cases a<;>cases b<;>rfl
theorem eqL_eq:∀ {a b:List Nat},eqL a b=true->a=b
 |[],[],_=>rfl
 |[],_::_,h=>by cases h
 |_::_,[],h=>by cases h
 |a::l,b::r,h=>by
  have h':cn _ _ false=true:=h;rw[X6]at h';split at h'
  ·rename_i e;rw[ah e,eqL_eq h']
  trivial
theorem eqL_ne:∀ {a b:List Nat},eqL a b=false->a≠b
 |[],[],h,_=>by cases h
 |[],_::_,_,e=>by cases e
 |_::_,[],_,e=>by cases e
 |a::l,b::r,h,e=>by
  have h':cn _ _ false=false:=h;rw[X6]at h';injection e with e1 e2;subst e1;rw[if_pos (bz a)]at h';exact eqL_ne h' e2
theorem pE{a b:List Nat}(ha:RH a=true)(hb:RH b=true)(h:GK a=GK b):a=b:=by
 unfold GK at h;have key:∀ {a b:List Nat},RH a=true->RH b=true->a.map aF=b.map aF->a=b:=by
  intro a
  induction a with
  |nil=>simp
  |cons x a ih=>intro b ha hb h;cases b with
   |nil=>cases h
   |cons y b =>
    injection h with h1 h2;unfold RH at ha hb;rw[bB,aq]at ha hb;have hx:=ae ha.1;have hy:=ae hb.1;have h3:=congrArg eH h1;rw[bm,bm]at h3;rw[bj (by omega),bj (by omega)]at h3;rw[h3,ih ha.2 hb.2 h2]
 grind
theorem VC(l:List Nat):(GK l).size=l.length:=by simp[GK,ByteArray.size]
theorem QDR(a b:List Nat):GK a++GK b=GK (a++b):=by
 unfold GK;apply bL;simp
end Go.Ev
namespace Go.Ev
open Go.RowKit
theorem YW{a b:IntKind}(h:zu a b=true):a=b:=by cases a<;>cases b<;>first | rfl | cases h
section
variable{P:Program}{β:Be}
theorem z6{op:BinOp}{T:TypeId}{k k':IntKind}{a b:Int}{x y:Operand}{r:A}(hk:(QJC op||zu k k')=true)(h:(QJg op).f k a b=some r):
  ∃v,V β r=some v/\∀w,(do eqGuard op T x y (.int k a) (.int k' b);binOp op T (.int k a) (.int k' b):Sem Value).run P w = .ok v w:=by
 have gd:∀w,(eqGuard op T x y (.int k a) (.int k' b)).run P w = .ok () w:=fun w=>by cases op<;>rfl
 cases op with
 |shl =>
  cases b with
  |ofNat b =>
   cases aa h;refine⟨_,rfl,fun w=>?_⟩;rw[ai,gd,af,Lg,QBb];rfl
  |negSucc b=>cases h
 |shr =>
  cases b with
  |ofNat b =>
   cases aa h;refine⟨_,rfl,fun w=>?_⟩;rw[ai,gd,af];have e:(bO b).toNat=b:=rfl;have e2:¬(bO b<0):=by simp
   simp only[binOp,Op.shift,if_neg e2,e,ax];congr 2;cases a with
   |ofNat a =>
    show Int.fdiv (a:Int) _=bO (a/2^(min b _))
    grind
   |negSucc a=>rfl
  |negSucc b=>cases h
 |add =>
  have:=YW hk;cases aa h;exact⟨_,rfl,fun w=>by simp_all[ai,af,Lg,QHb,binOp,eQ]⟩
 |sub =>
  have:=YW hk;subst this;cases aa h;exact⟨_,rfl,fun w=>by rw[ai,gd,af,Lg];simp[binOp,eQ];rfl⟩
 |mul =>
  have:=YW hk;cases aa h;exact⟨_,rfl,fun w=>by simp_all[ai,af,Lg,QBb,binOp,eQ]⟩
 |quo =>
  have:=YW hk;have h':(bif eqI b 0 then none else some _)=some r:=h;cases hb:eqI b 0 with
  |true=>simp_all
  |false =>
   rw[hb]at h';cases aa h';have hne:b≠0:=by grind[eqI_eq]
   exact⟨_,rfl,fun w=>by simp_all[ai,af,Lg,binOp,Op.intDiv]⟩
 |rem =>
  have:=YW hk;have h':(bif eqI b 0 then none else some _)=some r:=h;cases hb:eqI b 0 with
  |true=>simp_all
  |false =>
   rw[hb]at h';cases aa h';have hne:b≠0:=by grind[eqI_eq]
   exact⟨_,rfl,fun w=>by simp_all[ai,af,binOp,Op.intDiv]⟩
 |and =>
  have:=YW hk;cases aa h;refine⟨_,rfl,fun w=>?_⟩;have e:QHZ k a b=k.wrap (aZ _ a &&& aZ k.bits b).toNat:=by
   unfold QHZ;split
   ·rename_i x y;show bO ((x &&& y)%18446744073709551616)=_;show _=IntKind.u64.wrap ((fT 64 x &&& fT 64 y).toNat:Int);rw[BitVec.toNat_and,fk,fk,<-Nat.and_mod_two_pow];generalize x &&& y=q;exact congrArg _ (Nat.mod_mod q 18446744073709551616).symm
   ·rfl
  simp_all[binOp,fG]
 |or =>
  have:=YW hk;cases aa h;exact⟨_,rfl,fun w=>by simp_all[ai,af,binOp,fG]⟩
 |xor =>
  have:=YW hk;cases aa h;exact⟨_,rfl,fun w=>by simp_all[ai,af,binOp,fG]⟩
 |andNot=>cases h
 |eql =>
  have:=YW hk;cases aa h;exact⟨_,rfl,fun w=>by simp_all[ai,af,eqI_eq,binOp,eC]⟩
 |neq =>
  have:=YW hk;subst this;cases aa h;exact⟨_,rfl,fun w=>by rw[ai,gd,af,eqI_eq];simp[binOp,eC];rfl⟩
 |lss =>
  have:=YW hk;cases aa h;exact⟨_,rfl,fun w=>by simp_all[ai,af,Mj,binOp,eC]⟩
 |gtr =>
  have:=YW hk;cases aa h;exact⟨_,rfl,fun w=>by simp_all[ai,af,Mj,binOp,eC]⟩
 |leq =>
  have:=YW hk;subst this;cases aa h;exact⟨_,rfl,fun w=>by rw[ai,gd,af,Mj];simp[binOp,eC];grind⟩
 |geq =>
  have:=YW hk;subst this;cases aa h;exact⟨_,rfl,fun w=>by rw[ai,gd,af,Mj];simp[binOp,eC];grind⟩
theorem pF{a b:List Nat}(ha:RH a=true)(hb:RH b=true):(GK a==GK b)=eqL a b:=by
 show((GK a).data==(GK b).data)=_
 grind[eqL,eqL_eq,beq_eq_false_iff_ne,eqL_ne,pE,bL]
theorem zV{a b:List Nat}(ha:RH a=true)(hb:RH b=true):((GK a).toList==(GK b).toList)=eqL a b:=by
 rw[eY,eY];cases he:eqL a b with
 |true=>grind[eqL_eq]
 |false=>rw[beq_eq_false_iff_ne];exact fun e=>eqL_ne he (pE ha hb (bL (Array.toList_inj.1 e)))
def FR(v:Value):Bool:=match v with | .bool _ | .slice _ _ _ | .pointer _ | .func _ _ _ | .nilFunc | .nilIface | .agg _=>true | _=>false
theorem eq1_ok{T:TypeId}{a b:A}{va vb:Value}{t:Bool}(h:(eq1 P T).f a b=some t)(ha:V β a=some va)(hb:V β b=some vb):
  va.oneCell'=true/\vb.oneCell'=true/\isAgg P T=some false/\(∀d w,(aV (d+1) T va vb).run P w = .ok t w)/\((FR va=true/\FR vb=true)\/(∃k n k' n',a = .i k n/\b = .i k' n')\/(∃l l',a = .s l/\b = .s l')):=by
 unfold eq1 at h;split at h
 ·rename_i k hu;replace h:eqIn a b=some t:=h;unfold eqIn at h;split at h
  ·rw[X6]at h;split at h
   ·rename_i hk;have:=YW hk;subst this;cases aa h;rw[TU ha,TU hb];refine⟨rfl,rfl,by simp[isAgg,hu,kK,bd],fun d w=>?_,.inr (.inl ⟨_,_,_,_,rfl,rfl⟩)⟩;rw[eqI_eq];simp[aV,run_underlying hu]
   grind
  grind
 ·rename_i hu;replace h:eqSt a b=some t:=h;unfold eqSt at h;split at h
  ·rename_i l1 l2;obtain⟨k1,rfl⟩:=zK ha;obtain⟨k2,rfl⟩:=zK hb;refine⟨rfl,rfl,by simp[isAgg,hu,kK,bd],fun d w=>?_,.inr (.inr ⟨_,_,rfl,rfl⟩)⟩;have:(GK l1==GK l2)=t:=(pF k1 k2).trans (aa h);simp[aV,run_underlying hu,this]
  grind
 ·rename_i hu;replace h:eqBl a b=some t:=h;unfold eqBl at h;split at h
  ·rename_i b1 b2;cases aa h;rw[V_b ha,V_b hb];exact⟨rfl,rfl,by simp[isAgg,hu,kK,bd],fun d w=>by simp[aV,run_underlying hu],.inl ⟨rfl,rfl⟩⟩
  grind
 grind
theorem eqFs_ok{xs ys:List A}{us vs:List Value}(hx:Vs β xs=some us)(hy:Vs β ys=some vs)(d:Nat):∀(fs:List Field) (t:Bool),eqFs P fs xs ys=some t->∀w,
  (forIn (m:=Sem) fs ((none:Option Bool),()) (fun f _=>if f.name ≠ "_" then do
    let a <-part f.type us.toArray f.offset;let b <-part f.type vs.toArray f.offset;let c <-aV (d+1) f.type a b
    if(!c)=true then pure (ForInStep.done (some false,()))else pure (fj (none,()))
   else pure (fj (none,())))).run P w = .ok (if t then(none,())else(some false,())) w
 |[],t,h,w=>by cases aa h;rfl
 |f::fs,t,h,w=>by
  have h':=h;obtain⟨hn,h'⟩:=Q5 h';obtain⟨x,h1,h'⟩:=QX h';obtain⟨y,h2,h'⟩:=QX h';obtain⟨e,h3,h'⟩:=QX h';rw[AV]at h1 h2;obtain⟨u,k1,k2⟩:=Uf hx h1;obtain⟨v,k3,k4⟩:=Uf hy h2;obtain⟨_,_,g1,g2,_⟩:=eq1_ok h3 k2 k4;have hn':f.name ≠ "_" := by simp_all
  have hagg:(fv f.type).run P w = .ok false w:=by
   obtain⟨dd,hd,g1⟩:=QX g1;unfold fv;rw[ai,run_underlying hd w];have:=aa g1;cases dd<;>first | rfl | cases this
  have p1:(part f.type us.toArray f.offset).run P w = .ok u w:=by
   simp_all[part,ai]
  have p2:(part f.type vs.toArray f.offset).run P w = .ok v w:=by
   simp_all[part,ai]
  rw[List.forIn_cons,ai];simp only[ne_eq,hn',not_false_eq_true,if_true,ai,p1,p2,af,g2 d w];cases e with
  |true =>
   exact eqFs_ok hx hy d fs t h' w
  |false =>
   cases aa (show some false=some t from h')<;>rfl
theorem eqD_ok{T:TypeId}{a b:A}{va vb:Value}{t:Bool}(h:(eqD P T).f a b=some t)(ha:V β a=some va)(hb:V β b=some vb):
    (∀w,(fX T va vb).run P w = .ok t w)/\((∃x,va = .agg x)->P.eqGuardType P.depth T=false)/\((FR va=true/\FR vb=true)\/(∃k n k' n',a = .i k n/\b = .i k' n')\/(∃l l',a = .s l/\b = .s l')):=by
  obtain⟨d,d1,hd1,e0⟩:∃d d1,d1=d+1/\∀va vb w,(fX T va vb).run P w=(aV (d1+1) T va vb).run P w:=⟨9998,9999,rfl,fun _ _ _=>rfl⟩;have one:(eq1 P T).f a b=some t->(∀w,(fX T va vb).run P w = .ok t w)/\((∃x,va = .agg x)->P.eqGuardType P.depth T=false)/\((FR va=true/\FR vb=true)\/(∃k n k' n',a = .i k n/\b = .i k' n')\/(∃l l',a = .s l/\b = .s l')):=fun h=>by
    obtain⟨h1,h2,h3,h4,h5⟩:=eq1_ok h ha hb;exact⟨fun w=>(e0 _ _ w).trans (h4 d1 w),(fun⟨x,hx⟩=>(by subst hx;cases h1)),h5⟩
  unfold eqD at h;split at h
  · rename_i e hu
    replace h:eqSl a b=some t:=h;unfold eqSl at h;split at h<;>first
      | (cases h;done)
      | (cases aa h
         first
           | rw[xk ha]at * | (obtain⟨p,_,rfl⟩:=V_l ha) | (obtain⟨p,_,_,rfl⟩:=V_o ha)
         first
           | rw[xk hb]at * | (obtain⟨p2,_,rfl⟩:=V_l hb) | (obtain⟨p2,_,_,rfl⟩:=V_o hb)
         exact⟨fun w=>by rw[e0];simp[aV,run_underlying hu],(fun⟨x,hx⟩=>by cases hx),.inl ⟨rfl,rfl⟩⟩)
  · rename_i e hu
    rw[X6]at h;split at h
    case isFalse=>cases h
    rename_i hi;obtain⟨ji,hji⟩:=Option.isSome_iff_exists.1 hi;replace h:eqPt a b=some t:=h;unfold eqPt at h;split at h<;>first
      | (cases h;done)
      | (cases aa h
         first
           | rw[xk ha]at * | (obtain⟨p,_,rfl⟩:=qp ha)
         first
           | rw[xk hb]at * | (obtain⟨p2,_,rfl⟩:=qp hb)
         exact⟨fun w=>by rw[e0];simp[aV,run_underlying hu],(fun⟨x,hx⟩=>by cases hx),.inl ⟨rfl,rfl⟩⟩)
      | skip
    rename_i n o n' o';rw[X6]at h;split at h
    · rename_i e1
      rw[X6]at h;split at h
      · rename_i e2
        cases aa h;have:=Po.eq_eq e1;subst this;have:=ah e2;subst this;obtain⟨p,h1,rfl⟩:=qp ha;obtain⟨p2,h2,rfl⟩:=qp hb;rw[h1]at h2;cases h2;refine⟨fun w=>?_,(fun⟨x,hx⟩=>by cases hx),.inl ⟨rfl,rfl⟩⟩;rw[e0];by_cases hz:ji.size=0<;>simp[aV,run_underlying hu,sizeOf,typeInfo,hji,hz,sameAddr]
      grind
    grind
  · rename_i hu
    replace h:eqFn a b=some t:=h;unfold eqFn at h;split at h<;>first
      | (cases h;done)
      | (cases aa h
         first
           | rw[xk ha]at * | (obtain⟨p,_,rfl⟩:=V_f ha)
         first
           | rw[xk hb]at * | (obtain⟨p2,_,rfl⟩:=V_f hb)
         exact⟨fun w=>by rw[e0];simp[aV,run_underlying hu],(fun⟨x,hx⟩=>by cases hx),.inl ⟨rfl,rfl⟩⟩)
  · rename_i hu
    replace h:eqIf a b=some t:=h;unfold eqIf at h;split at h<;>first
      | (cases h;done)
      | (cases aa h
         rw[xk ha,xk hb]at *
         exact⟨fun w=>by rw[e0];simp[aV,run_underlying hu],(fun⟨x,hx⟩=>by cases hx),.inl ⟨rfl,rfl⟩⟩)
  · rename_i fs hu
    rw[X6]at h;split at h
    · rename_i hs
      rw[aq,eE,eE]at hs;obtain⟨xs,h1,h⟩:=QX h;obtain⟨ys,h2,h⟩:=QX h;have:=A.QHs h1;subst this;have:=A.QHs h2;subst this;obtain⟨us,k1,rfl⟩:=V_g ha;obtain⟨vs,k2,rfl⟩:=V_g hb;refine⟨fun w=>?_,fun _=>hs.2,.inl ⟨rfl,rfl⟩⟩;rw[e0];unfold aV;simp only[ai,run_underlying hu,af];have e1:(program:Sem Program).run P w = .ok P w:=rfl;rw[e1,af,if_neg (by simp_all),ai,<-Array.forIn_toList];subst hd1;have hF:=eqFs_ok (P:=P) k1 k2 d fs.toList t (show eqFs P fs.toList xs ys=some t from by assumption) w;refine(congrArg (fun r=>Result.andThen r _) hF).trans ?_;cases t<;>rfl
    grind
  simp_all
theorem dS{a:A}(h:V β a=some .nilIface):a = .k .nilIface:=by
 cases a with
 |k u=>rw[xk h]
 |i _ _=>cases TU h
 |b _=>cases V_b h
 |s _=>obtain⟨_,e⟩:=zK h;cases e
 |p _ _=>grind[qp]
 |l _ _ _ _=>grind[V_l]
 |o _ _ _ _=>grind[V_o]
 |m _=>grind[V_m]
 |f _ _=>grind[V_f]
 |y _=>grind[V_y]
 |g _=>grind[V_g]
 |t _=>grind[V_t]
 |xi T a =>
  unfold V at h;simp_all
theorem QDW{T:TypeId}{op:BinOp}{a b r:A}{va vb:Value}{x y:Operand}(h:bin P T op a b=some r)(ha:V β a=some va)(hb:V β b=some vb)
  (hg:ifG a (isC x||isC y)=true):∃v,V β r=some v/\∀w,(do eqGuard op T x y va vb;binOp op T va vb:Sem Value).run P w = .ok v w:=by
 by_cases hi:∃k n k' n',a = .i k n/\b = .i k' n'
 ·obtain⟨k,n,k',n',rfl,rfl⟩:=hi;replace h:cn _ _ none=some r:=h;rw[X6]at h;split at h
  ·rename_i hk;rw[Bx.co]at h;rw[TU ha,TU hb];exact z6 hk h
  grind
 by_cases hs:∃l l',a = .s l/\b = .s l'
 ·obtain⟨l,l',rfl,rfl⟩:=hs;replace h:QHT op l l'=some r:=h;obtain⟨k1,rfl⟩:=zK ha;obtain⟨k2,rfl⟩:=zK hb;have gd:∀w,(eqGuard op T x y (.string (GK l)) (.string (GK l'))).run P w = .ok () w:=fun w=>by cases op<;>rfl
  unfold QHT at h;split at h
  ·obtain⟨hl,h⟩:=Q5 h;cases aa h;refine⟨_,qm (QDs k1 k2),fun w=>?_⟩;have hl:=ae hl;have h':¬(((GK l).size+(GK l').size:Nat):Int)>IntKind.i64.max:=by
    rw[VC,VC];have:IntKind.i64.max=9223372036854775807:=by decide
    grind[lim]
   rw[ai,gd,af];simp only[binOp,fw,if_neg h',QDR];rfl
  ·cases aa h;exact⟨_,rfl,fun w=>by simp_all[ai,af,zV,binOp,fw]⟩
  ·cases aa h;exact⟨_,rfl,fun w=>by simp_all[ai,af,zV,binOp,fw]⟩
  grind
 have hO:QHU P T op a b=some r:=by
  unfold bin at h
  grind
 have key:∀t,(eqD P T).f a b=some t->(op = .eql\/op = .neq)->∀w,(do eqGuard op T x y va vb;binOp op T va vb:Sem Value).run P w = .ok (.bool (if op = .eql then t else !t)) w:=by
  intro t ht hop w;obtain⟨h1,h2,h3⟩:=eqD_ok ht ha hb;rcases h3 with ⟨p1,p2⟩ | h3 | h3
  ·have gd:(eqGuard op T x y va vb).run P w = .ok () w:=by
    unfold eqGuard;rcases hop with rfl | rfl
    all_goals
     simp only[Bool.not_true,au,if_false,pure_bind];split
     ·have ha':a = .k .nilIface:=by
       exact dS ha
      subst ha';replace hg:(isC x||isC y)=true:=hg;rw[bF]at hg;unfold isC at hg;rcases hg with hg | hg
      ·obtain⟨v,rfl⟩:∃v,x = .const v:=by grind
       simp
      ·obtain⟨v,rfl⟩:∃v,y = .const v:=by grind
       simp
     all_goals simp_all
   rw[ai,gd,af];rcases hop with rfl | rfl
   ·cases va<;>cases p1<;>cases vb<;>cases p2<;>simp[binOp,h1]
   ·cases va<;>cases p1<;>cases vb<;>cases p2<;>simp[binOp,h1]
  all_goals trivial
 unfold QHU at hO;split at hO
 ·rw[Bx.co]at hO;obtain⟨t,h1,h2⟩:=QX hO;cases aa h2;exact⟨_,rfl,fun w=>key t h1 (.inl rfl) w⟩
 ·rw[Bx.co]at hO;obtain⟨t,h1,h2⟩:=QX hO;cases aa h2;exact⟨_,rfl,fun w=>key t h1 (.inr rfl) w⟩
 trivial
end
end Go.Ev
namespace Go.Ev
open Go.RowKit
section
variable{P:Program}{β:Be}{c:Lc}{st:List A}{m:Tr A}{ρ:Operand->Value}
theorem Pp:∀ {l:List _} {as:List A},HM c l st m=some as->(∀x∈l,∀a,ev c x st m=some a->V β a=some (ρ x))->Vs β as=some (l.map ρ)
 |[],as,h,_=>by cases aa h;rfl
 |x::l,as,h,hρ=>by
  obtain⟨a,h1,h⟩:=QX (show bd _ (fun a=>bd _ fun l=>some _)=some as from h);obtain⟨r,h2,h⟩:=QX h;cases aa h;exact Vk (hρ x (by simp) a h1) (Pp h2 fun y hy=>hρ y (by grind))
theorem OX:∀ {l:List _} {as:List _},parts c l st m=some as->(∀p∈l,∀a,ev c p.2 st m=some a->V β a=some (ρ p.2)) ->
  as.map (·.1)=l.map (·.1)/\Vs β (as.map (·.2))=some (l.map fun p=>ρ p.2)
 |[],as,h,_=>by cases aa h;trivial
 |x::l,as,h,hρ=>by
  obtain⟨a,h1,h⟩:=QX (show bd _ (fun a=>bd _ fun l=>some _)=some as from h);obtain⟨r,h2,h⟩:=QX h;cases aa h;obtain⟨k1,k2⟩:=OX h2 fun y hy=>hρ y (by simp[hy])<;>simp_all[Vk]
theorem Mu{T:TypeId}{z:List A}(h:Jw P T=some z):∃i v,P.info? T=some i/\i.zero=some v/\Vs β z=some v.cells.toList:=by
 obtain⟨i,h1,h⟩:=QX h;obtain⟨v,h2,h⟩:=QX h<;>grind[aa,La]
theorem GV{T:TypeId}{n:Nat}(h:M8 P T=some n):∃i,P.info? T=some i/\i.size=n:=by
 obtain⟨i,h1,h⟩:=QX h<;>simp_all[aa]
theorem vO{T e:TypeId}(h:GI P T=some e):P.underlying T=some (.slice e):=by
 obtain⟨d,h1,h⟩:=QX h<;>grind[aa]
theorem Ra{T:TypeId}{q:TypeId×Nat}(h:slS P T=some q):P.underlying T=some (.slice q.1)/\∃i,P.info? q.1=some i/\i.size=q.2:=by
 obtain⟨e,h1,h⟩:=QX h;obtain⟨s,h2,h⟩:=QX h<;>grind[aa,vO,GV]
theorem xA{T:TypeId}{f:Nat}{q:Nat×TypeId}(h:Z9 P T f=some q):∃fs x,P.underlying T=some (.struct fs)/\fs[f]?=some x/\x.offset=q.1/\x.type=q.2:=by
 obtain⟨d,h1,h⟩:=QX h;split at h
 ·obtain⟨x,h2,h⟩:=QX h<;>grind
 grind
theorem O6{T:TypeId}{g:Bool}(h:isAgg P T=some g)(w:World):(fv T).run P w = .ok g w:=by
 obtain⟨d,h1,h⟩:=QX h;unfold fv;rw[ai,run_underlying h1 w];have:=aa h;subst this;cases d<;>rfl
theorem Af{a:A}{v:Value}(h:V β a=some v)(hk:∀u,a = .k u->zP u=true):Vs β a.cells=some v.cells.toList:=by
 cases a with
 |g l=>obtain⟨vs,h1,rfl⟩:=V_g h<;>simp_all[A.cells,Value.cells]
 |k u=>have:=xk h;subst this;have:=hk _ rfl;cases v<;>first | trivial | rfl
 |i _ _=>rw[TU h];rfl
 |b _=>rw[V_b h];rfl
 |s l=>obtain⟨k,rfl⟩:=zK h;exact Vk h rfl
 |p _ _=>obtain⟨p,h1,rfl⟩:=qp h;exact Vk h rfl
 |l _ _ _ _=>obtain⟨p,h1,rfl⟩:=V_l h;exact Vk h rfl
 |o _ _ _ _=>obtain⟨p,h1,_,rfl⟩:=V_o h;exact Vk h rfl
 |m _=>obtain⟨p,h1,rfl⟩:=V_m h;exact Vk h rfl
 |f _ _=>obtain⟨p,h1,rfl⟩:=V_f h;exact Vk h rfl
 |y _=>obtain⟨p,h1,rfl⟩:=V_y h;exact Vk h rfl
 |t _=>obtain⟨p,h1,rfl⟩:=V_t h;exact Vk h rfl
 |xi T b =>
  have h0:=h;obtain⟨p,h1,rfl⟩:=Option.map_eq_some_iff.1 h0;exact Vk h rfl
theorem Fx:∀(l:List Value) (j k:Nat) (cs:Array Value),k+j+l.length<=cs.size ->
  (l.zipIdx j).foldl (fun cs (x:Value×Nat)=>cs.setIfInBounds (k+x.2) x.1) cs=(cs.toList.take (k+j)++l++cs.toList.drop (k+j+l.length)).toArray
 |[],j,k,cs,_=>by simp
 |x::l,j,k,cs,h=>by
  rw[List.zipIdx_cons,fI,Fx l _ k _ (by grind)];congr 1;apply fB;intro q;simp[Array.toList_setIfInBounds,ep,aH,bU,List.length_set,eu,List.length_cons,bN,eD,List.getElem?_set,List.getElem?_cons]
  grind
theorem xC{place:Nat->Option _}{place':Nat->Option _}(hp:∀i q,place i=some q->place' i=some q):∀ {ps:List _} {cs r:List A} {us vs:List Value} {pv:List _},
  fill place ps cs=some r->Vs β cs=some us->pv.map (·.1)=ps.map (·.1)->Vs β (ps.map (·.2))=some (pv.map (·.2))->(∀p∈ps,∀u,p.2 = .k u->zP u=true) ->
  ∃rs,Vs β r=some rs/\bK place' us.toArray pv=some rs.toArray
 |[],cs,r,us,vs,pv,h,hc,h1,h2,_=>by
  cases aa h;cases pv with
  |nil=>exact⟨us,hc,rfl⟩
  |cons _ _=>grind
 |p::ps,cs,r,us,vs,pv,h,hc,h1,h2,hk=>by
  obtain⟨q,g1,h⟩:=QX (show bd (place p.1) (fun q=>gu _ _)=some r from h);obtain⟨g2,h⟩:=Q5 h;obtain⟨cs',g3,h⟩:=QX h;cases pv with
  |nil=>grind
  |cons pv0 pv =>
   simp at h1;obtain⟨v,rr,k1,k2,k3⟩:=XI h2;injection k3 with k3 k4;subst k3;subst k4;have hcells:=Af k1 (hk p (by simp));have g2:=ah g2;have hsz:pv0.2.cells.size=q.2:=by rw[<-g2,<-Kw hcells];simp
   obtain⟨l1,l2⟩:=OU g3;have Ax:=Kw hc;have hVc:Vs β cs'=some (us.take q.1++pv0.2.cells.toList++us.drop (q.1+pv0.2.cells.toList.length)):=by
    grind[Kw,P2,MZ,TL]
   obtain⟨rs,r1,r2⟩:=xC (vs:=vs) hp h hVc h1.2 k2 fun x hx=>hk x (by grind);refine⟨rs,r1,?_⟩;unfold bK;have hpl:place' pv0.1=some q:=by grind
   have e:=Fx pv0.2.cells.toList 0 q.1 us.toArray (by simp_all);have e0:pv0.2.cells.zipIdx.foldl (fun cs (x:Value×Nat)=>cs.setIfInBounds (q.1+x.2) x.1) us.toArray=(pv0.2.cells.toList.zipIdx 0).foldl (fun cs (x:Value×Nat)=>cs.setIfInBounds (q.1+x.2) x.1) us.toArray:=by
    rw[<-fp];simp
   simp_all
end
end Go.Ev
namespace Go.Ev
open Go.RowKit
theorem A.QGH{a:A}(h:a.ok=true):∀u,a = .k u->zP u=true:=fun u e=>by subst e;exact h
section
variable{P:Program}{β:Be}{c:Lc}{st:List A}{m:Tr A}{ρ:Operand->Value}
def Pu(P:Program)(β:Be)(o:Op)(ρ:Operand->Value)(a:A):Prop:=∃v,V β a=some v/\∀w d ty pos aft gd,(execOp ρ ⟨d,o,ty,pos,aft,gd⟩).run P w = .ok (.value v) w
theorem Pl.Sx(p:Pl)(o k:Nat):(p.at o).add k=p.at (o+k):=by
 unfold Addr.add Pl.at<;>grind
theorem Ox{w:World}:∀ {fs:List Field},(∀f∈fs,(P.info? f.type).isSome=true) ->
  (fs.mapM (m:=Sem) fun f=>do let s <-sizeOf f.type;pure (f.offset,s)).run P w = .ok (fs.map fun f=>(f.offset,((P.info? f.type).map (·.size)).getD 0)) w
 |[],_=>rfl
 |f::fs,h=>by
  obtain⟨i,hi⟩:=Option.isSome_iff_exists.1 (h f (by simp));have ih:=Ox (w:=w) (fs:=fs) fun g hg=>h g (by grind);have e1:(sizeOf f.type).run P w = .ok i.size w:=by simp[sizeOf,typeInfo,hi]
  simp_all
theorem QCU{T:TypeId}{i:TypeInfo}{zv:Value}{z cs:List A}{l:List _}{pv:List _}(h0:QCX P T=true)(k1:P.info? T=some i)(k2:i.zero=some zv)(k3:Vs β z=some zv.cells.toList)
  (h:fill (jW P T) l z=some cs) (h1:pv.map (·.1)=l.map (·.1)) (h2:Vs β (l.map (·.2))=some (pv.map (·.2))) (hk:∀p∈l,∀u,p.2 = .k u->zP u=true) :
  ∃rs,Vs β cs=some rs/\∀w,(fe T pv.toArray).run P w = .ok (.agg rs.toArray) w:=by
 unfold QCX at h0;have ez:∀w,(zeroValue T).run P w = .ok zv w:=fun w=>by simp_all[zeroValue,typeInfo]
 split at h0
 ·rename_i fs hu;rw[aB]at h0;have hp:∀i q,jW P T i=some q->((fs.toList.map fun f=>(f.offset,((P.info? f.type).map (·.size)).getD 0)).toArray)[i]?=some q:=fun i q hq=>by
   obtain⟨d,e1,hq⟩:=QX hq;rw[hu]at e1;cases e1;obtain⟨x,e2,hq⟩:=QX hq;obtain⟨n,e3,hq⟩:=QX hq<;>grind[aa,xA,GV]
  obtain⟨rs,r1,r2⟩:=xC (vs:=[]) hp h k3 h1 h2 hk;refine⟨rs,r1,fun w=>?_⟩;have hm:=Ox (w:=w) (fun f hf=>h0 f hf);have hm':(fs.mapM (m:=Sem) fun f=>do let s <-sizeOf f.type;pure (f.offset,s)).run P w = .ok (fs.toList.map fun f=>(f.offset,((P.info? f.type).map (·.size)).getD 0)).toArray w:=by
   have:fs=fs.toList.toArray:=rfl;rw[this,List.mapM_toArray];simp only[Sem.run_map,hm];rfl
  unfold fe;simp[ai,ez,af,run_underlying hu];have r2':bK (fun x=>(List.map (fun f=>(f.offset,(fV (fun x=>x.size) (P.info? _)).getD 0)) fs.toList).toArray[x]?) _ _=some _:=r2;simp_all
 ·rename_i n e hu;obtain⟨sz,hsz⟩:=Option.isSome_iff_exists.1 h0;obtain⟨j,g5,g6⟩:=GV hsz;have hp:∀i q,jW P T i=some q->some (i*sz,sz)=some q:=fun i q hq=>by
   obtain⟨d,e1,hq⟩:=QX hq;rw[hu]at e1;cases e1;obtain⟨s,e2,hq⟩:=QX hq<;>simp_all
  obtain⟨rs,r1,r2⟩:=xC (vs:=[]) hp h k3 h1 h2 hk;refine⟨rs,r1,fun w=>?_⟩;have es:(sizeOf e).run P w = .ok sz w:=by simp_all[sizeOf,typeInfo]
  unfold fe;simp[ai,ez,af,run_underlying hu,es];simp_all
 trivial
theorem zU(l:List Nat)(i j:Nat):(GK l).extract i j=GK ((l.take j).drop i):=by
 apply bL;unfold GK;simp only[eT,List.extract_toArray,eW]
 grind
theorem pI{T:TypeId}(h:WE P T=true)(w:World):(underlying T).run P w = .ok .string w:=by
 grind[WE,run_underlying]
theorem QG8{T:TypeId}{x a:A}{i:Nat}{vx:Value}(h:(QHC P T).f x i=some a)(hx:V β x=some vx)(k:IntKind):
  ∃v,V β a=some v/\∀w,(ey T vx (.int k (.ofNat i))).run P w = .ok v w:=by
 unfold QHC at h;split at h
 ·rename_i e hu;split at h
  ·rename_i sz hs;obtain⟨j,g5,g6⟩:=GV hs;replace h:QG9 sz x i=some a:=h;unfold QG9 at h;split at h
   ·obtain⟨h1,h⟩:=Q5 h;cases aa h;obtain⟨p,hp,rfl⟩:=V_l hx;have h1:=ae h1;refine⟨_,by show(β _).map _=_;rw[hp];rfl,fun w=>?_⟩;simp[ey,asIntOf,run_underlying hu,sizeOf,typeInfo,g5,g6,Pl.Sx];omega
   ·obtain⟨h1,h⟩:=Q5 h;obtain⟨h3,h⟩:=Q5 h;cases aa h;obtain⟨p,hp,_,rfl⟩:=V_o hx;have h1:=ae h1;refine⟨_,by show(β _).map _=_;rw[hp];rfl,fun w=>?_⟩;simp[ey,asIntOf,run_underlying hu,sizeOf,typeInfo,g5,g6,Pl.Sx];omega
   grind
  grind
 ·rename_i len e hu;split at h
  ·rename_i sz hs;obtain⟨j,g5,g6⟩:=GV hs;obtain⟨q,h1,h⟩:=QX (show bd x.P (fun q=>gu _ _)=some a from h);obtain⟨h2,h⟩:=Q5 h;cases aa h;rw[A.Ck h1]at hx;obtain⟨p,hp,rfl⟩:=qp hx;have h2:=ae h2;refine⟨_,by show(β _).map _=_;rw[hp];rfl,fun w=>?_⟩;simp[ey,asIntOf,run_underlying hu,bJ,sizeOf,typeInfo,g5,g6,Pl.Sx];omega
  grind
 grind
def Bdd(n:Option Nat)(v:Option Value):Prop:=(n=none/\v=none)\/∃k i,n=some i/\v=some (.int k (.ofNat i))
theorem QCB{x:Option _}{n:Option Nat}(h:RD c x st m=some n)(hρ:∀y,x=some y->∀a,ev c y st m=some a->V β a=some (ρ y)):Bdd n (x.map ρ):=by
 unfold RD at h;split at h
 ·cases aa h;exact .inl ⟨rfl,rfl⟩
 ·rename_i y;obtain⟨a,h1,h⟩:=QX h;obtain⟨i,h2,h⟩:=QX h;cases aa h;obtain⟨k,e⟩:=A.QCk h2;rw[e]at h1;exact .inr ⟨k,i,rfl,by rw[eI,TU (hρ y rfl _ h1)]⟩
theorem Nq{s:Bool}{len cap:Nat}{n1 n2:Option Nat}{lo hi:Option Value}(h1:Bdd n1 lo)(h2:Bdd n2 hi)(k1:n1.getD 0<=n2.getD len)(k2:n2.getD len<=cap)(w:World):
  (fy s len cap lo hi none).run P w = .ok (n1.getD 0,n2.getD len,cap) w:=by
 rcases h1 with ⟨rfl,rfl⟩ | ⟨k,i,rfl,rfl⟩<;>rcases h2 with ⟨rfl,rfl⟩ | ⟨k',i',rfl,rfl⟩<;>simp at k1 k2
 all_goals simp_all[fy,Instr.sliceBound,asIntOf]
theorem QAl{T:TypeId}{n1 n2:Option Nat}{x a:A}{vx:Value}{lo hi:Option Value}(h:vN P T n1 n2 x=some a)(hx:V β x=some vx)(h1:Bdd n1 lo)(h2:Bdd n2 hi):
  ∃v,V β a=some v/\∀w,(bA T vx lo hi none).run P w = .ok v w:=by
 unfold vN at h;split at h
 ·obtain⟨k0,h⟩:=Q5 h;obtain⟨k1,h⟩:=Q5 h;obtain⟨k2,h⟩:=Q5 h;cases aa h;obtain⟨hl,rfl⟩:=zK hx;refine⟨_,qm (QBW _ (QBV _ hl)),fun w=>?_⟩;have hb:=Nq (P:=P) (s:=false) h1 h2 (ae k1) (ae k2) w;have hu:=pI k0 w;simp only[bA,ai,hu,af,eN,VC,hb];simp only[Option.isSome_none,au,if_false,pure_bind,ai,hb,af,ax,zU]
 ·rename_i q off len cap;obtain⟨e,k0,h⟩:=QX h;obtain⟨k1,h⟩:=Q5 h;obtain⟨k2,h⟩:=Q5 h;cases aa h;obtain⟨p,hp,rfl⟩:=V_l hx;obtain⟨hu,j,g5,g6⟩:=Ra k0;refine⟨_,by show(β _).map _=_;rw[hp];rfl,fun w=>?_⟩;have hb:=Nq (P:=P) (s:=true) h1 h2 (ae k1) (ae k2) w;have es:(sizeOf e.1).run P w = .ok e.2 w:=by simp_all[sizeOf,typeInfo]
  simp only[bA,ai,run_underlying hu,af,eN,hb,es,ax];rw[X6];by_cases hc:cap=n1.getD 0<;>simp_all[if_pos,bz,if_neg,ah,eI,Pl.Sx]
 ·rename_i q off len sz;obtain⟨e,k0,h⟩:=QX h;obtain⟨ks,h⟩:=Q5 h;obtain⟨k1,h⟩:=Q5 h;obtain⟨k2,h⟩:=Q5 h;obtain⟨k3,h⟩:=Q5 h;obtain⟨k4,h⟩:=Q5 h;cases aa h;obtain⟨p,hp,hle,rfl⟩:=V_o hx;obtain⟨hu,j,g5,g6⟩:=Ra k0;have ks:=ah ks;have k1:=ae k1;have k2:=ae k2;have k3:=ae k3;have k4:=ae k4;have ec:(p.size-(p.B1+(off+n1.getD 0*sz)))/sz=(p.size-(p.B1+off))/sz-n1.getD 0:=by
   rw[<-bT,<-Nat.sub_sub,Nat.mul_comm];exact Nat.sub_mul_div ..
  refine⟨_,Ci hp (by omega),fun w=>?_⟩;have hb:=Nq (P:=P) (s:=true) h1 h2 k1 (aR k2 hle) w;have es:(sizeOf e.1).run P w = .ok sz w:=by simp_all[sizeOf,typeInfo]
  simp only[bA,ai,run_underlying hu,af,eN,hb,es,ax,ec];rw[if_neg (by omega),eI,Pl.Sx]
 ·rename_i q off;obtain⟨d,k0,h⟩:=QX h;split at h
  ·rename_i len e;obtain⟨sz,ks,h⟩:=QX h;obtain⟨k1,h⟩:=Q5 h;obtain⟨k2,h⟩:=Q5 h;cases aa h;obtain⟨p,hp,rfl⟩:=qp hx;obtain⟨j,g5,g6⟩:=GV ks;refine⟨_,by show(β _).map _=_;rw[hp];rfl,fun w=>?_⟩;have hb:=Nq (P:=P) (s:=false) h1 h2 (ae k1) (ae k2) w;have es:(sizeOf e).run P w = .ok sz w:=by simp_all[sizeOf,typeInfo]
   simp only[bA,ai,run_underlying k0,af,bJ,hb,es,ax];congr 2;rw[X6];by_cases hc:len=n1.getD 0<;>simp_all[if_pos,bz,if_neg,ah,Pl.Sx]
  grind
 ·obtain⟨e,k0,h⟩:=QX h;obtain⟨k1,h⟩:=Q5 h;obtain⟨k2,h⟩:=Q5 h;cases aa h;have:=xk hx;subst this;obtain⟨hu,j,g5,g6⟩:=Ra k0;have k1:=ah k1;have k2:=ah k2;refine⟨_,rfl,fun w=>?_⟩;have hb:=Nq (P:=P) (s:=true) (len:=0) (cap:=0) h1 h2 (by omega) (by omega) w;have es:(sizeOf e.1).run P w = .ok e.2 w:=by simp_all[sizeOf,typeInfo]
  simp only[bA,ai,run_underlying hu,af,eN,hb,es,ax,k1,k2];rfl
 grind
theorem Mi{b:Builtin}{args:Array _}{ts:Array _}{vs:List Value}(hv:args.toList.map ρ=vs){d:Option Tmp}{ty:TypeId}{pos:String}{aft:Array Edge}{gd:Option _}:
  execOp ρ ⟨d,.call ⟨.builtin b,args,ts⟩,ty,pos,aft,gd⟩=builtin b ts ty (args.map fun | .const _=>true | _=>false) vs.toArray:=by
 subst hv;have:args.map ρ=(args.toList.map ρ).toArray:=by grind
 rw[<-this];rfl
theorem KD{vs:List Value}(h:Vs β []=some vs):vs=[]:=(aa h).symm
theorem QGg{args:Array _}{ts:Array _}{xs:List A}{a:A}(h:PZ .min xs=some a)(hv:Vs β xs=some (args.toList.map ρ)):Pu P β (.call ⟨.builtin .min,args,ts⟩) ρ a:=by
 unfold PZ at h;split at h
 ·cases aa h;obtain⟨v1,r1,g1,g2,g3⟩:=XI hv;obtain⟨v2,r2,g4,g5,rfl⟩:=XI g2;have:=KD g5;subst this;refine⟨_,rfl,fun w _ _ _ _ _=>?_⟩;rw[Mi g3,TU g1,TU g4,X6,Mj];simp[builtin,fL,fM]
 ·trivial
 ·cases aa h;obtain⟨v1,r1,g1,g2,g3⟩:=XI hv;obtain⟨v2,r2,g4,g5,rfl⟩:=XI g2;obtain⟨v3,r3,g6,g7,rfl⟩:=XI g5;have:=KD g7;subst this;refine⟨_,rfl,fun w _ _ _ _ _=>?_⟩;rw[Mi g3,TU g1,TU g4,TU g6,X6,X6,Mj,Mj];simp[builtin,fL,fM]
 all_goals trivial
theorem QGh{args:Array _}{ts:Array _}{xs:List A}{a:A}(h:PZ .max xs=some a)(hv:Vs β xs=some (args.toList.map ρ)):Pu P β (.call ⟨.builtin .max,args,ts⟩) ρ a:=by
 unfold PZ at h;split at h
 ·trivial
 ·cases aa h;obtain⟨v1,r1,g1,g2,g3⟩:=XI hv;obtain⟨v2,r2,g4,g5,rfl⟩:=XI g2;have:=KD g5;subst this;refine⟨_,rfl,fun w _ _ _ _ _=>?_⟩;rw[Mi g3,TU g1,TU g4,X6,Mj];simp[builtin,fN,fO]
 ·trivial
 ·cases aa h;obtain⟨v1,r1,g1,g2,g3⟩:=XI hv;obtain⟨v2,r2,g4,g5,rfl⟩:=XI g2;obtain⟨v3,r3,g6,g7,rfl⟩:=XI g5;have:=KD g7;subst this;refine⟨_,rfl,fun w _ _ _ _ _=>?_⟩;rw[Mi g3,TU g1,TU g4,TU g6,X6,X6,Mj,Mj];simp[builtin,fN,fO]
 all_goals trivial
theorem QHO{args:Array _}{ts:Array _}{xs:List A}{a:A}{e:TypeId}(hu:bd ts[0]? (GI P)=some e)(h:PZ .cap xs=some a)(hv:Vs β xs=some (args.toList.map ρ)):Pu P β (.call ⟨.builtin .cap,args,ts⟩) ρ a:=by
 obtain⟨t0,ht,hu⟩:=QX hu;have hu:=vO hu;unfold PZ at h;split at h
 ·trivial
 ·trivial
 ·trivial
 ·trivial
 ·cases aa h;obtain⟨v1,r1,g1,g2,g3⟩:=XI hv;obtain⟨p,hp,rfl⟩:=V_l g1;refine⟨_,rfl,fun w _ _ _ _ _=>?_⟩;rw[Mi g3]<;>simp_all[builtin,fP,run_underlying,goInt]
 ·cases aa h;obtain⟨v1,r1,g1,g2,g3⟩:=XI hv;have:=xk g1;refine⟨_,rfl,fun w _ _ _ _ _=>?_⟩;rw[Mi g3]<;>simp_all[builtin,fP,run_underlying,goInt]
 grind
theorem QFC{o:Op}{g:Bx Ac}{a:A}(h:C1 P c o=some g)(hg:g.f st m=some a)(hρ:∀x∈o.operands,∀a,ev c x st m=some a->V β a=some (ρ x)):Pu P β o ρ a:=by
 unfold C1 at h;split at h
 ·cases aa h;exact⟨_,hρ _ (by simp[aj]) a (by trivial),fun w _ _ _ _ _=>rfl⟩
 ·cases aa h;exact⟨_,hρ _ (by simp[aj]) a (by trivial),fun w _ _ _ _ _=>rfl⟩
 ·rename_i x y z;cases aa h;obtain⟨b,h1,hg⟩:=QX hg;obtain⟨t,h2,hg⟩:=QX hg;have:=A.QHx h2;subst this;have hx:=V_b (hρ x (by simp[aj]) _ h1);cases t with
  |true=>exact⟨_,hρ y (by simp[aj]) a hg,fun w _ _ _ _ _=>by simp[execOp,hx,asBool]⟩
  |false=>exact⟨_,hρ z (by simp[aj]) a hg,fun w _ _ _ _ _=>by simp[execOp,hx,asBool]⟩
 ·rename_i T ps;cases aa h;obtain⟨h0,hg⟩:=Q5 hg;obtain⟨z,h1,hg⟩:=QX hg;obtain⟨l,h2,hg⟩:=QX hg;obtain⟨h3,hg⟩:=Q5 hg;obtain⟨cs,h4,hg⟩:=QX hg;cases aa hg;obtain⟨i,zv,k1,k2,k3⟩:=Mu h1;obtain⟨p1,p2⟩:=OX h2 (fun p hp=>hρ p.2 (by simp only[aj,fC,fW];grind));rw[aB]at h3;obtain⟨rs,r1,r2⟩:=QCU (β:=β) h0 k1 k2 k3 (pv:=ps.toList.map fun p=>(p.1,ρ p.2)) h4 (by simp_all) (by simp_all) (fun p hp=>A.QGH (h3 p hp));refine⟨.agg rs.toArray,by unfold V<;>grind,fun w _ _ _ _ _=>?_⟩;have e:(ps.map fun(x:Nat×Operand)=>(x.1,ρ x.2))=(ps.toList.map fun p=>(p.1,ρ p.2)).toArray:=by grind
  have:=r2 w;rw[<-e]at this;simp only[execOp,ai];simp_all
 ·rename_i x;cases aa h;obtain⟨v,h1,hg⟩:=QX hg;obtain⟨h2,hg⟩:=Q5 hg;cases aa hg;have hx:=hρ x (by simp[aj]) _ h1;refine⟨_,hx,fun w _ _ _ _ _=>?_⟩;unfold okN at h2;split at h2
  ·obtain⟨p,_,e⟩:=qp hx;simp only[execOp,e];rfl
  ·obtain⟨p,_,e⟩:=V_f hx;simp only[execOp,e];rfl
  trivial
 ·rename_i op T x y yT;cases aa h;obtain⟨a1,h1,hg⟩:=QX hg;obtain⟨b1,h2,hg⟩:=QX hg;obtain⟨h3,hg⟩:=Q5 hg;obtain⟨v,k1,k2⟩:=QDW hg (hρ x (by simp[aj]) _ h1) (hρ y (by simp[aj]) _ h2) h3;refine⟨v,k1,fun w _ _ _ _ _=>?_⟩;have:=k2 w;simp only[execOp];simp only[ai]at this ⊢;simp_all
 ·rename_i T x;cases aa h;obtain⟨b,h1,hg⟩:=QX hg;obtain⟨t,h2,hg⟩:=QX hg;have:=A.QHx h2;subst this;cases aa hg;have hx:=V_b (hρ x (by simp[aj]) _ h1);exact⟨_,rfl,fun w _ _ _ _ _=>by simp[execOp,hx,Op.unary]⟩
 ·rename_i T x;cases aa h;obtain⟨b,h1,hg⟩:=QX hg;obtain⟨q,h2,hg⟩:=QX hg;have:=A.QJo h2;subst this;cases aa hg;have hx:=TU (hρ x (by simp[aj]) _ h1);refine⟨_,rfl,fun w _ _ _ _ _=>?_⟩;rw[Lg];simp[execOp,hx,Op.unary,eQ];rfl
 ·rename_i fn x y;cases aa h;obtain⟨h1,hg⟩:=Q5 hg;obtain⟨l,h2,hg⟩:=QX hg;cases aa hg;have:=Pp h2 fun z hz=>hρ z (by grind[aj]);have hx:x=#[]:=by simp_all
  subst hx;refine⟨.func (.func fn) #[] (y.toList.map ρ).toArray,by unfold V<;>simp_all,fun w _ _ _ _ _=>?_⟩;simp[execOp,Instr.makeFunc]
  grind
 ·rename_i T x lo hi;cases aa h;obtain⟨s,h1,hg⟩:=QX hg;obtain⟨av,h2,hg⟩:=QX hg;obtain⟨hv,h3,hg⟩:=QX hg;have hx:=hρ x (by simp[aj]) _ h1;have hlo:=QCB h2 (fun y hy=>hρ y (by grind[aj]));have hhi:=QCB h3 (fun y hy=>hρ y (by grind[aj]));obtain⟨v,k1,k2⟩:=QAl hg hx hlo hhi;refine⟨v,k1,fun w _ _ _ _ _=>?_⟩;have:=k2 w;simp only[execOp,ai,Option.map_none];simp_all
 ·rename_i T x f;cases aa h;obtain⟨s,h1,hg⟩:=QX hg;obtain⟨q,h2,hg⟩:=QX hg;obtain⟨fo,h3,hg⟩:=QX hg;obtain⟨z,h4,hg⟩:=QX hg;obtain⟨h5,hg⟩:=Q5 hg;cases aa hg;have:=A.Ck h2;subst this;obtain⟨p,hp,hx⟩:=qp (hρ x (by simp[aj]) _ h1);obtain⟨fs,fx,g1,g2,g3,g4⟩:=xA h3;obtain⟨j,g5,g6⟩:=GV h4;have h5:=ae h5;refine⟨.pointer (some (p.at (q.2+fo.1))),by show(β q.1).map _=_;simp_all,fun w _ _ _ _ _=>?_⟩;have es:(sizeOf fx.type).run P w = .ok z w:=by simp_all[sizeOf,typeInfo]
  have ea:(p.at q.2).add fx.offset=p.at (q.2+fo.1):=by grind[Pl.Sx]
  simp[execOp,hx,Instr.fieldAt,run_underlying g1,g2,bJ,fieldPlace,es,ea,show z≠0 by omega]
 ·rename_i T x f;cases aa h;obtain⟨s,h1,hg⟩:=QX hg;obtain⟨l,h2,hg⟩:=QX hg;obtain⟨fo,h3,hg⟩:=QX hg;obtain⟨ag,h4,hg⟩:=QX hg;have:=A.QHs h2;subst this;obtain⟨us,hus,hx⟩:=V_g (hρ x (by simp[aj]) _ h1);obtain⟨fs,fx,g1,g2,g3,g4⟩:=xA h3;have hagg:=O6 h4;rw[<-g4]at hagg;cases ag with
  |true =>
   obtain⟨z,h5,hg⟩:=QX (show bd (M8 P fo.2) (fun sz=>bd (O9 sz fo.1 l) fun l=>some (.g l))=some a from hg);obtain⟨r,h6,hg⟩:=QX hg;cases aa hg;obtain⟨j,g5,g6⟩:=GV h5;obtain⟨l1,l2⟩:=AU h6;have hr:Vs β r=some ((us.drop fo.1).take z):=by grind[MZ,TL]
   refine⟨.agg ((us.drop fo.1).take z).toArray,by unfold V<;>grind,fun w _ _ _ _ _=>?_⟩;have es:(sizeOf fx.type).run P w = .ok z w:=by simp_all[sizeOf,typeInfo]
   simp_all[eW,execOp,fZ,run_underlying,asAgg,part]
  |false =>
   have hg:=hg;rw[AV]at hg;obtain⟨v,k1,k2⟩:=Uf hus hg;refine⟨v,k2,fun w _ _ _ _ _=>?_⟩<;>simp_all[execOp,fZ,run_underlying,asAgg,part]
 ·rename_i T x y;cases aa h;obtain⟨s,h1,hg⟩:=QX hg;obtain⟨b,h2,hg⟩:=QX hg;obtain⟨i,h3,hg⟩:=QX hg;obtain⟨k,e⟩:=A.QCk h3;rw[e]at h2;have hx:=hρ x (by simp[aj]) _ h1;have hy:=TU (hρ y (by simp[aj]) _ h2);rw[Bx.co]at hg;obtain⟨v,k1,k2⟩:=QG8 hg hx k;refine⟨v,k1,fun w _ _ _ _ _=>?_⟩;have:=k2 w;simp only[execOp,hy,ai];simp_all
 ·rename_i T x y;cases aa h;obtain⟨h0u,hg⟩:=Q5 hg;have h0u:=pI h0u;obtain⟨s,h1,hg⟩:=QX hg;obtain⟨l,h2,hg⟩:=QX hg;obtain⟨b,h3,hg⟩:=QX hg;obtain⟨i,h4,hg⟩:=QX hg;obtain⟨ch,h5,hg⟩:=QX hg;cases aa hg;obtain⟨k,e⟩:=A.QCk h4;rw[e]at h3;rw[A.dX h2]at h1;obtain⟨hl,hx⟩:=zK (hρ x (by simp[aj]) _ h1);have hy:=TU (hρ y (by simp[aj]) _ h3);refine⟨_,rfl,fun w _ _ _ _ _=>?_⟩;have hlt:=(List.getElem?_eq_some_iff.1 h5).1;have hc:ak ch 255=true:=by grind[RH,aB,List.mem_of_getElem]
  have hc:=ae hc;have e5:(GK l)[i]?=some (aF ch):=by
   rw[getElem?_pos (GK l) i (by grind[VC])];congr 1;show(GK l).data[i]'_=_
   grind[GK]
  simp only[execOp,hx,hy];simp[Instr.index,asIntOf,h0u,e5];omega
 ·rename_i x i;cases aa h;obtain⟨s,h1,hg⟩:=QX hg;obtain⟨l,h2,hg⟩:=QX hg;rw[A.QK3 h2]at h1;obtain⟨us,hus,hx⟩:=V_t (hρ x (by simp[aj]) _ h1);rw[AV]at hg;obtain⟨v,k1,k2⟩:=Uf hus hg;refine⟨v,k2,fun w _ _ _ _ _=>?_⟩<;>simp_all[execOp,Instr.extract]
 ·rename_i T x;cases aa h;obtain⟨hT,hg⟩:=Q5 hg;obtain⟨b,h1,hg⟩:=QX hg;cases aa hg;have hx:=hρ x (by simp[aj]) _ h1;refine⟨.iface T (ρ x),by unfold V<;>grind,fun w _ _ _ _ _=>?_⟩;unfold QJD at hT;split at hT
  ·cases hT
  ·rename_i d hd hu;have hm:∀w,(fh T (ρ x)).run P w = .ok (.iface T (ρ x)) w:=fun w=>by
    unfold fh;rw[ai,run_underlying hu]<;>simp_all
   grind[execOp,ai,af,ax]
  trivial
 ·rename_i args ts;cases aa h;obtain⟨xs,h1,hg⟩:=QX hg<;>grind[Pp,aj,aS,QGg]
 ·rename_i args ts;cases aa h;obtain⟨xs,h1,hg⟩:=QX hg<;>grind[Pp,aj,aS,QGh]
 ·rename_i args ts;split at h
  ·rename_i e hu;cases aa h;obtain⟨xs,h1,hg⟩:=QX hg<;>grind[Pp,aj,aS,QHO]
  grind
 grind
end
end Go.Ev
namespace Go.Ev
open Go.RowKit
section
variable{P:Program}{β:Be}{c:Lc}{st:List A}{m:Tr A}{ρ:Operand->Value}{h:Tr B}{w:World}
theorem Ob.cell(k:Ob β h w){q:Po}{b:B}{l:List A}(hq:h.get q=some b)(hl:b.o.D=some l){p:Pl}(hp:β q=some p):
  ∃vs,Vs β l=some vs/\(∀i v,vs[i]?=some v->w.cell? (p.at i)=some v)/\(∃T n,w.shape? p.Y1=some (T,n)/\n=p.size):=by
 obtain⟨p',o,h1,h2,h3⟩:=k q b hq;rw[hp]at h1;cases h1;rcases O.QLH hl with ⟨T,op,e⟩ | ⟨T,e⟩
 ·rw[e]at h3;obtain⟨cs,vs,rfl,k2,k3,k4,_⟩:=h3;exact⟨vs,k3,fun i v hv=>by simp[eM,Pl.at,h2,k4 i v hv],T,cs.size,by simp[bW,h2],k2⟩
 ·rw[e]at h3;obtain⟨cs,U,fr,vs,rfl,k2,k3,k4,_⟩:=h3;exact⟨vs,k3,fun i v hv=>by simp[eM,Pl.at,h2,k4 i v hv],U,cs.size,by simp[bW,h2],k2⟩
theorem Py(k:Ob β h w){n:Po}{off len:Nat}{r:List A}(hr:cellsOf h n off len=some r){p:Pl}(hp:β n=some p):
  r.length=len/\∃vs,Vs β r=some vs/\∀j v,vs[j]?=some v->w.cell? ((p.at off).add j)=some v:=by
 obtain⟨b,h1,hr⟩:=QX hr;obtain⟨l,h2,hr⟩:=QX hr;obtain⟨vs,k1,k2,_⟩:=k.cell h1 h2 hp;obtain⟨l1,l2⟩:=AU hr;refine⟨by grind,(vs.drop off).take len,by grind[MZ,TL],fun j v hv=>?_⟩
 grind[Pl.Sx]
theorem yj(k:Ob β h w){T:TypeId}{n:Po}{off:Nat}{a:A}(ha:(uA P T).f h n off=some a){p:Pl}(hp:β n=some p):
  ∃v,V β a=some v/\(loadVar T (p.at off)).run P w = .ok v w:=by
 unfold uA at ha;split at ha
 ·rename_i sz h1 h2;obtain⟨r,h3,ha⟩:=QX (show bd _ (fun l=>some _)=some a from ha);cases aa ha;obtain⟨l1,vs,l2,l3⟩:=Py k h3 hp;obtain⟨j,g5,g6⟩:=GV h2;refine⟨.agg vs.toArray,by unfold V;simp_all,?_⟩;have hl:=run_loadCells_list (P:=P) w _ vs l3;rw[Kw l2,l1]at hl;have es:(sizeOf T).run P w = .ok sz w:=by simp_all[sizeOf,typeInfo]
  simp_all[loadVar,ai,O6,af,if_true,ax]
 ·obtain⟨b,h3,ha⟩:=QX (show bd (h.get n) (fun b=>bd b.o.D fun c=>CA off c)=some a from ha);obtain⟨l,h4,ha⟩:=QX ha;rw[AV]at ha;obtain⟨vs,k1,k2,_⟩:=k.cell h3 h4 hp;obtain⟨v,k3,k4⟩:=Uf k1 ha;simp_all[loadVar,O6]
 trivial
def Me1(P:Program)(β:Be)(w:World)(o:Op)(ρ:Operand->Value)(a:A):Prop:=∃v,V β a=some v/\∀d ty pos aft gd,(execOp ρ ⟨d,o,ty,pos,aft,gd⟩).run P w = .ok (.value v) w
theorem CF{kt:TypeId}{dk:TypeDesc}(hu:P.underlying kt=some dk)(hd:(∃k,dk = .int k)\/dk = .string){key:A}{vk:Value}(hk:V β key=some vk):∀ {es:List _} {ents:List _} {i:Nat} {r:Option _},
  qe (eq1 P kt).f key es i=some r->En β es ents->∃r',fR dk vk ents i=some r'/\(r=none/\r'=none\/∃j a v,r=some (j,a)/\r'=some (j,v)/\V β a=some v)
 |[],[],i,r,h,_=>by cases aa h;exact⟨none,rfl,.inl ⟨rfl,rfl⟩⟩
 |(k,v,b)::es,e::ents,i,r,h,⟨h1,h2,h3,h4⟩=>by
  obtain⟨t,g1,h⟩:=QX (show bd _ (fun t=>cn t _ _)=some r from h);have hs:fQ dk vk e.key=some t:=by
   unfold eq1 at g1;rw[hu]at g1;rcases hd with ⟨kk,rfl⟩ | rfl
   ·replace g1:eqIn key k=some t:=g1;unfold eqIn at g1;split at g1
    ·rw[X6]at g1;split at g1
     ·rename_i hs;cases aa g1;rw[TU hk,TU h1,YW hs,eqI_eq];simp[fQ]
     trivial
    trivial
   ·replace g1:eqSt key k=some t:=g1;unfold eqSt at g1;split at g1
    ·cases aa g1;obtain⟨s1,rfl⟩:=zK hk;obtain⟨s2,e2⟩:=zK h1;rw[e2,<-pF s1 s2];rfl
    trivial
  unfold fR;rw[hs];cases t with
  |true=>cases aa (show some _=some r from h);grind
  |false=>exact CF hu hd hk (show qe (eq1 P kt).f key es _=some r from h) h4
 |[],_::_,_,_,_,h=>h.elim
 |_::_,[],_,_,_,h=>h.elim
theorem p9{T:TypeId}{q:Bx _×TypeId}(h:cX P T=some q):∃kt dk,P.underlying T=some (.map kt q.2)/\P.underlying kt=some dk/\((∃k,dk = .int k)\/dk = .string)/\q.1=eq1 P kt:=by
 obtain⟨d,h1,h⟩:=QX h
 grind
theorem Sv{kt:TypeId}{dk:TypeDesc}(hu:P.underlying kt=some dk)(hd:(∃k,dk = .int k)\/dk = .string)(e:Bool)(v:Value):(fK e 10000 kt v).run P w = .ok () w:=by
 unfold fK;simp[ai,run_underlying hu,af];rcases hd with ⟨k,rfl⟩ | rfl<;>rfl
theorem QBf{T:TypeId}{r:Option _}{r':Option _}{a:A}(h:QFN P T r=some a)
  (hr:r=none/\r'=none\/∃j a v,r=some (j,a)/\r'=some (j,v)/\V β a=some v):∃v,V β a=some v/\r.isSome=r'.isSome/\((r'=none/\∀w,(zeroValue T).run P w = .ok v w)\/∃j,r'=some (j,v)):=by
 rcases hr with ⟨rfl,rfl⟩ | ⟨j,a',v,rfl,rfl,hv⟩
 ·obtain⟨i,k1,h⟩:=QX (show bd (P.info? T) (fun i=>bd _ fun v=>some _)=some a from h);obtain⟨zv,k2,h⟩:=QX h;cases aa h;exact⟨zv,QCh β zv,rfl,.inl ⟨rfl,fun w=>by simp_all[zeroValue,typeInfo]⟩⟩
 ·cases aa (show some a'=some a from h)<;>simp_all
theorem cZ(hm:Ob β h w){T:TypeId}{x y:Operand}{ok:Bool}{g:Bx Me}{a:A}(hg:jk P c (.lookup T x y ok)=some g)(ha:g.f st m h=some a)
  (hρ:∀z∈(Op.lookup T x y ok).operands,∀a,ev c z st m=some a->V β a=some (ρ z)):Me1 P β w (.lookup T x y ok) ρ a:=by
 unfold jk at hg;simp only at hg;split at hg
 ·cases hg
 ·rename_i q hq;obtain⟨kt,dk,u1,u2,u3,u4⟩:=p9 hq;obtain⟨eqf,et⟩:=q;subst u4;cases aa hg;obtain⟨a1,h1,ha⟩:=QX ha;obtain⟨n,h2,ha⟩:=QX ha;obtain⟨k,h3,ha⟩:=QX ha;obtain⟨b,h4,ha⟩:=QX ha;rw[A.QEq h2]at h1;obtain⟨p,hp,hx⟩:=V_m (hρ x (by simp[aj]) _ h1);have hy:=hρ y (by simp[aj]) _ h3;obtain⟨p',o,g1,g2,g3⟩:=hm n b h4;rw[hp]at g1;cases g1;split at ha
  ·rename_i es ck e;obtain⟨r,h5,ha⟩:=QX ha;obtain⟨v,h6,ha⟩:=QX ha;cases aa ha;rw[e]at g3;obtain⟨ents,rfl,g4⟩:=g3;obtain⟨r',k1,k2⟩:=CF u2 u3 hy h5 g4;obtain⟨vv,k3,k4,k5⟩:=QBf h6 k2;have hrun:(fU T (ρ x) (ρ y) ok).run P w = .ok (if ok then .tuple #[vv,.bool r'.isSome]else vv) w:=by
    unfold fU;have e2:(getObj p.Y1).run P w = .ok (.map ents ck) w:=by grind[getObj,bI]
    have e3:(eB kt (ρ y) ents.toList).run P w = .ok r' w:=by
     unfold eB;simp only[ai,run_underlying u2,af,k1];rfl
    simp only[ai,run_underlying u1,af,hx,e2,Sv u2 u3,e3,ax];rcases k5 with ⟨rfl,k5⟩ | ⟨j,rfl⟩
    all_goals simp_all
   refine⟨if ok then .tuple #[vv,.bool r'.isSome]else vv,?_,fun d ty pos aft gd=>?_⟩
   ·rw[X6];cases ok with
    |true =>
     have:=Vk k3 (Vk (a:=.b r.isSome) rfl (show Vs β []=some []from rfl));simp only[if_true];rw[<-k4];unfold V;simp_all
    |false=>exact k3
   ·simp only[execOp,ai];simp_all
  trivial
theorem QGk(hm:Ob β h w){args:Array _}{ts:Array _}{xs:List A}{x a:A}(hx:xs=[x])(ha:(QEB P ts).f h x=some a)(hv:Vs β xs=some (args.toList.map ρ)):Me1 P β w (.call ⟨.builtin .len,args,ts⟩) ρ a:=by
 subst hx;obtain⟨v1,r1,g1,g2,g3⟩:=XI hv;unfold QEB at ha;split at ha
 ·rename_i hu;obtain⟨t0,ht,hu⟩:=QX hu;obtain⟨l,h1,ha⟩:=QX (show bd x.S (fun l=>some _)=some a from ha);cases aa ha;rw[A.dX h1]at g1;obtain⟨_,rfl⟩:=zK g1;refine⟨_,rfl,fun d ty pos aft gd=>?_⟩;rw[Mi g3];simp_all[builtin,eX,run_underlying,goInt,VC]
 ·rename_i e hu;obtain⟨t0,ht,hu⟩:=QX hu;obtain⟨k,h1,ha⟩:=QX (show bd _ (fun k=>some _)=some a from ha);cases aa ha;have:∃b c,v1 = .slice b k c:=by
   unfold QBl at h1;split at h1
   ·cases aa h1;rw[xk g1];simp
   ·cases aa h1;obtain⟨p,_,rfl⟩:=V_l g1;simp
   ·cases aa h1;obtain⟨p,_,_,rfl⟩:=V_o g1;simp
   trivial
  obtain⟨b,c,rfl⟩:=this;refine⟨_,rfl,fun d ty pos aft gd=>?_⟩;rw[Mi g3];simp_all[builtin,eX,run_underlying,goInt]
 ·rename_i kt e hu;obtain⟨t0,ht,hu⟩:=QX hu;obtain⟨q,h1,ha⟩:=QX (show bd x.M (fun q=>bd (h.get q) fun b=>(match b.o with | .m es _=>some _ | _=>none))=some a from ha);obtain⟨b,h2,ha⟩:=QX ha;rw[A.QEq h1]at g1;obtain⟨p,hp,rfl⟩:=V_m g1;obtain⟨p',o,k1,k2,k3⟩:=hm q b h2;rw[hp]at k1;cases k1;split at ha
  ·rename_i es ck e;cases aa ha;rw[e]at k3;obtain⟨ents,rfl,k4⟩:=k3;have hl:es.length=ents.size:=by
    have:∀ {es:List _} {en:List _},En β es en->es.length=en.length:=by
     intro es
     induction es with
     |nil=>intro en h;cases en with
      |nil=>rfl
      |cons _ _=>trivial
     |cons x es ih=>intro en h;cases en with
      |nil=>trivial
      |cons y en=>simp[ih h.2.2.2]
    grind
   refine⟨_,rfl,fun d ty pos aft gd=>?_⟩;rw[Mi g3];simp_all[builtin,eX,run_underlying,goInt,getObj,bI]
  trivial
 trivial
end
end Go.Ev
namespace Go.Ev
open Go.RowKit
section
variable{P:Program}{β:Be}{c:Lc}{st:List A}{m:Tr A}{ρ:Operand->Value}{h:Tr B}{w:World}
theorem uE{e:Nat}:∀ {es:List _} {ents:List _} {y:A×A×Nat},En β es ents->es.find? (fun x=>ao x.2.2 e)=some y->∃en,ents.find? (fun x=>x.born==e)=some en/\V β y.1=some en.key/\V β y.2.1=some en.val
 |[],[],y,_,h=>by cases h
 |(k,v,b)::es,en::ents,y,⟨h1,h2,h3,h4⟩,h=>by
  rw[List.find?_cons]at h ⊢;have hb:(en.born==e)=ao b e:=by
   grind[ao,ah,beq_eq_false_iff_ne,bz]
  rw[hb];cases hh:ao b e with
  |true=>grind
  |false=>rw[hh]at h;exact uE h4 h
 |[],_::_,_,h,_=>h.elim
 |_::_,[],_,h,_=>h.elim
theorem QCC(hm:Ob β h w){x:Operand}{g:Bx Me}{a:A}(hg:jk P c (.entry x)=some g)(ha:g.f st m h=some a)
  (hρ:∀z∈(Op.entry x).operands,∀a,ev c z st m=some a->V β a=some (ρ z)):Me1 P β w (.entry x) ρ a:=by
 cases aa hg;obtain⟨a1,h1,ha⟩:=QX ha;obtain⟨q,h2,ha⟩:=QX ha;obtain⟨h0,ha⟩:=Q5 ha;obtain⟨b,h3,ha⟩:=QX ha;have h0:=ah h0;rw[A.Ck h2]at h1;obtain⟨p,hp,hx⟩:=qp (hρ x (by simp[aj]) _ h1);obtain⟨p',o,k1,k2,k3⟩:=hm q.1 b h3;rw[hp]at k1;cases k1;split at ha
 ·rename_i n since e seen last eb;rw[eb]at k3;obtain⟨hb0,pq,g1,rfl⟩:=k3;obtain⟨d,h4,ha⟩:=QX ha;obtain⟨p2,o2,g2,g3,g4⟩:=hm n d h4;rw[g1]at g2;cases g2;split at ha
  ·rename_i es ck ed;obtain⟨h5,ha⟩:=Q5 ha;obtain⟨y,h6,ha⟩:=QX ha;cases aa ha;rw[ed]at g4;obtain⟨ents,rfl,g5⟩:=g4;obtain⟨en,f1,f2,f3⟩:=uE g5 h6;have eat:p.at q.2=⟨p.Y1,0,none⟩:=by grind[Pl.at]
   refine⟨.tuple #[en.key,en.val],by unfold V;rw[Vk f2 (Vk f3 rfl)];rfl,fun d ty pos aft gd=>?_⟩;simp_all[execOp,Instr.entry,getObj,bI]
  trivial
 trivial
def uT(c:Nat):Value:=.int .u8 (c:Int)
theorem F8:∀ {l:List A} {bs:List Nat} {vs:List Value},dK l=some bs->Vs β l=some vs->RH bs=true/\vs=bs.map uT
 |[],bs,vs,h,k=>by cases aa h;cases aa k;trivial
 |a::l,bs,vs,h,k=>by
  obtain⟨v,r,h1,h2,rfl⟩:=XI k;obtain⟨c,k0,h⟩:=QX (show bd (byU a) (fun c=>gu _ _)=some bs from h);obtain⟨k1,h⟩:=Q5 h;obtain⟨q,k2,h⟩:=QX h;cases aa h;obtain⟨k3,rfl⟩:=F8 k2 h2;refine⟨by unfold RH at *;simp_all,?_⟩;unfold byU at k0;split at k0
  ·cases aa k0;rw[bS,TU h1];rfl
  trivial
theorem fold_push:∀(bs:List Nat) (acc:ByteArray),(bs.map fun(c:Nat)=>(c:Int)).foldl (fun r n=>r.push (aF n.toNat)) acc=⟨acc.data++(bs.map aF).toArray⟩
 |[],acc=>by simp
 |b::bs,acc=>by
  rw[bS,fI,fold_push bs];simp
theorem CK(hm:Ob β h w){sz:Nat}{x:A}{k:Nat}{vs:List A}{vx:Value}(h1:QBl x=some k)(h2:elems sz h x=some vs)(hx:V β x=some vx):
  (vs=[]/\vx = .slice none 0 0/\k=0)\/∃a cap us,vx = .slice (some a) k cap/\Vs β vs=some us/\vs.length=k*sz/\∀j v,us[j]?=some v->w.cell? (a.add j)=some v:=by
 unfold elems at h2;split at h2
 ·cases aa h2;cases aa (show some 0=some k from h1);exact .inl ⟨rfl,xk hx,rfl⟩
 ·cases aa (show some _=some k from h1);obtain⟨p,hp,rfl⟩:=V_l hx;obtain⟨g1,us,g2,g3⟩:=Py hm h2 hp;simp_all
 ·cases aa (show some _=some k from h1);obtain⟨p,hp,_,rfl⟩:=V_o hx;obtain⟨g1,us,g2,g3⟩:=Py hm h2 hp;simp_all
 trivial
theorem QEX(hm:Ob β h w){s d:TypeId}{x a:A}{vx:Value}(ha:(QCK P s d).f h x=some a)(hx:V β x=some vx):∃v,V β a=some v/\(convert s d vx).run P w = .ok v w:=by
 unfold QCK at ha;split at ha
 ·rename_i sd k h1 h2;obtain⟨q,h3,ha⟩:=QX (show bd x.I (fun q=>some _)=some a from ha);cases aa ha;rw[A.QJo h3]at hx;rw[TU hx];refine⟨_,rfl,?_⟩;rw[Lg];simp only[convert,ai,run_underlying h1,run_underlying h2,af];rfl
 ·rename_i e h1 h2;split at ha
  ·rename_i hu;obtain⟨k,h3,ha⟩:=QX (show bd _ (fun k=>bd _ fun l=>gu _ _)=some a from ha);obtain⟨l,h4,ha⟩:=QX ha;obtain⟨h5,ha⟩:=Q5 ha;obtain⟨bs,h6,ha⟩:=QX ha;cases aa ha;rcases CK hm h3 h4 hx with ⟨rfl,rfl,rfl⟩ | ⟨ad,cap,us,rfl,g1,g2,g3⟩
   ·cases aa (show some []=some bs from h6);refine⟨_,qm rfl,?_⟩;simp[convert,run_underlying h1,run_underlying h2,run_underlying hu,Conv.bytesToString];rfl
   ·obtain⟨k1,rfl⟩:=F8 h6 g1;refine⟨_,qm k1,?_⟩;have hl:=run_loadCells_list (P:=P) w ad _ g3;rw[eO]at hl;have hbl:bs.length=k:=by have:=Kw g1;simp_all
    rw[hbl]at hl;have hb:=run_bytesToString w ad k cap _ (by rw[List.map_map];exact hl);rw[fold_push]at hb;simp only[convert,ai,run_underlying h1,run_underlying h2,run_underlying hu,af];rw[hb];simp[congr,bL,GK]
  trivial
 ·rename_i h1 h2;obtain⟨l,h3,ha⟩:=QX (show bd x.S (fun l=>some _)=some a from ha);cases aa ha;rw[A.dX h3]at hx;obtain⟨k,rfl⟩:=zK hx;refine⟨_,qm k,?_⟩;simp only[convert,ai,run_underlying h1,run_underlying h2,af];rfl
 ·rename_i t h1 h2;obtain⟨q,h3,ha⟩:=QX (show bd x.P (fun q=>bd (h.get q.1) fun b=>bd b.o.C fun c=>gu _ (gu ((P.info? t).any fun j=>j.size != 0) _))=some a from ha);obtain⟨b,h4,ha⟩:=QX ha;obtain⟨cc,h5,ha⟩:=QX ha;obtain⟨h6,ha⟩:=Q5 ha;obtain⟨h7,ha⟩:=Q5 ha;cases aa ha;rw[A.Ck h3]at hx;obtain⟨p,hp,rfl⟩:=qp hx;obtain⟨p',o,k1,k2,k3⟩:=hm q.1 b h4;rw[hp]at k1;cases k1;rw[O.QC6 h5]at k3;obtain⟨cs,vs,rfl,g2,g3,g4,g5,g6⟩:=k3;obtain⟨j,hj,hjs⟩:=Option.any_eq_true .. |>.1 h7;refine⟨_,by rw[A.Ck h3];exact hx,?_⟩;exact Lib.run_to_unsafe w _ h1 h2 hj (by simp_all) (by simp[bW,Pl.at,k2];trivial) (by have:=ae h6;show p.B1+q.2<cs.size;omega)
 ·rename_i t h1 h2;obtain⟨q,h3,ha⟩:=QX (show bd x.P (fun q=>bd (h.get q.1) fun b=>bd b.o.C fun c=>gu _ (gu _ (gu (P.info? t).isSome _)))=some a from ha);obtain⟨b,h4,ha⟩:=QX ha;obtain⟨cc,h5,ha⟩:=QX ha;obtain⟨h6,ha⟩:=Q5 ha;obtain⟨h7,ha⟩:=Q5 ha;obtain⟨h8,ha⟩:=Q5 ha;cases aa ha;rw[A.Ck h3]at hx;obtain⟨p,hp,rfl⟩:=qp hx;obtain⟨p',o,k1,k2,k3⟩:=hm q.1 b h4;rw[hp]at k1;cases k1;rw[O.QC6 h5]at k3;obtain⟨cs,vs,rfl,g2,g3,g4,g5,g6⟩:=k3;obtain⟨e1,e2⟩:=g6.1 (by simp_all);obtain⟨j,hj⟩:=Option.isSome_iff_exists.1 h8;refine⟨_,by rw[A.Ck h3];exact hx,?_⟩;exact Lib.run_from_unsafe w _ h1 h2 hj (by simp[bW,Pl.at,k2];trivial) (by
   show liesAt P _ cc.2.1 _ (p.B1+q.2) t 1=true;simp_all)
 trivial
theorem QFK(hm:Ob β h w){o:Op}{g:Bx Me}{a:A}(hg:jk P c o=some g)(ha:g.f st m h=some a)
  (hρ:∀z∈o.operands,∀a,ev c z st m=some a->V β a=some (ρ z)):Me1 P β w o ρ a:=by
 have hg0:=hg;unfold jk at hg;split at hg
 ·rename_i T x;cases aa hg;obtain⟨a1,h1,ha⟩:=QX ha;obtain⟨q,h2,ha⟩:=QX ha;rw[A.Ck h2]at h1;obtain⟨p,hp,hx⟩:=qp (hρ x (by simp[aj]) _ h1);obtain⟨v,k1,k2⟩:=yj hm ha hp;refine⟨v,k1,fun d ty pos aft gd=>?_⟩;simp[execOp,hx,Instr.loadAt,bJ,k2]
 ·grind[cZ]
 ·exact QCC hm hg0 ha hρ
 ·rename_i args ts;cases aa hg;obtain⟨xs,h1,ha⟩:=QX ha;have hv:=Pp h1 (fun x hx=>hρ x (by grind[aj,aS]));cases xs with
  |nil=>cases ha
  |cons x r=>cases r with
   |nil=>exact QGk hm rfl (show(QEB P ts).f h x=some a from ha) hv
   |cons y r=>cases ha
 ·rename_i s d x;split at hg
  ·cases hg
  ·cases aa hg;obtain⟨a1,h1,ha⟩:=QX ha;obtain⟨v,k1,k2⟩:=QEX hm ha (hρ x (by simp[aj]) _ h1);refine⟨v,k1,fun d ty pos aft gd=>?_⟩;simp[execOp,ai];simp_all
 trivial
end
end Go.Ev
namespace Go.Ev
open Go.RowKit
theorem Po.eq_refl(p:Po):Po.eq p p=true:=by
 induction p with
 |h=>rfl
 |o p ih=>exact ih
 |i p ih=>exact ih
noncomputable def Cu (β:Be) (n:Po) (p:Pl):Be:=fun q=>if Po.eq q n then some p else β q
theorem Ke(β:Be)(n:Po)(p:Pl):Cu β n p n=some p:=by unfold Cu;rw[Po.eq_refl];rfl
theorem Gn(β:Be){n q:Po}(p:Pl)(h:q≠n):Cu β n p q=β q:=by
 unfold Cu;rw[if_neg]<;>grind[Po.eq_eq]
theorem kq{β:Be}{n:Po}(p:Pl)(h:β n=none):Be.le β (Cu β n p):=fun q x hx=>by
 grind[Gn]
section
variable{P:Program}{β:Be}{h:Tr B}{n:Po}{w w':World}
structure Cm(w w':World):Prop where
 os:w'.os=w.os
 tape:w'.tape=w.tape
 out:w'.output=w.output
 drawn:True
theorem Cm.refl(w:World):Cm w w:=⟨rfl,rfl,rfl,trivial⟩
theorem Mv.new(k:Ok β h n w)(lv l0:Nat){x:O}{obj:Obj}{sz:Nat}(hll:l0<=lv)(hw:w'.heap=w.heap.push obj)(hn:Cm w w')(ho:Oo β ⟨w.heap.size,0,sz⟩ obj x):
  Mv lv β h n w (Cu β n ⟨w.heap.size,0,sz⟩) (h.put (some ⟨x,l0⟩) n) n.s w':=by
 have hle:=kq ⟨w.heap.size,0,sz⟩ (k.top n (ar _));have hget:∀q b,(h.put (some ⟨x,l0⟩) n).get q=some b->(q=n/\b=⟨x,l0⟩)\/(q≠n/\h.get q=some b):=fun q b hb=>by
  grind[Tr.KK,aa]
 have hp:∀q b p,q≠n->h.get q=some b->Cu β n ⟨w.heap.size,0,sz⟩ q=some p->β q=some p/\p.Y1<w.heap.size:=fun q b p hne hb hp=>by
  rw[Gn β _ hne]at hp;exact⟨hp,k.lt hb hp⟩
 refine⟨by simp[Po.cM],fun q hq=>Gn β _ (by grind),⟨fun q b hb=>?_,fun q q' b b' p p' hb hb' g g' e=>?_,fun q hq=>?_⟩,hn.os,hn.tape,hn.out,hn.drawn,by simp_all,fun b hb _=>?_,fun q c p hc g hlt=>?_,fun K hK hh q c hc=>?_⟩
 ·rcases hget q b hb with ⟨rfl,rfl⟩ | ⟨hne,hb⟩
  ·exact⟨_,obj,Ke _ _ _,by simp_all,ho.le hle⟩
  ·obtain⟨p,o,k1,k2,k3⟩:=k.ob q b hb;exact⟨p,o,hle q p k1,by grind,k3.le hle⟩
 ·rcases hget q b hb with ⟨rfl,rfl⟩ | ⟨hne,hb⟩<;>rcases hget q' b' hb' with ⟨rfl,rfl⟩ | ⟨hne',hb'⟩
  ·rfl
  ·grind[Ke]
  ·grind[Ke]
  ·exact k.inj q q' b b' p p' hb hb' (hp q b p hne hb g).1 (hp q' b' p' hne' hb' g').1 e
 ·rw[Po.cM]at hq;rw[Gn β _ (by grind)];exact k.top q (by omega)
 ·grind
 ·rcases hget q c hc with ⟨rfl,rfl⟩ | ⟨hne,hb⟩<;>grind[Ke,id]
 grind
theorem Mv.put(k:Ok β h n w){lv:Nat}{q:Po}{b:B}{p:Pl}(hq:h.get q=some b)(hp:β q=some p)(hlv:lv<=b.lv){x:O}{obj:Obj}(hw:w'.heap=w.heap.setIfInBounds p.Y1 obj)(hn:Cm w w')(ho:Oo β p obj x):
  Mv lv β h n w β (h.put (some ⟨x,b.lv⟩) q) n w':=by
 have hlt:=k.lt hq hp;have hget:∀q' b',(h.put (some ⟨x,b.lv⟩) q).get q'=some b'->(q'=q/\b'=⟨x,b.lv⟩)\/(q'≠q/\h.get q'=some b'):=fun q' b' hb=>by
  grind[Tr.KK,aa]
 have hex:∀q' b',(h.put (some ⟨x,b.lv⟩) q).get q'=some b'->∃b0,h.get q'=some b0/\b0.lv=b'.lv:=fun q' b' hb=>by
  grind
 refine⟨ar _,fun _ _=>rfl,⟨fun q' b' hb=>?_,fun q1 q2 b1 b2 p1 p2 hb1 hb2 g1 g2 e=>?_,k.top⟩,hn.os,hn.tape,hn.out,hn.drawn,by simp_all,fun b1 hb1 hh=>?_,fun q' c p' hc g hlt=>?_,fun K hK hh q' c hc=>?_⟩
 ·rcases hget q' b' hb with ⟨rfl,rfl⟩ | ⟨hne,hb⟩
  ·simp_all
  ·obtain⟨p',o,k1,k2,k3⟩:=k.ob q' b' hb;have hne2:p.Y1≠p'.Y1:=fun e=>hne (k.inj q' q b' b p' p hb hq k1 hp e.symm)<;>simp_all
 ·obtain⟨b1',e1,_⟩:=hex q1 b1 hb1;obtain⟨b2',e2,_⟩:=hex q2 b2 hb2;exact k.inj q1 q2 b1' b2' p1 p2 e1 e2 g1 g2 e
 all_goals grind
theorem Mv.drop(k:Ok β h n w){lv:Nat}(q:Po):Mv lv β h n w β (h.put none q) n w:=by
 have hget:∀q' b',(h.put none q).get q'=some b'->h.get q'=some b':=fun q' b' hb=>by
  grind[Tr.KK]
 exact⟨ar _,fun _ _=>rfl,⟨fun q' b' hb=>k.ob q' b' (hget q' b' hb),fun q1 q2 b1 b2 p1 p2 hb1 hb2=>k.inj q1 q2 b1 b2 p1 p2 (hget _ _ hb1) (hget _ _ hb2),k.top⟩,rfl,rfl,rfl,trivial,ar _,fun _ _ _=>rfl,
  fun q' c p' hc g hlt=>⟨q',c,p',hget _ _ hc,g,rfl,id⟩,fun K _ hh q c hc=>hh q c (hget _ _ hc)⟩
end
section
variable{P:Program}{β:Be}{c:Lc}{st:List A}{m:Tr A}{ρ:Operand->Value}{h:Tr B}{n:Po}{w:World}
theorem QBk{sz:Nat}:∀ {ps:List _} {pv:List _} {k:Nat} {cs:List A},lit sz ps k=some cs->pv.map (·.1)=ps.map (·.1)->Vs β (ps.map (·.2))=some (pv.map (·.2))->(∀p∈ps,∀u,p.2 = .k u->zP u=true) ->
  ∃vs,Vs β cs=some vs/\∀(cur:Array Value),k*sz+vs.length=cur.size->bK (fun i=>some (i*sz,sz)) cur pv=some (cur.toList.take (k*sz)++vs).toArray
 |[],pv,k,cs,h,h1,h2,_=>by
  cases aa h;cases pv with
  |nil=>exact⟨[],rfl,fun cur hc=>by simp_all[bK,List.take_of_length_le]⟩
  |cons _ _=>grind
 |p::ps,pv,k,cs,h,h1,h2,hk=>by
  obtain⟨g1,h⟩:=Q5 (show gu _ _=some cs from h);obtain⟨g2,h⟩:=Q5 h;obtain⟨l,g3,h⟩:=QX h;cases aa h;have g1:=ah g1;have g2:=ah g2;cases pv with
  |nil=>grind
  |cons pv0 pv =>
   simp only[bS,List.cons.injEq]at h1;rw[bS,bS]at h2;obtain⟨v,rr,k1,k2,k3⟩:=XI h2;injection k3 with k3 k4;subst k3;subst k4;have hcells:=Af k1 (hk p (by simp));have hsz:pv0.2.cells.size=sz:=by rw[<-g2,<-Kw hcells];simp
   obtain⟨vs,r1,r2⟩:=QBk g3 h1.2 k2 fun x hx=>hk x (by grind);refine⟨pv0.2.cells.toList++vs,P2 hcells r1,fun cur hc=>?_⟩;rw[aH]at hc;have hl:pv0.2.cells.toList.length=sz:=by omega
   have hmul:aC k*sz=k*sz+sz:=by grind
   unfold bK;have e1:pv0.1=k:=by omega
   simp only[e1];rw[if_neg (by grind)];have e:=Fx pv0.2.cells.toList 0 (k*sz) cur (by omega);have e0:pv0.2.cells.zipIdx.foldl (fun cs (x:Value×Nat)=>cs.setIfInBounds (k*sz+x.2) x.1) cur=(pv0.2.cells.toList.zipIdx 0).foldl (fun cs (x:Value×Nat)=>cs.setIfInBounds (k*sz+x.2) x.1) cur:=by
    rw[<-fp];simp
   have h3:=r2 (cur.toList.take (k*sz)++pv0.2.cells.toList++cur.toList.drop (k*sz+sz)).toArray (by rw[hmul]<;>grind);have hl2:(cur.toList.take (k*sz)++pv0.2.cells.toList).length=k*sz+sz:=by
    rw[aH,hl,bU];simp;omega
   grind
theorem pQ(z:List A):∀n,(rep z n).length=n*z.length
 |0=>by show 0=_;simp
 |n+1=>by
  show(z++rep z n).length=_;rw[aH,pQ z n,ia];omega
theorem vW{z:List A}{vs:List Value}(h:Vs β z=some vs):∀n,∃us,Vs β (rep z n)=some us/\us.length=n*vs.length/\∀i,i<n*vs.length->us[i]?=vs[i%vs.length]?
 |0=>⟨[],rfl,by simp,fun i hi=>by omega⟩
 |n+1=>by
  obtain⟨us,h1,h2,h3⟩:=vW h n;refine⟨vs++us,P2 h h1,by grind,fun i hi=>?_⟩;rw[ia]at hi;by_cases hlt:i<vs.length
  ·grind[bj]
  ·rw[List.getElem?_append_right (by omega),h3 _ (by omega)]<;>simp_all[congr,Nat.mod_eq_sub_mod]
def Ne1(P:Program)(β:Be)(h:Tr B)(n:Po)(w:World)(o:Op)(ρ:Operand->Value)(q:O×(Po->A)):Prop :=
 ∃obj sz v,(∀d ty pos aft gd,(execOp ρ ⟨d,o,ty,pos,aft,gd⟩).run P w = .ok (.value v) (w.alloc obj))/\Oo β ⟨w.heap.size,0,sz⟩ obj q.1/\∀β':Be,β' n=some ⟨w.heap.size,0,sz⟩->V β' (q.2 n)=some v
theorem xX{vs:List Value}{l:List A}{T:TypeId}(hl:Vs β l=some vs)(b:Nat):Oo β ⟨b,0,vs.length⟩ (.cells vs.toArray T) (.c l T false) :=
 ⟨vs.toArray,vs,rfl,by simp,hl,fun i v hv=>by simp_all,by simp[Kw hl],fun _=>⟨rfl,(Kw hl).symm⟩,rfl⟩
theorem QFH{o:Op}{g:Bx _}{q:O×(Po->A)}(hg:p6 P c o=some g)(ha:g.f st m=some q)
  (hρ:∀z∈o.operands,∀a,ev c z st m=some a->V β a=some (ρ z)):Ne1 P β h n w o ρ q:=by
 unfold p6 at hg;split at hg
 ·rename_i T;cases aa hg;obtain⟨z,h1,ha⟩:=QX ha;cases aa ha;obtain⟨i,v,k1,k2,k3⟩:=Mu h1;refine⟨.cells v.cells T,v.cells.toList.length,.pointer (some ⟨w.heap.size,0,none⟩),fun d ty pos aft gd=>?_,?_,fun β' hb=>?_⟩
  ·have ez:(zeroValue T).run P w = .ok v w:=by simp_all[zeroValue,typeInfo]
   simp only[execOp,Instr.alloc,ai,ez,af,ax,newVar,newRow,run_newObj];rfl
  ·exact xX k3 _
  ·show(β' n).map _=_;rw[hb];rfl
 ·rename_i T x;cases aa hg;obtain⟨a,h1,ha⟩:=QX ha;obtain⟨h2,ha⟩:=Q5 ha;cases aa ha;have hc:=Af (hρ x (by simp[aj]) _ h1) (A.QGH h2);refine⟨.cells (ρ x).cells T,(ρ x).cells.toList.length,.pointer (some ⟨w.heap.size,0,none⟩),fun d ty pos aft gd=>?_,?_,fun β' hb=>?_⟩
  ·rfl
  ·exact xX hc _
  ·show(β' n).map _=_;rw[hb];rfl
 ·rename_i T k ps;cases aa hg;obtain⟨q0,h1,ha⟩:=QX ha;obtain⟨h0,ha⟩:=Q5 ha;obtain⟨l,h2,ha⟩:=QX ha;obtain⟨h3,ha⟩:=Q5 ha;obtain⟨cs,h4,ha⟩:=QX ha;obtain⟨h5,ha⟩:=Q5 ha;obtain⟨h6,ha⟩:=Q5 ha;cases aa ha;obtain⟨p1,p2⟩:=OX h2 (fun p hp=>hρ p.2 (by simp only[aj,fC,fW];grind));rw[aB]at h3;obtain⟨vs,r1,r2⟩:=QBk (β:=β) (pv:=ps.toList.map fun p=>(p.1,ρ p.2)) h4 (by simp_all) (by simp_all) (fun p hp=>A.QGH (h3 p hp));obtain⟨z,hz⟩:=Option.isSome_iff_exists.1 h0;obtain⟨i,zv,z1,z2,z3⟩:=Mu (β:=β) hz;obtain⟨hu,j,g5,g6⟩:=Ra h1;have h5:=ah h5;have h6:=ae h6;have hvl:=Kw r1;refine⟨.cells _ q0.1,vs.length,.slice _ k k,fun d ty pos aft gd=>?_,xX r1 _,fun β' hb=>by show(β' n).map _=_;rw[hb];rfl⟩;have e:(ps.map fun(x:Nat×Operand)=>(x.1,ρ x.2))=(ps.toList.map fun p=>(p.1,ρ p.2)).toArray:=by grind
  have es:(sizeOf q0.1).run P w = .ok q0.2 w:=by simp_all[sizeOf,typeInfo]
  have ez:(zeroValue q0.1).run P w = .ok zv w:=by simp_all[zeroValue,typeInfo]
  have hn:¬k*q0.2>2^24:=by omega
  have hf:∀zero:Array Value,bK (fun i=>some (i*q0.2,q0.2)) ((ff (k*q0.2)).map (zero[·%zero.size]!)) (ps.toList.map fun p=>(p.1,ρ p.2)).toArray.toList=some vs.toArray:=fun zero=>by
   simp_all
  simp only[execOp,e,ai,Instr.buildSlice,run_underlying hu,af,es,if_neg hn,ax];by_cases h0':k*q0.2=0
  ·simp only[if_pos h0',ax,af,hf,newRow,ai,run_newObj];rfl
  ·simp only[if_neg h0',ai,ez,ax,af,hf,newRow,run_newObj];rfl
 ·cases aa hg;cases aa ha;refine⟨.map #[] 0,0,.map (some w.heap.size),fun d ty pos aft gd=>?_,⟨#[],rfl,trivial⟩,fun β' hb=>?_⟩
  ·rfl
  ·show(β' n).map _=_;simp_all
 ·rename_i T l k;cases aa hg;obtain⟨a1,h1,ha⟩:=QX ha;obtain⟨k1,h2,ha⟩:=QX ha;obtain⟨a2,h3,ha⟩:=QX ha;obtain⟨k2,h4,ha⟩:=QX ha;obtain⟨q0,h5,ha⟩:=QX ha;obtain⟨i,h5i,ha⟩:=QX ha;obtain⟨h5b,ha⟩:=Q5 ha;obtain⟨z,h6,ha⟩:=QX ha;obtain⟨h6b,ha⟩:=Q5 ha;obtain⟨h7,ha⟩:=Q5 ha;obtain⟨h8,ha⟩:=Q5 ha;cases aa ha;obtain⟨hu,j,g5,g6⟩:=Ra h5;rw[h5i]at g5;cases g5;obtain⟨i',zv,z1,z2,z3⟩:=Mu h6;rw[h5i]at z1;cases z1;have h5b:=ae h5b;have h6b:=ah h6b;have h7:=ae h7;have h8:=ae h8;obtain⟨kk,e1⟩:=A.QCk h2;obtain⟨kk2,e2⟩:=A.QCk h4;rw[e1]at h1;rw[e2]at h3;have hl:=TU (hρ l (by simp[aj]) _ h1);have hc:=TU (hρ k (by simp[aj]) _ h3);obtain⟨us,r1,r2,r3⟩:=vW z3 k2;have hzl:zv.cells.toList.length=q0.2:=by grind[Kw]
  refine⟨.cells _ q0.1,us.length,.slice _ k1 k2,fun d ty pos aft gd=>?_,xX r1 _,fun β' hb=>by show(β' n).map _=_;rw[hb];rfl⟩;have w1:IntKind.i64.wrap (bO k1)=(k1:Int):=ee _ (by grind);have w2:IntKind.i64.wrap (bO k2)=(k2:Int):=ee _ (by grind);have hb1:=eU h5b h8;have hb2:k2*i.bytes<=16777216000:=by grind
  have e3:((ff (k2*i.size)).map (zv.cells[·%zv.cells.size]!))=us.toArray:=by
   grind
  have ez:∀w,(zeroValue q0.1).run P w = .ok zv w:=fun w=>by simp_all[zeroValue,typeInfo]
  have es:∀w,(sizeOf q0.1).run P w = .ok i.size w:=fun w=>by simp[sizeOf,typeInfo,h5i]
  have ei:∀w,(typeInfo q0.1).run P w = .ok i w:=fun w=>by simp[typeInfo,h5i]
  have hcond:((decide ((k2:Int)<0)||decide ((i.bytes:Int)*(k2:Int)>2^48))||decide ((k1:Int)<0)||decide ((k1:Int)>(k2:Int)))=false:=by
   grind
  have hroom:¬(k2*i.bytes>roomBytes):=by grind[roomBytes]
  simp only[execOp,hl,hc,Instr.makeSlice,ai,run_underlying hu,af,asInt,asIntOf,ax,ei,w1,w2,hcond,au,if_false,askRoom,Int.toNat_natCast,if_neg hroom,es];by_cases h0:k2*i.size=0
  ·simp only[if_pos h0,ax,af,newRow,ai,run_newObj];have:us=[]:=by simp_all
   subst this;have hr:ff 0=#[]:=by rfl
   have hm:∀f:Nat->Value,Array.map f #[]=#[]:=fun f=>by simp
   rw[h0,hr,hm];rfl
  ·simp only[if_neg h0,ai,ez,ax,af,newRow,run_newObj,e3];rfl
 trivial
end
end Go.Ev
namespace Go.Ev
open Go.RowKit
theorem L4{w:World}{g:Nat}{old cs:Array Value}{t:TypeId}{fr:Nat×Nat}(hg:w.heap[g]?=some (.cells old t fr)):(w.setRow g cs).heap=w.heap.setIfInBounds g (.cells cs t fr):=by
 apply fq;intro k;by_cases e:g=k
 ·grind[setRow_heap]
 simp_all[setRow_other,Ne.symm]
theorem QGF{a:A}(h:a.one=true){β:Be}{v:Value}(hv:V β a=some v):v.oneCell'=true:=by
 cases a with
 |g _=>cases h
 |t _=>cases h
 |k u=>rw[xk hv];trivial
 |i _ _=>rw[TU hv];rfl
 |b _=>rw[V_b hv];rfl
 |s _=>obtain⟨_,rfl⟩:=zK hv;rfl
 |p _ _=>obtain⟨_,_,rfl⟩:=qp hv;rfl
 |l _ _ _ _=>obtain⟨_,_,rfl⟩:=V_l hv;rfl
 |o _ _ _ _=>obtain⟨_,_,_,rfl⟩:=V_o hv;rfl
 |m _=>obtain⟨_,_,rfl⟩:=V_m hv;rfl
 |f _ _=>obtain⟨_,_,rfl⟩:=V_f hv;rfl
 |y _=>obtain⟨_,_,rfl⟩:=V_y hv;rfl
 |xi T b =>
  obtain⟨_,_,rfl⟩:=Option.map_eq_some_iff.1 hv;rfl
theorem I7{β:Be}:∀ {l:List A} {vs:List Value},l.all A.one=true->Vs β l=some vs->∀v∈vs,v.oneCell'=true
 |[],vs,_,h,v,hv=>by cases aa h;cases hv
 |a::l,vs,h1,h,v,hv=>by
  obtain⟨u,r,k1,k2,rfl⟩:=XI h;rw[bB,aq]at h1;rcases List.mem_cons.1 hv with rfl | hv
  ·grind[QGF]
  ·exact I7 h1.2 k2 v hv
section
variable{P:Program}{β:Be}{h:Tr B}{n:Po}{w:World}
theorem Uu(k:Ok β h n w){lv:Nat}{q:Po}{off:Nat}{vs:List A}{h':Tr B}{p:Pl}{us:List Value}(hs:Tf lv h q off vs=some h')(hp:β q=some p)(hv:Vs β vs=some us):
  ∃w',(storeCells (p.at off) us).run P w = .ok () w'/\Mv lv β h n w β h' n w':=by
 obtain⟨b,h1,hs⟩:=QX hs;obtain⟨h2,hs⟩:=Q5 hs;obtain⟨h3,hs⟩:=Q5 hs;obtain⟨c,h4,hs⟩:=QX hs;obtain⟨l,h5,hs⟩:=QX hs;cases aa hs;obtain⟨p',o,k1,k2,k3⟩:=k.ob q b h1;rw[hp]at k1;cases k1;have hC:=O.QC6 h4;rw[hC]at k3;obtain⟨cs,xs,rfl,g2,g3,g4,g5,g6,g7⟩:=k3;obtain⟨e1,e2⟩:=OU h5;have Ax:=Kw hv;have hxl:=Kw g3;have hst:=run_storeCells_at (P:=P) p.Y1 (p.B1+off) c.2.1 us 0 cs w k2 (by omega) (I7 h3 hv);refine⟨_,hst,?_⟩;refine Mv.put k h1 hp (ae h2) (L4 k2) ⟨rfl,rfl,rfl,trivial⟩ ?_;have hVl:Vs β l=some (xs.take off++us++xs.drop (off+us.length)):=by
  grind[P2,MZ,TL]
 have hll:l.length=c.1.length:=by grind
 refine⟨_,_,rfl,by grind,hVl,fun i v hi=>?_,by omega,fun ho=>by simp_all,g7⟩;simp only[fb,eZ,ep,aH,bU,eu,bN,eD]at hi ⊢;have m1:min off xs.length=off:=by omega
 rw[m1]at hi;by_cases c1:i<off
 ·grind
 ·by_cases c2:i<off+us.length
  ·grind
  ·simp[c1,c2]at hi;have:=g4 _ v hi;rw[show off+us.length+(i-(off+us.length))=i by omega]at this
   grind
end
end Go.Ev
namespace Go.Ev
open Go.RowKit
section
variable{P:Program}{β:Be}{c:Lc}{st:List A}{m:Tr A}{ρ:Operand->Value}{h:Tr B}{n:Po}{w:World}{lv:Nat}
def Lo1(P:Program)(lv:Nat)(β:Be)(h:Tr B)(n:Po)(w:World)(o:Op)(ρ:Operand->Value)(r:R):Prop :=
 ∃β' v nx w',(∀d ty pos aft gd,(execOp ρ ⟨d,o,ty,pos,aft,gd⟩).run P w = .ok nx w')/\(nx = .value v\/(nx = .skip/\v=undef))/\V β' r.a=some v/\Mv lv β h n w β' r.h r.n w'
theorem QKy:V β u0=some undef:=rfl
theorem YE{a:A}{r:R}(e:rz a h n=some r):r.a=a/\r.h=h/\r.n=n:=by cases aa e<;>simp_all
theorem yb(k:Ok β h n w){o:O}{mk:Po->A}{r:R}{obj:Obj}{sz:Nat}{w':World}(e:nw o mk lv h n=some r)(hw:w'.heap=w.heap.push obj)(hn:Cm w w')(ho:Oo β ⟨w.heap.size,0,sz⟩ obj o):
  r.a=mk n/\Mv lv β h n w (Cu β n ⟨w.heap.size,0,sz⟩) r.h r.n w':=by
 obtain⟨e1,e2,e3⟩:=YE e;rw[e2,e3];exact⟨e1,Mv.new k lv lv (ar _) hw hn ho⟩
theorem QBg(k:Ok β h n w){T:TypeId}{x y:Operand}{r:R}{ih:Ih}(hr:(loD P c (.store T x y)).f ih lv st m h n=some r)
  (hρ:∀z∈(Op.store T x y).operands,∀a,ev c z st m=some a->V β a=some (ρ z)):Lo1 P lv β h n w (.store T x y) ρ r:=by
 obtain⟨a,h1,hr⟩:=QX hr;obtain⟨q,h2,hr⟩:=QX hr;obtain⟨v,h3,hr⟩:=QX hr;obtain⟨sz,h4,hr⟩:=QX hr;obtain⟨h5,hr⟩:=Q5 hr;obtain⟨h',h6,hr⟩:=QX hr;obtain⟨e1,e2,e3⟩:=YE hr;rw[A.Ck h2]at h1;obtain⟨p,hp,hx⟩:=qp (hρ x (by simp[aj]) _ h1);have hy:=hρ y (by simp[aj]) _ h3;obtain⟨j,g5,g6⟩:=GV h4;have hk:∀u,v = .k u->zP u=true:=fun u e=>by
  subst e;obtain⟨b,s1,s⟩:=QX h6;obtain⟨s2,s⟩:=Q5 s;obtain⟨s3,s⟩:=Q5 s;rw[aB]at s3;exact s3 _ (by show A.k u∈[A.k u];simp)
 have hc:=Af hy hk;obtain⟨w',k1,k2⟩:=Uu (P:=P) k h6 hp hc;have hsz:(ρ y).cells.size=sz:=by have:=Kw hc<;>simp_all
 refine⟨β,undef,.skip,w',fun d ty pos aft gd=>?_,.inr ⟨rfl,rfl⟩,by rw[e1];rfl,by simp_all⟩;simp_all[sizeOf,typeInfo,execOp,Instr.storeAt,bJ,storeVar]
theorem yy{kt:TypeId}{dk:TypeDesc}(hu:P.underlying kt=some dk)(hd:(∃k,dk = .int k)\/dk = .string){key:A}{vk:Value}(hk:V β key=some vk):∀ {es:List _} {ents:List _} {i j:Nat} {a:A},
  qe (eq1 P kt).f key es i=some (some (j,a))->En β es ents->∃q en,j=i+q/\ents[q]?=some en/\en.key=vk/\((∃k n,vk = .int k n)\/∃s,vk = .string s)
 |[],[],i,j,a,h,_=>by cases aa h
 |(k,v,b)::es,e::ents,i,j,a,h,⟨h1,h2,h3,h4⟩=>by
  obtain⟨t,g1,h⟩:=QX (show bd _ (fun t=>cn t _ _)=some _ from h);cases t with
  |true =>
   cases aa (show some _=some _ from h);refine⟨0,e,rfl,rfl,?_⟩;unfold eq1 at g1;rw[hu]at g1;rcases hd with ⟨kk,rfl⟩ | rfl
   ·replace g1:eqIn key k=some true:=g1;unfold eqIn at g1;split at g1
    ·rw[X6]at g1;split at g1
     ·rename_i hs;have:=aa g1;rw[eqI_eq,beq_iff_eq]at this;have hs:=YW hs;rw[TU hk,TU h1]<;>simp_all
     trivial
    trivial
   ·replace g1:eqSt key k=some true:=g1;unfold eqSt at g1;split at g1
    ·have:=eqL_eq (aa g1);obtain⟨s1,rfl⟩:=zK hk<;>grind
    trivial
  |false =>
   obtain⟨q,en,e1,e2,e3⟩:=yy hu hd hk (show qe (eq1 P kt).f key es _=some _ from h) h4;exact⟨q+1,en,by omega,by trivial,e3⟩
 |[],_::_,_,_,_,_,h=>h.elim
 |_::_,[],_,_,_,_,h=>h.elim
theorem QC0{v:A}{vv:Value}(hv:V β v=some vv):∀ {es:List _} {ents:List _} {q:Nat} {en:MapEntry},En β es ents->ents[q]?=some en->En β (QFv v q es) (ents.set q { en with val:=vv })
 |(k,x,b)::es,e::ents,0,en,⟨h1,h2,h3,h4⟩,h=>by
  cases aa h;trivial
 |(k,x,b)::es,e::ents,q+1,en,⟨h1,h2,h3,h4⟩,h=>⟨h1,h2,h3,QC0 hv h4 (by trivial)⟩
 |[],[],q,en,_,h=>by cases h
 |[],_::_,_,_,h,_=>h.elim
 |_::_,[],_,_,h,_=>h.elim
theorem QC1{k v:A}{b:Nat}{e:MapEntry}(h1:V β k=some e.key)(h2:V β v=some e.val)(h3:e.born=b):∀ {es:List _} {ents:List _},En β es ents->En β (es++[(k,v,b)]) (ents++[e])
 |[],[],_=>⟨h1,h2,h3,trivial⟩
 |_::_,_::_,⟨g1,g2,g3,g4⟩=>⟨g1,g2,g3,QC1 h1 h2 h3 g4⟩
 |[],_::_,h=>h.elim
 |_::_,[],h=>h.elim
theorem Cy{kt:TypeId}{dk:TypeDesc}(hd:(∃k,dk = .int k)\/dk = .string){v:Value}(h:(∃k n,v = .int k n)\/∃s,v = .string s):fJ 10000 v v=true:=by
 rcases h with ⟨k,n,rfl⟩ | ⟨s,rfl⟩
 ·simp[fJ]
 ·show(s.data==s.data)=true;simp
theorem QGi(k:Ok β h n w){T:TypeId}{q:Bx _×TypeId}(hq:cX P T=some q){nm:Po}{key v:A}{p:Pl}{vk vv:Value}{r:R}(hr:Ow q.1.f lv h n nm key v=some r)(hp:β nm=some p)(hk:V β key=some vk)(hv:V β v=some vv):
  ∃w',(bZ T (.map (some p.Y1)) vk vv).run P w = .ok () w'/\r.a=u0/\Mv lv β h n w β r.h r.n w':=by
 obtain⟨kt,dk,u1,u2,u3,u4⟩:=p9 hq;rw[u4]at hr;obtain⟨b,h1,hr⟩:=QX hr;obtain⟨h2,hr⟩:=Q5 hr;obtain⟨p',o,g1,g2,g3⟩:=k.ob nm b h1;rw[hp]at g1;cases g1;split at hr
 ·rename_i es ck e;obtain⟨rr,h3,hr⟩:=QX hr;obtain⟨e1,e2,e3⟩:=YE hr;rw[e]at g3;obtain⟨ents,rfl,g4⟩:=g3;obtain⟨r',k1,k2⟩:=CF u2 u3 hk h3 g4;have eg:∀w:World,w.heap[p.Y1]?=some (.map ents ck)->(getObj p.Y1).run P w = .ok (.map ents ck) w:=fun w hw=>by grind[getObj,bI]
  have ef:∀w,(eB kt vk ents.toList).run P w = .ok r' w:=fun w=>by
   unfold eB;simp only[ai,run_underlying u2,af,k1];rfl
  have es':∀o':Obj,(setObj p.Y1 o').run P w = .ok () { w with heap:=w.heap.setIfInBounds p.Y1 o' }:=fun o'=>by grind[setObj,bI]
  rcases k2 with ⟨rfl,rfl⟩ | ⟨j,a',v',rfl,rfl,hv'⟩
  ·refine⟨{ w with heap:=w.heap.setIfInBounds p.Y1 (.map (ents.push { key:=vk,val:=vv,born:=ck }) (ck+1)) },?_,e1,?_⟩
   ·simp_all[bZ,ai,run_underlying,af,Sv]
   ·rw[e2,e3];refine Mv.put k h1 hp (ae h2) rfl ⟨rfl,rfl,rfl,trivial⟩ ⟨_,rfl,?_⟩;simpa using QC1 (e:={ key:=vk,val:=vv,born:=ck }) hk hv rfl g4
  ·obtain⟨q',en,j1,j2,j3,hsk⟩:=yy u2 u3 hk h3 g4;refine⟨{ w with heap:=w.heap.setIfInBounds p.Y1 (.map (ents.modify j fun e=>{ e with key:=vk,val:=vv }) ck) },?_,e1,?_⟩
   ·have hkey:(((ents[j]?).map (·.key)).getD vk)=vk:=by
     simp_all
    unfold bZ;simp[ai,run_underlying u1,af,eg w g2,Sv u2 u3,ef,hkey];simp[Instr.keyThatStays,Cy (kt:=kt) u3 hsk,if_true,ax,af,es']
   ·rw[e2,e3];refine Mv.put k h1 hp (ae h2) rfl ⟨rfl,rfl,rfl,trivial⟩ ⟨_,rfl,?_⟩;have:=QC0 hv g4 j2;have e5:(ents.modify j fun e=>{ e with key:=vk,val:=vv }).toList=ents.toList.set j { en with val:=vv }:=by
     apply fB
     grind
    simp_all
 trivial
end
end Go.Ev
namespace Go.Ev
open Go.RowKit
section
variable{P:Program}{β:Be}{h:Tr B}{n:Po}{w w':World}{lv:Nat}
theorem Mv.ren(k:Ok β h n w){q:Po}{b:B}{p:Pl}(hq:h.get q=some b)(hp:β q=some p)(hlv:lv<=b.lv){x:O}{obj:Obj}(hw:w'.heap=w.heap.setIfInBounds p.Y1 obj)(hn:Cm w w')(ho:Oo β p obj x):
  Mv lv β h n w (Cu β n p) ((h.put none q).put (some ⟨x,lv⟩) n) n.s w':=by
 have hlt:=k.lt hq hp;have hnn:=k.top n (ar _);have hle:=kq p hnn;have hget:∀q' b',((h.put none q).put (some ⟨x,lv⟩) n).get q'=some b'->(q'=n/\b'=⟨x,lv⟩)\/(q'≠n/\q'≠q/\h.get q'=some b'):=fun q' b' hb=>by
  grind[Tr.KK,aa]
 have hne2:∀q' b' p',q'≠q->h.get q'=some b'->β q'=some p'->p.Y1≠p'.Y1:=fun q' b' p' hne hb hp' e=>hne (k.inj q' q b' b p' p hb hq hp' hp e.symm);refine⟨by simp[Po.cM],fun q' hq'=>Gn β _ (by grind),⟨fun q' b' hb=>?_,fun q1 q2 b1 b2 p1 p2 hb1 hb2 g1 g2 e=>?_,fun q' hq'=>?_⟩,hn.os,hn.tape,hn.out,hn.drawn,by simp_all,fun b1 hb1 hh=>?_,fun q' c p' hc g hlt'=>?_,fun K hK hh q' c hc=>?_⟩
 ·rcases hget q' b' hb with ⟨rfl,rfl⟩ | ⟨h1,h2,hb⟩
  ·exact⟨p,obj,Ke _ _ _,by simp_all,ho.le hle⟩
  ·obtain⟨p',o,k1,k2,k3⟩:=k.ob q' b' hb;exact⟨p',o,hle _ _ k1,by grind,k3.le hle⟩
 ·rcases hget q1 b1 hb1 with ⟨rfl,rfl⟩ | ⟨h1,h2,hb1'⟩<;>rcases hget q2 b2 hb2 with ⟨rfl,rfl⟩ | ⟨h3,h4,hb2'⟩
  ·rfl
  ·grind[Ke,Gn,absurd]
  ·grind[Ke,Gn,absurd]
  ·rw[Gn β _ h1]at g1;rw[Gn β _ h3]at g2;exact k.inj q1 q2 b1 b2 p1 p2 hb1' hb2' g1 g2 e
 ·rw[Po.cM]at hq';rw[Gn β _ (by grind)];exact k.top q' (by omega)
 ·grind
 ·rcases hget q' c hc with ⟨rfl,rfl⟩ | ⟨h1,h2,hb⟩
  ·rw[Ke]at g;grind
  ·rw[Gn β _ h1]at g
   grind
 grind
theorem jy(k:Ok β h n w){T U e:TypeId}{i:TypeInfo}{z:Value}{sz sLen cap kk:Nat}{base:Option Addr}{olds news:List Value}{us vs:List A}{x:Value}{l:List A}(ht:P.underlying T=some (.slice e))(hi:P.info? e=some i)(hz:i.zero=some z)(hzs:z.cells.size=i.size)(hsz:i.size=sz)(h1:1<=sz)(hb:i.bytes<=1000)
  (hold:(bH i.size sLen (.slice base sLen cap)).run P w.drew = .ok olds.toArray w.drew) (hs:Src P i.size U x kk news w) (hg:cap<sLen+kk) (hl:sLen+kk<=lim) (hv:Vs β l=some (olds++news)) (hlen:l.length=(sLen+kk)*sz) :
  ∃v w' p,(∀ty,(aM #[T,U] ty #[.slice base sLen cap,x]).run P w = .ok v w')/\(∀β':Be,β' n=some p->V β' (.o n 0 (sLen+kk) sz)=some v)/\Mv lv β h n w (Cu β n p) (h.put (some ⟨.c l e true,lv⟩) n) n.s w'/\p.Y1=w.heap.size:=by
 subst hsz;unfold lim at hl;have hfit:=growslice_fits (bytes:=i.bytes) hg (by have:=eU hl hb;omega);have hgc:=grownCap_ge w (sLen+kk) cap e;obtain⟨gc,hgc'⟩:∃gc,gc=grownCap w (sLen+kk) cap e:=⟨_,rfl⟩;have hnl:(olds++news).length=(sLen+kk)*i.size:=by grind[Kw]
 obtain⟨arr,harr⟩:∃arr,arr=(olds++news).toArray++bw z.cells (gc-(sLen+kk)):=⟨_,rfl⟩;have hasz:arr.size=gc*i.size:=by
  rw[harr,fz,size_zeroCells,hzs,List.size_toArray,hnl,<-fm];simp_all
 refine⟨.slice (some ⟨w.heap.size,0,none⟩) (sLen+kk) gc,w.drew.alloc (.cells arr e),⟨w.heap.size,0,gc*i.size⟩,fun ty=>?_,fun β' hβ=>?_,?_,rfl⟩
 ·grind[run_append_grow_src]
 ·have hc:(gc*i.size-(0+0))/i.size=gc:=by grind[fA]
  have:=Ci (off:=0) (len:=sLen+kk) (sz:=i.size) hβ (by simp_all);rw[this];rw[hc];rfl
 ·refine Mv.new k lv lv (ar _) rfl ⟨rfl,rfl,rfl,trivial⟩ ⟨arr,_,rfl,hasz,hv,fun j v hj=>?_,?_,fun h=>(by cases h),rfl⟩
  all_goals grind
end
end Go.Ev
namespace Go.Ev
open Go.RowKit
section
variable{P:Program}{β:Be}{h:Tr B}{n:Po}{w w':World}{lv:Nat}
theorem Bh:∀ {l:List Nat},RH l=true->Vs β (TK l)=some (byteCells (GK l))
 |[],_=>rfl
 |c::l,hl=>by
  unfold RH at hl;rw[bB,aq]at hl;have hc:=ae hl.1;have h2:=Bh hl.2;have e1:byteCells (GK (c::l))=Value.int .u8 (aF c).toNat::byteCells (GK l):=by rfl
  have e2:((aF c).toNat:Int)=bO c:=by
   have:(aF c).toNat=c:=by grind[bm,bj]
   grind
  rw[e1];exact Vk (by show some _=_;rw[e2]) h2
theorem QFt(hm:Ob β h w){U:TypeId}{sz:Nat}{y:A}{s:Nat×List A}{vy:Value}(hs:(zi P U sz).f h y=some s)(hy:V β y=some vy)(hl:s.2.length=s.1*sz)(h1:s.2.all A.one=true):∃us,Vs β s.2=some us/\Src P sz U vy s.1 us w:=by
 unfold zi at hs;split at hs
 ·rename_i e hu;obtain⟨k,g1,hs⟩:=QX (show bd _ (fun k=>bd _ fun vs=>some (k,vs))=some s from hs);obtain⟨vs,g2,hs⟩:=QX hs;cases aa hs;rcases CK hm g1 g2 hy with ⟨rfl,rfl,rfl⟩ | ⟨a,cap,us,rfl,k1,k2,k3⟩
  ·exact⟨[],rfl,Src.ofNil w hu 0⟩
  grind[Src.ofSlice,Kw,I7]
 ·rw[X6]at hs;split at hs
  ·rename_i hz;obtain⟨l,g1,hs⟩:=QX (show bd y.S (fun l=>some (l.length,TK l))=some s from hs);cases aa hs;have hz:=ah hz;rw[A.dX g1]at hy;obtain⟨k1,rfl⟩:=zK hy;refine⟨_,Bh k1,?_⟩
   grind[Src.ofString,GK,VC]
  trivial
 trivial
theorem Sy(t tx ty e:TypeId)(i:TypeInfo)(ht:P.underlying t=some (.slice e))(hi:P.info? e=some i){b off sLen sCap:Nat}{x:Value}{k:Nat}{news:List Value}(hs:Src P i.size tx x k news w)
  (hroom:sLen+k<=sCap) (hst:(storeCells ⟨b,off+sLen*i.size,none⟩ news).run P w = .ok () w') :
  (aM #[t,tx] ty #[.slice (some ⟨b,off,none⟩) sLen sCap,x]).run P w = .ok (.slice (some ⟨b,off,none⟩) (sLen+k) sCap) w':=by
 rcases hs.kind with ⟨e',hk⟩ | hk<;>simp[aM,run_underlying ht,run_underlying hk,sizeOf,typeInfo,hi,hs.len,hroom,hs.cells,Addr.add_lit,hst]
theorem append_nil(t tx ty e:TypeId)(i:TypeInfo)(ht:P.underlying t=some (.slice e))(hi:P.info? e=some i){x:Value}{news:List Value}(hs:Src P i.size tx x 0 news w):
  (aM #[t,tx] ty #[.slice none 0 0,x]).run P w = .ok (.slice none 0 0) w:=by
 rcases hs.kind with ⟨e',hk⟩ | hk<;>simp[aM,run_underlying ht,run_underlying hk,sizeOf,typeInfo,hi,hs.len,hs.cells]
theorem yx(hm:Ob β h w){q:Po}{off len sz cap:Nat}{us:List A}{p:Pl}(h2:cellsOf h q off (len*sz)=some us)(hp:β q=some p):
  ∃olds,Vs β us=some olds/\us.length=len*sz/\∀w':World,w'.heap=w.heap->(bH sz len (.slice (some (p.at off)) len cap)).run P w' = .ok olds.toArray w':=by
 obtain⟨g1,us',g2,g3⟩:=Py hm h2 hp;refine⟨us',g2,g1,fun w' hw=>run_firstCells_some w' sz len _ len cap us' (by grind[Kw]) fun j u hj=>?_⟩;have:=g3 j u hj;unfold eM at this ⊢;simp_all
theorem dQ(k:Ok β h n w){T U:TypeId}{x:A}{vx vy:Value}{r:R}{q:TypeId×Nat}{i:TypeInfo}{z:Value}{s:Nat×List A}{us:List Value}(ht:P.underlying T=some (.slice q.1))(hi:P.info? q.1=some i)(hsz:i.size=q.2)(hb:i.bytes<=1000)(hs1:1<=q.2)(hz1:i.zero=some z)(hz2:z.cells.size=i.size)
  (g2:s.2.length=s.1*q.2) (g3:s.2.all A.one=true) (s1:Vs β s.2=some us) (Ax:us.length=s.2.length) (s2:Src P q.2 U vy s.1 us w) (hr:xg lv q.2 q.1 s.1 s.2 h n x=some r) (hx:V β x=some vx) :
  ∃β' v w',(∀ty,(aM #[T,U] ty #[vx,vy]).run P w = .ok v w')/\V β' r.a=some v/\Mv lv β h n w β' r.h r.n w':=by
 unfold xg at hr;rw[<-hsz]at s2;split at hr
 ·cases xk hx;rw[cond_eq_ite]at hr;split at hr
  ·rename_i h0;have h0:=ah h0;obtain⟨e1,e2,e3⟩:=YE hr;rw[h0]at s2;exact⟨β,_,w,fun ty=>append_nil T U ty q.1 i ht hi s2,by simp_all,by grind[Mv.refl]⟩
  ·rename_i h0;obtain⟨hl,hr⟩:=Q5 hr;have hl:=ae hl;have h0:s.1≠0:=fun e=>h0 (by rw[e];rfl);obtain⟨v,w',p,r1,r2,r3,_⟩:=jy (us:=[]) (vs:=s.2) k ht hi hz1 hz2 hsz hs1 hb (run_firstCells_none w.drew _ 0 0 0) s2 (by omega) (by omega) (by trivial) (by simp_all);obtain⟨e1,e2,e3⟩:=YE hr;refine⟨_,v,w',r1,?_,by rw[e2,e3];exact r3⟩;simp_all[Ke,bh]
 ·rename_i q' off len cap;obtain⟨p,hp,rfl⟩:=V_l hx;rw[cond_eq_ite]at hr;split at hr
  ·rename_i hc;obtain⟨h',h6,hr⟩:=QX hr;obtain⟨w',k1,k2⟩:=Uu k h6 hp s1;obtain⟨e1,e2,e3⟩:=YE hr;refine⟨β,_,w',fun ty=>Sy T U ty q.1 i ht hi s2 (ae hc) (by rw[hsz];rw[bT];exact k1),?_,by simp_all⟩;rw[e1];show(β q').map _=_;rw[hp];rfl
  ·rename_i hc;obtain⟨us',h6,hr⟩:=QX hr;obtain⟨hl,hr⟩:=Q5 hr;have hl:=ae hl;have hc:¬len+s.1<=cap:=fun e=>hc (aD e);obtain⟨olds,o1,o2,o3⟩:=yx (cap:=cap) k.ob h6 hp;obtain⟨v,w',p',r1,r2,r3,_⟩:=jy (us:=[]) (vs:=s.2) k ht hi hz1 hz2 hsz hs1 hb (by rw[hsz];exact o3 w.drew rfl) s2 (by omega) hl (P2 o1 s1) (by grind);obtain⟨e1,e2,e3⟩:=YE hr;refine⟨_,v,w',r1,?_,by rw[e2,e3];exact r3⟩
   grind[Ke]
 ·rename_i q' off len zz;obtain⟨b,h6,hr⟩:=QX hr;obtain⟨c,h7,hr⟩:=QX hr;obtain⟨h8,hr1⟩:=Q5 hr;obtain⟨h9,hr2⟩:=Q5 hr1;clear hr hr1;rw[aq]at h8;have h8a:=ah h8.1;have h8b:=ah h8.2;obtain⟨p,hp,hcap,rfl⟩:=V_o hx;subst h8a;obtain⟨p',o,k1,k2,k3⟩:=k.ob q' b h6;rw[hp]at k1;cases k1;have hC:=O.QC6 h7;rw[hC]at k3;obtain⟨cs,xs,rfl,x2,x3,x4,x5,x6,x7⟩:=k3;have hpos:0<q.2:=by omega
  rw[cond_eq_ite]at hr2;split at hr2
  ·rename_i hc;have hc:=ae hc;obtain⟨h',h10,hr3⟩:=QX hr2;obtain⟨w',m1,m2⟩:=Uu k h10 hp s1;obtain⟨e1,e2,e3⟩:=YE hr3;have hroom:len+s.1<=(p.size-(p.B1+off))/q.2:=by
    rw[fg hpos];omega
   refine⟨β,_,w',fun ty=>Sy T U ty q.1 i ht hi s2 hroom (by rw[hsz];rw[bT];exact m1),?_,by simp_all⟩;rw[e1];exact Ci hp hroom
  ·obtain⟨t1,hr3⟩:=Q5 hr2;obtain⟨t2,hr4⟩:=Q5 hr3;obtain⟨t3,hr5⟩:=Q5 hr4;obtain⟨t4,hr6⟩:=Q5 hr5;have t1:=ah t1;have t2:=ah t2;have t3:=ae t3;have t4:=ae t4;subst t1;rw[bh]at t2;obtain⟨e1,e2,e3⟩:=YE hr6;have hxl:=Kw x3;by_cases hroom:len+s.1<=(p.size-(p.B1+0))/q.2
   ·have hr2:=(fg hpos).1 hroom;rw[fm]at hr2;have hst:=run_storeCells_at (P:=P) p.Y1 (p.B1+(0+len*q.2)) c.2.1 us 0 cs w k2 (by omega) (I7 g3 s1);refine⟨Cu β n p,_,_,fun ty=>Sy T U ty q.1 i ht hi s2 hroom (by rw[hsz,bT];omega),?_,?_⟩
    ·rw[e1];exact Ci (Ke β n p) hroom
    ·rw[e2,e3];refine Mv.ren k h6 hp t3 (obj:=.cells ((cs.toList.take (p.B1+(0+len*q.2)+0)++us++cs.toList.drop (p.B1+(0+len*q.2)+0+us.length)).toArray) q.1 (0,0)) (by grind[L4]) ⟨rfl,rfl,rfl,trivial⟩ ?_;refine⟨_,xs++us,rfl,by grind,P2 x3 s1,fun i v hi=>?_,by simp_all,fun ho=>(by cases ho),x7⟩;simp only[fb,eZ,bh,ep,aH,bU,eu,bN,eD]at hi ⊢
     grind
   ·have hcl:cellsOf h q' 0 (len*q.2)=some c.1:=by
     unfold cellsOf bd;rw[h6];show bd b.o.D _=_;rw[hC];show O9 (len*q.2) 0 c.1=_;show(bif ak (len*q.2) c.1.length then some (c.1.take (len*q.2))else none)=_;simp_all[aD,ar]
    obtain⟨olds,o1,o2,o3⟩:=yx (cap:=(p.size-(p.B1+0))/q.2) k.ob hcl hp;have kd:=Mv.drop (lv:=lv) k q';obtain⟨v,w',p',r1,r2,r3,_⟩:=jy (us:=[]) (vs:=s.2) kd.ok ht hi hz1 hz2 hsz hs1 hb (by rw[hsz];exact o3 w.drew rfl) s2 (by omega) t4 (P2 o1 s1) (by grind);refine⟨_,v,w',r1,?_,by rw[e2,e3];exact kd.trans r3⟩
    grind[Ke]
 trivial
theorem QAG(k:Ok β h n w){T U:TypeId}{x y:A}{vx vy:Value}{r:R}(hr:(append P T U).f lv h n x y=some r)(hx:V β x=some vx)(hy:V β y=some vy):
  ∃β' v w',(∀ty,(aM #[T,U] ty #[vx,vy]).run P w = .ok v w')/\V β' r.a=some v/\Mv lv β h n w β' r.h r.n w':=by
 unfold append at hr;split at hr
 ·cases hr
 ·rename_i q hq;obtain⟨ht,i0,hi0,hsz⟩:=Ra hq;split at hr
  ·cases hr
  ·rename_i i hi;rw[X6]at hr;split at hr
   ·rename_i hg;rw[aq,aq]at hg;have hb:=ae hg.1;have hzl:=ah hg.2.1;have hs1:=ae hg.2.2;obtain⟨s,g1,hr⟩:=QX (show bd ((zi P U q.2).f h y) (fun s=>gu _ _)=some r from hr);obtain⟨g2,hr⟩:=Q5 hr;obtain⟨g3,hr⟩:=Q5 hr;have g2:=ah g2;obtain⟨us,s1,s2⟩:=QFt k.ob g1 hy g2 g3;have Ax:=Kw s1;have hz:∃z,i.zero=some z/\z.cells.size=i.size:=by
     have:Jw P q.1=some ((Jw P q.1).getD []):=by
      cases e:Jw P q.1<;>grind
     obtain⟨i',z,e1,e2,e3⟩:=Mu (β:=β) this;rw[hi]at e1;have e0:=aa e1;subst e0;refine⟨z,e2,?_⟩;have:=Kw e3
     grind
    grind[dQ]
   trivial
theorem q7(z:Array Value)(n i:Nat)(hi:i<n*z.size):(bw z n)[i]?=z.toList[i%z.size]?:=by
 have hz:0<z.size:=by
  grind
 simp_all[Nat.mod_lt,bw,if_pos]
theorem QEG{T:TypeId}(h:QBt P T=true):∃k,P.underlying T=some (.int k):=by
 grind[QBt]
theorem dP(k:Ok β h n w){T U:TypeId}{x y:A}{vx vy:Value}{r:R}(hU:QBt P U=true)(hr:(xf P T).f lv h n x y=some r)(hx:V β x=some vx)(hy:V β y=some vy):
  ∃β' v w',(∀ty,(aM #[T,U] ty #[vx,vy]).run P w = .ok v w')/\V β' r.a=some v/\Mv lv β h n w β' r.h r.n w':=by
 obtain⟨kn,htn⟩:=QEG hU;unfold xf at hr;split at hr
 ·cases hr
 ·rename_i q hq;obtain⟨ht,i0,hi0,hsz⟩:=Ra hq;split at hr
  ·cases hr
  ·rename_i i hi;rw[hi]at hi0;have e0:=aa hi0;subst e0;rw[X6]at hr;split at hr
   ·rename_i hg;rw[aq,aq]at hg;have hb:=ae hg.1;have hzl:=ah hg.2.1;have hs1:=ae hg.2.2;simp only at hr;split at hr
    ·rename_i kk;obtain⟨g1,hr⟩:=Q5 hr;obtain⟨g2,hr⟩:=Q5 hr;have g1:=ae g1;have g2:=ae g2;unfold lim at g2;cases aa (show some _=some vx from hx);cases aa (show some _=some vy from hy);have hzb:Jw P q.1=some ((Jw P q.1).getD []):=by
      cases e:Jw P q.1<;>grind
     obtain⟨i',z,e1,e2,e3⟩:=Mu (β:=β) hzb;rw[hi]at e1;have e0:=aa e1;subst e0;generalize (Jw P q.1).getD []=zl at *
     have hzs:z.cells.size=i.size:=by have:=Kw e3;simp_all
     have hrun:=fun ty=>Lib.run_append_nil_zeros w T U ty q.1 i z .i64 kn ht htn hi e2 kk g1 (by omega) (by omega) (by have:=eU g2 hb;omega);have hgc:=grownCap_ge w kk 0 q.1;obtain⟨gc,hgc'⟩:∃gc,gc=grownCap w kk 0 q.1:=⟨_,rfl⟩;rw[<-hgc']at hgc hrun;obtain⟨arr,harr⟩:∃arr,arr=bw z.cells kk++bw z.cells (gc-kk):=⟨_,rfl⟩;rw[<-harr]at hrun;have hasz:arr.size=gc*q.2:=by
      rw[harr,fz,size_zeroCells,size_zeroCells,hzs,hsz,<-fm];simp_all
     obtain⟨us,u1,u2,u3⟩:=vW e3 kk;have ho:Oo β ⟨w.heap.size,0,gc*q.2⟩ (.cells arr q.1) (.c (rep zl kk) q.1 true):=by
      refine⟨arr,us,rfl,hasz,u1,fun j v hj=>?_,?_,fun h=>(by cases h),rfl⟩
      ·have hjl:=(List.getElem?_eq_some_iff.1 hj).1;have hz2:z.cells.toList.length=z.cells.size:=by simp
       rw[harr];rw[bh,Array.getElem?_append_left (by grind[size_zeroCells]),q7 _ _ _ (by simp_all),<-hj,u3 j (by omega),hz2]
      ·simp_all[pQ,bh,Nat.mul_le_mul_right]
     obtain⟨a1,a2⟩:=yb (w':=w.drew.alloc _) k hr rfl ⟨rfl,rfl,rfl,trivial⟩ ho;refine⟨_,_,_,hrun,?_,a2⟩;rw[a1];have hc:(gc*q.2-(0+0))/q.2=gc:=by grind[fA]
     have:=Ci (β:=Cu β n ⟨w.heap.size,0,gc*q.2⟩) (off:=0) (len:=kk) (sz:=q.2) (Ke _ _ _) (by simp_all);rw[this];rw[hc];rfl
    trivial
   trivial
end
end Go.Ev
namespace Go.Ev
open Go.RowKit
section
variable{P:Program}{β:Be}{c:Lc}{st:List A}{m:Tr A}{ρ:Operand->Value}{h:Tr B}{n:Po}{w w':World}{lv:Nat}
theorem Mv.gone(k:Ok β h n w){q:Po}{b:B}{p:Pl}(hq:h.get q=some b)(hp:β q=some p)(hlv:lv<=b.lv)(hsz:w'.heap.size=w.heap.size)(hw:∀x,x≠p.Y1->w'.heap[x]?=w.heap[x]?)(hn:Cm w w'):
  Mv lv β h n w β (h.put none q) n w':=by
 have hget:∀q' b',(h.put none q).get q'=some b'->q'≠q/\h.get q'=some b':=fun q' b' hb=>by
  grind[Tr.KK]
 refine⟨ar _,fun _ _=>rfl,⟨fun q' b' hb=>?_,fun q1 q2 b1 b2 p1 p2 hb1 hb2=>k.inj q1 q2 b1 b2 p1 p2 (hget _ _ hb1).2 (hget _ _ hb2).2,k.top⟩,hn.os,hn.tape,hn.out,hn.drawn,by omega,fun b1 hb1 hh=>?_,fun q' c p' hc g hlt=>⟨q',c,p',(hget _ _ hc).2,g,rfl,id⟩,fun K _ hh q c hc=>hh q c (hget _ _ hc).2⟩
 ·obtain⟨h1,h2⟩:=hget q' b' hb;obtain⟨p',o,k1,k2,k3⟩:=k.ob q' b' h2;exact⟨p',o,k1,by rw[hw _ fun e=>h1 (k.inj q' q b' b p' p h2 hq k1 hp e)];exact k2,k3⟩
 grind
theorem yw(hm:Ob β h w){U:TypeId}{sz j:Nat}{y:A}{s:Nat×List A}{vy:Value}(hs:(zi P U sz).f h y=some s)(hy:V β y=some vy)(hl:s.2.length=s.1*sz)(hj:j<=s.1):
  ∃us,Vs β (s.2.take (j*sz))=some us/\us.length=j*sz/\(∀w,(fH vy).run P w = .ok s.1 w)/\(bH sz j vy).run P w = .ok us.toArray w:=by
 unfold zi at hs;split at hs
 ·obtain⟨k,g1,hs⟩:=QX (show bd _ (fun k=>bd _ fun vs=>some (k,vs))=some s from hs);obtain⟨vs,g2,hs⟩:=QX hs;cases aa hs;rcases CK hm g1 g2 hy with ⟨rfl,rfl,rfl⟩ | ⟨a,cap,us,rfl,k1,k2,k3⟩
  ·have:j=0:=by omega
   subst this;exact⟨[],by simp[Vs],by simp,fun _=>rfl,run_firstCells_none w sz 0 0 0⟩
  ·have Ax:=Kw k1;refine⟨us.take _,MZ _ k1,by simp_all,fun _=>rfl,run_firstCells_some w sz j a k cap _ (by simp_all) fun i u hi=>?_⟩
   grind
 ·rw[X6]at hs;split at hs
  ·rename_i hz;obtain⟨l,g1,hs⟩:=QX (show bd y.S (fun l=>some (l.length,TK l))=some s from hs);cases aa hs;have hz:=ah hz;subst hz;rw[A.dX g1]at hy;obtain⟨k1,rfl⟩:=zK hy;have hb:=Bh (β:=β) k1;have hbl:=byteCells_length (GK l);rw[VC]at hbl;refine⟨_,MZ _ hb,by simp_all,fun w=>by simp[fH,VC],?_⟩;simp[bH,ax];congr 1;apply ic;simp[Nat.mul_one,byteCells,GK,eT,Array.toList_map,List.map_take]
  trivial
 trivial
theorem QEW(k:Ok β h n w){T U:TypeId}{xs:List A}{us:List Value}{r:R}(hr:(bi P .copy T U).f lv h n xs=some r)(hx:Vs β xs=some us):
  ∃β' v w',(∀ty,(er #[T,U] ty us.toArray).run P w = .ok v w')/\V β' r.a=some v/\Mv lv β h n w β' r.h r.n w':=by
 unfold bi at hr;simp only at hr;split at hr
 ·cases hr
 ·rename_i q hq;obtain⟨ht,i,hi,hsz⟩:=Ra hq;revert hr;intro hr
  match xs,hx,hr with
  |[x,y],hx,hr =>
   obtain⟨vx,r1,x1,x2,rfl⟩:=XI hx;obtain⟨vy,r2,y1,y2,rfl⟩:=XI x2;have:=KD y2;subst this;obtain⟨s,g1,hr1⟩:=QX (show bd ((zi P U q.2).f h y) (fun s=>gu _ _)=some r from hr);obtain⟨g2,hr2⟩:=Q5 hr1;have g2:=ah g2;have key:∀(d:Po) (off a cap:Nat) (p:Pl),β d=some p->bd (Tf lv h d off (s.2.take (ew s.1 a*q.2))) (fun h=>rz (num (ew s.1 a)) h n)=some r ->
     ∃β' v w',(∀ty,(er #[T,U] ty [Value.slice (some (p.at off)) a cap,vy].toArray).run P w = .ok v w')/\V β' r.a=some v/\Mv lv β h n w β' r.h r.n w':=by
    intro d off a cap p hp hr;obtain⟨h',h6,hr⟩:=QX hr;obtain⟨e1,e2,e3⟩:=YE hr;obtain⟨us,u1,u2,u3,u4⟩:=yw k.ob g1 y1 g2 (Nat.min_le_left s.1 a);obtain⟨w',k1,k2⟩:=Uu (P:=P) k h6 hp u1;refine⟨β,goInt _,w',fun ty=>?_,by rw[e1];rfl,by simp_all⟩;simp_all[er,run_underlying,sizeOf,typeInfo]
   split at hr2
   ·cases xk x1;obtain⟨e1,e2,e3⟩:=YE hr2;obtain⟨us,u1,u2,u3,u4⟩:=yw k.ob g1 y1 g2 (ba s.1);refine⟨β,goInt 0,w,fun ty=>?_,by rw[e1];rfl,by grind[Mv.refl]⟩;simp_all[er,run_underlying,sizeOf,typeInfo]
   ·obtain⟨p,hp,rfl⟩:=V_l x1;exact key _ _ _ _ p hp hr2
   ·obtain⟨p,hp,_,rfl⟩:=V_o x1;exact key _ _ _ _ p hp hr2
   trivial
  |[],hx,hr=>cases hr
  |[_],hx,hr=>cases hr
  |_::_::_::_,hx,hr=>cases hr
end
end Go.Ev
namespace Go.Ev
open Go.RowKit
section
variable{P:Program}{β:Be}{c:Lc}{st:List A}{m:Tr A}{ρ:Operand->Value}{h:Tr B}{n:Po}{w w':World}{lv:Nat}
theorem RY(ts:Array _)(ty:TypeId)(a:Addr)(len cap:Nat)(h:cap≠0):(bP ts ty #[.slice (some a) len cap]).run P w = .ok (.pointer (some a)) w:=by
 have hdef:bP ts ty #[.slice (some a) len cap] =
   (do
    if cap≠0 then pure _
    else if(<-viewAt _).isSome then pure _
    else pure (.pointer (some ⟨<-newObj (.view a (<-elemOf ty)),0,none⟩))):=rfl
 simp_all
theorem Uv(k:Ok β h n w){T U:TypeId}{xs:List A}{us:List Value}{r:R}(hr:(bi P .unsafeSliceData T U).f lv h n xs=some r)(hx:Vs β xs=some us)(ts:Array _):
  ∃β' v w',(∀ty,(bP ts ty us.toArray).run P w = .ok v w')/\V β' r.a=some v/\Mv lv β h n w β' r.h r.n w':=by
 unfold bi at hr;simp only at hr;split at hr
 ·obtain⟨vx,r1,x1,x2,rfl⟩:=XI hx;have:=KD x2;subst this;obtain⟨p,hp,rfl⟩:=V_l x1;obtain⟨e1,e2,e3⟩:=YE hr;exact⟨β,.pointer _,w,fun ty=>RY ts ty _ _ _ (Nat.succ_ne_zero _),by rw[e1];show(β _).map _=_;simp_all,by grind[Mv.refl]⟩
 ·obtain⟨vx,r1,x1,x2,rfl⟩:=XI hx;have:=KD x2;subst this;obtain⟨p,hp,hc,rfl⟩:=V_o x1;obtain⟨e1,e2,e3⟩:=YE hr;have h0:=Nat.ne_of_gt (aA (Nat.succ_pos _) hc);exact⟨β,.pointer _,w,fun ty=>RY ts ty _ _ _ h0,by rw[e1];show(β _).map _=_;simp_all,by grind[Mv.refl]⟩
 ·obtain⟨vx,r1,x1,x2,rfl⟩:=XI hx;have:=KD x2;subst this;cases xk x1;obtain⟨e1,e2,e3⟩:=YE hr;exact⟨β,.pointer none,w,fun ty=>rfl,by rw[e1];rfl,by grind[Mv.refl]⟩
 trivial
theorem zQ(ts:Array _)(ty:TypeId)(p:Option Addr)(k:IntKind)(hp:ts[0]?.isSome=true):(aY ts ty #[.pointer p,.int k 0]).run P w = .ok (.string .empty) w:=by
 obtain⟨pt,hp⟩:=Option.isSome_iff_exists.1 hp;have ef:∀(f:Int->Sem Value) ,(asInt (.int k 0) >>= f).run P w=(f 0).run P w:=fun f=>by rfl
 show(asInt (.int k 0) >>= _).run P w=_;rw[ef,hp];cases p<;>rfl
theorem QDP(k:Ok β h n w){T U:TypeId}{xs:List A}{us:List Value}{r:R}(hr:(bi P .unsafeString T U).f lv h n xs=some r)(hx:Vs β xs=some us)(ts:Array _)(ht:ts[0]?=some T):
  ∃β' v w',(∀ty,(aY ts ty us.toArray).run P w = .ok v w')/\V β' r.a=some v/\Mv lv β h n w β' r.h r.n w':=by
 unfold bi at hr;simp only at hr;split at hr
 ·rename_i e he;rw[X6]at hr;split at hr
  ·rename_i hc;have hc:=ah hc;simp only at hr;split at hr
   ·obtain⟨vx,r1,x1,x2,rfl⟩:=XI hx;obtain⟨vy,r2,y1,y2,rfl⟩:=XI x2;have:=KD y2;subst this;obtain⟨p,hp,rfl⟩:=qp x1;rw[TU y1];obtain⟨e1,e2,e3⟩:=YE hr;exact⟨β,.string .empty,w,fun ty=>zQ ts ty _ _ (by simp_all),by rw[e1];rfl,by grind[Mv.refl]⟩
   ·obtain⟨vx,r1,x1,x2,rfl⟩:=XI hx;obtain⟨vy,r2,y1,y2,rfl⟩:=XI x2;have:=KD y2;subst this;cases xk x1;rw[TU y1];obtain⟨e1,e2,e3⟩:=YE hr;exact⟨β,.string .empty,w,fun ty=>zQ ts ty _ _ (by simp_all),by rw[e1];rfl,by grind[Mv.refl]⟩
   ·rename_i d off kk _;obtain⟨vx,r1,x1,x2,rfl⟩:=XI hx;obtain⟨vy,r2,y1,y2,rfl⟩:=XI x2;have:=KD y2;subst this;obtain⟨p,hp,rfl⟩:=qp x1;rw[TU y1];obtain⟨h1,hr1⟩:=Q5 hr;obtain⟨h2,hr2⟩:=Q5 hr1;obtain⟨b,h3,hr3⟩:=QX hr2;obtain⟨h4,hr4⟩:=Q5 hr3;obtain⟨cc,h5,hr5⟩:=QX hr4;obtain⟨h6,hr6⟩:=Q5 hr5;obtain⟨l,h7,hr7⟩:=QX hr6;obtain⟨bs,h8,hr8⟩:=QX hr7;obtain⟨e1,e2,e3⟩:=YE hr8;obtain⟨p',o,k1,k2,k3⟩:=k.ob _ b h3;rw[hp]at k1;cases k1;rw[O.QC6 h5]at k3;obtain⟨cs,vs,rfl,g2,g3,g4,g5,g6,g7⟩:=k3;obtain⟨l1,l2⟩:=AU h7;have hl:Vs β l=some ((vs.drop 0).take kk):=by grind[MZ,TL]
    obtain⟨b1,b2⟩:=F8 h8 hl;have hVl:=Kw hl;have h1:=ah h1;have h2:=ae h2;have h4:=ae h4;have h6:=ah h6;unfold lim at h2;have hbl:bs.length=l.length:=by
     simp_all
    have hll:l.length=kk:=by simp_all
    have hv:V β r.a=some (.string (GK bs)):=by grind[qm]
    refine⟨β,.string (GK bs),?_⟩;by_cases h0:bs=[]
    ·simp_all
    ·have hat:p.at off=⟨p.Y1,0,none⟩:=by grind[Pl.at]
     refine⟨w.freeze ⟨p.Y1,0,none⟩ (bs.map aF).length,fun ty=>?_,hv,?_⟩
     ·have hts:(aY ts ty)=(aY #[T,U] ty):=by
       funext args;unfold aY;rw[ht];rfl
      have:=Lib.run_unsafeString_row (w:=w) T U ty e he hc p.Y1 cs.size (by simp[bW,k2,h6]) (bs.map aF) (by simp_all) (by grind) (by grind) (fun j x hj=>?_)
      ·rw[hat,hts];rw[eO,hbl,hll]at this ⊢;exact this
      ·have hlt:j<bs.length:=by grind
       have hb:(bs.map uT)[j]?=some (uT bs[j]):=by grind
       rw[<-b2,bN,List.drop_zero]at hb;split at hb
       ·have hc:=g4 j _ hb;rw[g7,bh]at hc;have hx:x=aF bs[j]:=by simp_all
        have hle:bs[j]<=255:=by
         simp_all[RH,aB,ae,List.getElem_mem]
        have hx2:(x.toNat:Int)=(bs[j]:Int):=by
         grind[bm,bj]
        rw[hx2];have ea:(⟨p.Y1,0,none⟩:Addr).add j=⟨p.Y1,j,none⟩:=by grind[Addr.add]
        rw[ea];simp[eM,k2,hc,uT]
       omega
     ·rw[e2,e3];refine Mv.gone k h3 hp h4 ?_ (fun x hx=>?_) ⟨?_,?_,?_,trivial⟩<;>unfold World.freeze<;>split
      all_goals grind
   trivial
  trivial
 trivial
end
end Go.Ev
namespace Go.Ev
open Go.RowKit
section
variable{P:Program}{β:Be}{c:Lc}{st:List A}{m:Tr A}{ρ:Operand->Value}{h:Tr B}{n:Po}{w w':World}{lv:Nat}{r:R}{ih:Ih}
theorem QIy(k:Ok β h n w){b:Builtin}{args:Array _}{ts:Array _}(hr0:(loD P c (.call ⟨.builtin b,args,ts⟩)).f ih lv st m h n=some r)
  (hρ:∀z∈(Op.call ⟨.builtin b,args,ts⟩).operands,∀a,ev c z st m=some a->V β a=some (ρ z)):Lo1 P lv β h n w (.call ⟨.builtin b,args,ts⟩) ρ r:=by
 obtain⟨xs,h1,hr⟩:=QX (show bd _ (fun xs=>(biT P b ts).f lv h n xs)=some r from hr0);have hv:=Pp h1 fun x hx=>hρ x (by grind[aj,aS]);have fin:∀ {f:TypeId->Sem Value},(∀ty,execOp ρ ⟨none,.call ⟨.builtin b,args,ts⟩,ty, "",#[],none⟩=(f ty >>= fun v=>pure (Next.value v)))->(∃β' v w',(∀ty,(f ty).run P w = .ok v w')/\V β' r.a=some v/\Mv lv β h n w β' r.h r.n w')->Lo1 P lv β h n w (.call ⟨.builtin b,args,ts⟩) ρ r:=by
  rintro f hf ⟨β',v,w',g1,g2,g3⟩;refine⟨β',v,.value v,w',fun d ty pos aft gd=>?_,.inl rfl,g2,g3⟩;show(execOp ρ ⟨none,.call ⟨.builtin b,args,ts⟩,ty, "",#[],none⟩).run P w=_;simp_all
 have hap:∀ty,execOp ρ ⟨none,.call ⟨.builtin b,args,ts⟩,ty, "",#[],none⟩=builtin b ts ty _ (args.toList.map ρ).toArray:=fun ty=>Mi rfl;unfold biT at hr;split at hr
 ·rename_i T U hts;have hts:ts=#[T,U]:=by grind
  subst hts;cases b with
  |append =>
   refine fin (fun ty=>by rw[hap];rfl) ?_
   match xs,hv,hr with
   |[x,y],hv,hr =>
    obtain⟨vx,r1,x1,x2,e1⟩:=XI hv;obtain⟨vy,r2,y1,y2,e2⟩:=XI x2;subst e2;rw[e1];cases hU:QBt P U with
    |false =>
     refine QAG k ?_ x1 y1;have hr:(cn _ _ (append P T U)).f lv h n x y=some r:=hr;rw[hU]at hr;exact hr
    |true =>
     refine dP k hU ?_ x1 y1;have hr:(cn _ _ (append P T U)).f lv h n x y=some r:=hr;rw[hU]at hr;exact hr
   |[],_,hr=>cases hr
   |[_],_,hr=>cases hr
   |_::_::_::_,_,hr=>cases hr
  |copy=>exact fin (fun ty=>by rw[hap];rfl) (QEW k hr hv)
  |unsafeSliceData=>exact fin (fun ty=>by rw[hap];rfl) (Uv k hr hv _)
  |unsafeString=>exact fin (fun ty=>by rw[hap];rfl) (QDP k hr hv _ rfl)
  |_=>cases hr
 ·split at hr
  ·exact fin (fun ty=>by rw[hap];rfl) (Uv k hr hv _)
  trivial
 trivial
theorem QBh(k:Ok β h n w){T:TypeId}{x:Operand}(hr:(loD P c (.range T x)).f ih lv st m h n=some r)
  (hρ:∀z∈(Op.range T x).operands,∀a,ev c z st m=some a->V β a=some (ρ z)):Lo1 P lv β h n w (.range T x) ρ r:=by
 unfold loD at hr;simp only at hr;split at hr
 ·rename_i hu;obtain⟨a,h1,hr⟩:=QX hr;obtain⟨l,h2,hr⟩:=QX hr;have hx:=hρ x (by simp[aj]) _ h1;rw[A.dX h2]at hx;obtain⟨hx1,hx⟩:=zK hx;obtain⟨e1,g1⟩:=yb (w':=w.alloc _) (sz:=0) k hr rfl ⟨rfl,rfl,rfl,trivial⟩ ⟨hx1,rfl,rfl⟩;refine⟨_,.pointer (some ⟨w.heap.size,0,none⟩),.value _,_,fun d ty pos aft gd=>?_,.inl rfl,?_,g1⟩
  ·simp only[execOp,hx,fY,ai,run_underlying hu,af,ax,run_newObj];rfl
  ·rw[e1];show(Cu β n _ n).map _=_;rw[Ke];rfl
 ·rename_i kt e hu;obtain⟨a,h1,hr⟩:=QX hr;obtain⟨q,h2,hr⟩:=QX hr;obtain⟨b,h3,hr⟩:=QX hr;have hx:=hρ x (by simp[aj]) _ h1;rw[A.QEq h2]at hx;obtain⟨p,hp,hx⟩:=V_m hx;obtain⟨p',o,k1,k2,k3⟩:=k.ob q b h3;rw[hp]at k1;cases k1;split at hr
  ·rename_i es ck e0;rw[e0]at k3;obtain⟨ents,rfl,_⟩:=k3;obtain⟨e1,g1⟩:=yb (w':=w.alloc (.mapIter (some p.Y1) ck #[] ck)) (sz:=0) k hr rfl ⟨rfl,rfl,rfl,trivial⟩ ⟨rfl,p,hp,by simp⟩;refine⟨_,.pointer (some ⟨w.heap.size,0,none⟩),.value _,_,fun d ty pos aft gd=>?_,.inl rfl,?_,g1⟩
   ·have eg:(getObj p.Y1).run P w = .ok (.map ents ck) w:=by grind[getObj,bI]
    simp only[execOp,hx,fY,ai,run_underlying hu,af,ax,run_newObj,eg];rfl
   ·rw[e1];show(Cu β n _ n).map _=_;rw[Ke];rfl
  trivial
 trivial
theorem QD9(k:Ok β h n w){T U:TypeId}{x:Operand}(hr:(loD P c (.convert T U x)).f ih lv st m h n=some r)
  (hρ:∀z∈(Op.convert T U x).operands,∀a,ev c z st m=some a->V β a=some (ρ z)):Lo1 P lv β h n w (.convert T U x) ρ r:=by
 obtain⟨a,h1,hr⟩:=QX (show bd (ev c x st m) (fun a=>bd a.S fun l=>bd _ fun e=>gu _ _)=some r from hr);obtain⟨l,h2,hr⟩:=QX hr;obtain⟨e,h3,hr⟩:=QX hr;obtain⟨h4,hr⟩:=Q5 hr;rw[X6]at hr;split at hr
 ·have hx:=hρ x (by simp[aj]) _ h1;rw[A.dX h2]at hx;obtain⟨hx1,hx⟩:=zK hx;have hs:P.underlying T=some .string:=by
   grind[WE]
  have he:P.underlying e=some (.int .u8):=by
   grind[u8B]
  have hrun:=Lib.run_convert_string_bytes w T U e (GK l) hs (vO h3) he;have hgc:=grownCap_ge w (GK l).size 0 e;have hcs:(aK w e (GK l)).size=grownCap w (GK l).size 0 e:=by
   have:(GK l).data.size=(GK l).size:=rfl
   grind[aK]
  have hwh:(Lib.bytesWorld w e (GK l)).heap=w.heap.push (.cells (aK w e (GK l)) e ((aK w e (GK l)).size,(aK w e (GK l)).size+1)):=by
   apply fq
   grind[Lib.bytesWorld_at_new,Lib.bytesWorld_at_old,Lib.bytesWorld_size]
  obtain⟨e1,g1⟩:=yb (sz:=(aK w e _).size) k hr hwh ⟨rfl,rfl,rfl,trivial⟩ ⟨_,_,_,byteCells _,rfl,rfl,Bh hx1,fun i v hi=>by
   unfold aK
   grind[byteCells],by
   simp[TK,aK,GK,eO,VC]⟩
  refine⟨_,.slice (some ⟨w.heap.size,0,none⟩) (GK l).size (grownCap w (GK l).size 0 e),.value _,_,fun d ty pos aft gd=>?_,.inl rfl,?_,g1⟩
  ·simp only[execOp,hx,ai,hrun];rfl
  ·rw[e1];have hd:(⟨w.heap.size,0,(aK w e _).size⟩:Pl).size-(0+0)=grownCap w (GK l).size 0 e:=hcs;rw[Ci (Ke β n _) (by simp_all[ig,VC])];rw[hd,ig,VC];rfl
 trivial
theorem asc{l:List Nat}{pos c d:Nat}(hl:RH l=true)(h:utf l pos=some (c,d)):Utf8.decode (GK l) pos=(c,d):=by
 obtain⟨x,h1,h⟩:=QX h;obtain⟨h2,h⟩:=Q5 h;cases aa h;have h2:=ae h2;have hp:pos<(GK l).size:=by grind[VC]
 have e:((GK l)[pos]'hp)=aF c:=by
  show(GK l).data[pos]=_
  grind[GK]
 grind[GK,bm,bj,decode_ascii]
theorem IJ(f:Nat->Bool):∀ {es:List _} {ents:List _},En β es ents->En β (es.filter fun e=>f e.2.2) (ents.filter fun e=>f e.born)
 |[],[],_=>trivial
 |(k,v,b)::es,e::ents,⟨h1,h2,h3,h4⟩=>by
  rw[fD,fD,h3];cases f b with
  |true=>exact⟨h1,h2,h3,IJ f h4⟩
  |false=>exact IJ f h4
 |[],_::_,h=>h.elim
 |_::_,[],h=>h.elim
theorem QC2(f:Nat->Bool):∀ {es:List _} {ents:List _},En β es ents->(ents.all fun e=>f e.born)=(es.all fun e=>f e.2.2)
 |[],[],_=>rfl
 |(k,v,b)::es,e::ents,⟨h1,h2,h3,h4⟩=>by rw[bB,bB,h3,QC2 f h4]
 |[],_::_,h=>h.elim
 |_::_,[],h=>h.elim
theorem QHv{es:List _}{ents:List _}(h:En β es ents):ents.isEmpty=es.isEmpty:=by
 cases es<;>cases ents<;>first | rfl | trivial
theorem QD8(k:Ok β h n w){x:Operand}{str:Bool}(hr0:(loD P c (.next x str)).f ih lv st m h n=some r)
  (hρ:∀z∈(Op.next x str).operands,∀a,ev c z st m=some a->V β a=some (ρ z)):Lo1 P lv β h n w (.next x str) ρ r:=by
 obtain⟨a,h1,hr1⟩:=QX (show bd (ev c x st m) (fun a=>bd a.P fun q=>gu _<|bd (h.get q.1) fun b=>gu _ _)=some r from hr0);obtain⟨q,h2,hr2⟩:=QX hr1;obtain⟨h3,hr3⟩:=Q5 hr2;obtain⟨b,h4,hr4⟩:=QX hr3;obtain⟨h5,hr5⟩:=Q5 hr4;clear hr0 hr1 hr2 hr3 hr4;have h3:=ah h3;have h5:=ae h5;have hx:=hρ x (by simp[aj]) _ h1;rw[A.Ck h2]at hx;obtain⟨p,hp,hx⟩:=qp hx;obtain⟨p',o,k1,k2,k3⟩:=k.ob q.1 b h4;rw[hp]at k1;cases k1;split at hr5
 ·rename_i l pos e0;rw[e0]at k3;obtain⟨g1,rfl,g3⟩:=k3;have hx:ρ x = .pointer (some ⟨p.Y1,0,none⟩):=by grind[Pl.at]
  obtain⟨hs,hr6⟩:=Q5 hr5;subst hs;have eg:(getObj p.Y1).run P w = .ok (.stringIter (GK l) pos) w:=by grind[getObj,bI]
  have es':∀o':Obj,(setObj p.Y1 o').run P w = .ok () { w with heap:=w.heap.setIfInBounds p.Y1 o' }:=fun o'=>by grind[setObj,bI]
  rw[cond_eq_ite]at hr6;split at hr6
  ·rename_i hlt;have hlt:=ae hlt;obtain⟨cc,h6,hr7⟩:=QX hr6;obtain⟨e1,e2,e3⟩:=YE hr7;have hd:=asc g1 (show utf l pos=some (cc.1,cc.2)from h6);refine⟨β,.tuple #[.bool true,goInt pos,.int .i32 _],.value _,{ w with heap:=w.heap.setIfInBounds p.Y1 (.stringIter (GK l) (pos+cc.2)) },fun d ty pos' aft gd=>?_,.inl rfl,by rw[e1];rfl,?_⟩
   ·have hps:pos<(GK l).size:=by grind[VC]
    simp only[execOp,hx,eR,ai,eg,af,if_pos hps,hd,es',ax];rfl
   ·rw[e2,e3];exact Mv.put k h4 hp h5 rfl ⟨rfl,rfl,rfl,trivial⟩ ⟨g1,rfl,g3⟩
  ·rename_i hlt;obtain⟨e1,e2,e3⟩:=YE hr6;refine⟨β,.tuple #[.bool false],.value _,w,fun d ty pos' aft gd=>?_,.inl rfl,by rw[e1];rfl,by grind[Mv.refl]⟩;have hps:¬pos<(GK l).size:=by grind[VC,aD]
   simp only[execOp,hx,eR,ai,eg,af,if_neg hps,ax]
 ·rename_i pm since seen last e0;rw[e0]at k3;obtain⟨g3,pq,g4,rfl⟩:=k3;have hx:ρ x = .pointer (some ⟨p.Y1,0,none⟩):=by grind[Pl.at]
  obtain⟨hs,hr6⟩:=Q5 hr5;have hs:str=false:=by simp_all
  subst hs;obtain⟨d,h6,hr7⟩:=QX hr6;clear hr5 hr6;obtain⟨pm',om,m1,m2,m3⟩:=k.ob pm d h6;rw[g4]at m1;cases m1;split at hr7
  ·rename_i es clock e1;rw[e1]at m3;obtain⟨ents,rfl,m4⟩:=m3;obtain⟨h7,hr8⟩:=Q5 hr7;have hseen:(seen.reverse.toArray:Array Nat).isEmpty=seen.isEmpty:=by simp
   have hcon:∀x,(seen.reverse.toArray:Array Nat).contains x=seen.contains x:=fun x=>by simp
   have hc0:(!(seen.reverse.toArray:Array Nat).isEmpty&&!ents.isEmpty&&ents.all fun x=>decide (x.born>=last))=false:=by
    have a1:ents.isEmpty=es.isEmpty:=by rw[<-QHv m4];simp
    have a2:(ents.all fun x=>decide (x.born>=last))=es.all fun x=>ak last x.2.2:=by
     rw[<-QC2 (fun b=>ak last b) m4,<-Array.all_toList];congr 1;funext x;rw[Bool.eq_iff_iff];simp
    grind
   have hfil:(ents.filter fun e=>!(seen.reverse.toArray:Array Nat).contains e.born).toList=ents.toList.filter fun e=>!seen.contains e.born:=by
    simp
   have hF:=IJ (fun b=>!seen.contains b) m4;have eg:(getObj p.Y1).run P w = .ok (.mapIter (some pq.Y1) since seen.reverse.toArray last) w:=by grind[getObj,bI]
   have eg2:(getObj pq.Y1).run P w = .ok (.map ents clock) w:=by grind[getObj,bI]
   have es':∀o':Obj,(setObj p.Y1 o').run P w = .ok () { w with heap:=w.heap.setIfInBounds p.Y1 o' }:=fun o'=>by grind[setObj,bI]
   have ech:(choose (Question.mapNext 1)).run P w = .ok 0 w:=by rfl
   unfold QFG at hr8;split at hr8
   ·rename_i hnil;rw[hnil]at hF;have hl:(ents.filter fun e=>!(seen.reverse.toArray:Array Nat).contains e.born)=#[]:=by
     apply ic;rw[hfil];revert hF;cases (ents.toList.filter fun e=>!seen.contains _)with
     |nil=>simp
     |cons _ _=>intro h;trivial
    obtain⟨e1,e2,e3⟩:=YE hr8;refine⟨β,.tuple #[.bool false],.value _,w,fun d ty pos' aft gd=>?_,.inl rfl,by rw[e1];rfl,by grind[Mv.refl]⟩;simp only[execOp,hx,eR,ai,eg,eg2,af,hc0,au,if_false,ax,hl];simp_all
   ·rename_i e hone;rw[hone]at hF;obtain⟨h8,hr9⟩:=Q5 hr8;have h8:=ae h8;obtain⟨en,hl,h9,h10,h11⟩:∃en,(ents.filter fun e=>!(seen.reverse.toArray:Array Nat).contains e.born)=#[en]/\V β e.1=some en.key/\V β e.2.1=some en.val/\en.born=e.2.2:=by
     revert hF;cases hq:(ents.toList.filter fun e=>!seen.contains _)with
     |nil=>intro h;trivial
     |cons en t=>cases t with
      |cons _ _=>intro h;exact h.2.2.2.elim
      |nil=>intro h;exact⟨en,by grind,h.1,h.2.1,h.2.2.1⟩
    obtain⟨e1,e2,e3⟩:=YE hr9;refine⟨β,.tuple #[.bool true,en.key,en.val],.value _,{ w with heap:=w.heap.setIfInBounds p.Y1 (.mapIter (some pq.Y1) since (seen.reverse.toArray.push en.born) clock) },fun d ty pos' aft gd=>?_,.inl rfl,?_,?_⟩
    ·have hlt:en.born<since:=by omega
     have hge:¬en.born>=since:=by omega
     simp only[execOp,hx,eR,ai,eg,eg2,af,hc0,au,if_false,ax,hl];simp_all
    ·rw[e1];exact by unfold V;rw[Vk (show V β _=some _ from rfl) (Vk h9 (Vk h10 (show Vs β []=some []from rfl)))];rfl
    ·rw[e2,e3];exact Mv.put k h4 hp h5 rfl ⟨rfl,rfl,rfl,trivial⟩ ⟨g3,pq,g4,by simp_all⟩
   trivial
  trivial
 trivial
end
end Go.Ev
namespace Go.Ev
open Go.RowKit
section
variable{P:Program}{β:Be}{c:Lc}{st:List A}{m:Tr A}{ρ:Operand->Value}{h:Tr B}{n:Po}{w w':World}{lv:Nat}{r:R}{ih:Ih}
theorem QBi(k:Ok β h n w){T:TypeId}{x y z:Operand}{o:Op}(ho:∀d ty pos aft gd,execOp ρ ⟨d,o,ty,pos,aft,gd⟩=(bZ T (ρ x) (ρ y) (ρ z) >>= fun _=>pure Next.skip))
  (hr:(match cX P T with
  |none=>(⟨fun _ _ _ _ _ _=>none⟩:Bx Fo)
  |some w=>Bx.casesOn w.1 fun eq=>⟨fun _ lv st m h n=>bd (ev c x st m) fun a=>bd a.M fun q=>bd (ev c y st m) fun k=>bd (ev c z st m) fun v=>Ow eq lv h n q k v⟩).f ih lv st m h n=some r)
  (hx:∀a,ev c x st m=some a->V β a=some (ρ x)) (hy:∀a,ev c y st m=some a->V β a=some (ρ y)) (hz:∀a,ev c z st m=some a->V β a=some (ρ z)):Lo1 P lv β h n w o ρ r:=by
 split at hr
 ·cases hr
 ·rename_i q hq;obtain⟨a,h1,hr1⟩:=QX (show bd (ev c x st m) (fun a=>bd a.M fun nm=>bd _ fun k=>bd _ fun v=>Ow q.1.f lv h n nm k v)=some r from hr);obtain⟨nm,h2,hr2⟩:=QX hr1;obtain⟨key,h3,hr3⟩:=QX hr2;obtain⟨v,h4,hr4⟩:=QX hr3;have hx:=hx _ h1;rw[A.QEq h2]at hx;obtain⟨p,hp,hx⟩:=V_m hx;obtain⟨w',g1,g2,g3⟩:=QGi k hq hr4 hp (hy _ h3) (hz _ h4);refine⟨β,undef,.skip,w',fun d ty pos aft gd=>?_,.inr ⟨rfl,rfl⟩,by rw[g2];rfl,g3⟩;simp_all
def QG6(o:Op):Bool:=match o with | .call ⟨.value _,_,_⟩=>true | .call ⟨.invoke _ _,_,_⟩=>true | _=>false
theorem QIx(k:Ok β h n w){o:Op}(hc:QG6 o=false)(hr:(loD P c o).f ih lv st m h n=some r)
  (hρ:∀z∈o.operands,∀a,ev c z st m=some a->V β a=some (ρ z)):Lo1 P lv β h n w o ρ r:=by
 cases o with
 |store T x y=>grind[QBg]
 |mapUpdate T x y z=>exact QBi k (fun d ty pos aft gd=>rfl) hr (hρ x (by simp[aj])) (hρ y (by simp[aj])) (hρ z (by simp[aj]))
 |insert T x y z=>exact QBi k (fun d ty pos aft gd=>rfl) hr (hρ x (by simp[aj])) (hρ y (by simp[aj])) (hρ z (by simp[aj]))
 |range T x=>grind[QBh]
 |next x s=>grind[QD8]
 |convert s d x=>grind[QD9]
 |call ca =>
  obtain⟨cl,args,ts⟩:=ca;cases cl with
  |value f=>cases hc
  |builtin b=>grind[QIy]
  |invoke x name=>cases hc
 |_=>cases hr
end
end Go.Ev
namespace Go.Ev
structure Open(F:Fence):Prop where
 fn:∀f,F.fn f
 depth:F.depth=none
 calls:∀ {n:Nat} {P:Program} {f:FuncId} {args:Array Value} {w:World} {R:Ending->World->Prop},Calls P f args w R->CallsIn F n P f args w R
theorem G9:Open bY where
 fn:=fun _=>trivial
 depth:=rfl
 calls:=fun h=>callsIn_wide.2 h
theorem Wm(l:Nat):Open (Fence.wide.inRound l) where
 fn:=fun _=>trivial
 depth:=rfl
 calls:=fun h=>(callsIn_wide.2 h:CallsIn bY _ _ _ _ _ _)
def Enters(P:Program)(f:FuncId):Prop:=∀(args:Array Value) (w:World),(callFunc f args).run P w = .ok (.enter f args) w
theorem enters_of{P:Program}{f:FuncId}{fn:Func}(h:P.funcs[f]?=some fn)(hn:(fn.name == "runtime.NumGoroutine")=false)(hb:fn.body.isNone=false):Enters P f:=fun args w=>by
 have hb':fn.body≠none:=by intro e;rw[e]at hb;cases hb
 simp[callFunc,h,hb',beq_eq_false_iff_ne.1 hn]
end Go.Ev
namespace Go.Ev
open Go.RowKit
def Gl(β:Be)(n:Po):Prop:=128<=n.n/\∀g,g<=60->∃sz,β (po g)=some ⟨g,0,sz⟩
theorem QFD:∀(f t k:Nat),t<2^k->(poF f t).n<2^(k+1)
 |0,t,k,h=>by show 1<_;omega
 |f+1,t,k,h=>by
  unfold poF;rw[X6,X6];split
  ·show 1<_;omega
  ·have ht:t≠0:=by simp_all
   cases k with
   |zero=>omega
   |succ k =>
    have e1:bg t 1=t/2:=bQ t 1;have ih:=QFD f (bg t 1) k (by omega)
    grind[Nat.pow_succ,Po.n_o,Po.n_i]
theorem QF7{g:Nat}(h:g<=60):(po g).n<128:=QFD g g 6 (by omega)
section
variable{P:Program}{β β':Be}{h h':Tr B}{n n':Po}{w w':World}{lv:Nat}{X:Nat->Bool}
theorem Gl.mv(g:Gl β n)(k:Mv lv β h n w β' h' n' w'):Gl β' n' :=
 ⟨aR g.1 k.le,fun i hi=>by obtain⟨sz,e⟩:=g.2 i hi;exact⟨sz,by rw[k.old _ (aA (QF7 hi) g.1)];exact e⟩⟩
def RS(c:Lc)(β:Be)(st:List A)(m:Tr A)(ts:Array Value):Prop:=∀t a,ev c (.tmp t) st m=some a->∃v,V β a=some v/\ts[t]?=some v
theorem RS.le{c:Lc}{st:List A}{m:Tr A}{ts:Array Value}(k:RS c β st m ts)(hle:Be.le β β'):RS c β' st m ts:=fun t a e=>by
 obtain⟨v,h1,h2⟩:=k t a e;grind[IF]
theorem CI(X:Nat->Bool)(loc:List Nat)(t:Nat)(st:List A)(m:Tr A):ev ⟨X,loc⟩ (.tmp t) st m=(match ixD t loc 0 with | some i=>CA i st | none=>cn (X t) (m.get (po t)) none):=by
 have e:oaD X loc (.tmp t)=(match ixD t loc 0 with | some i=>⟨fun st _=>CA i st⟩ | none=>cn _ ⟨fun _ m=>Tr.get _ m⟩ ⟨fun _ _=>none⟩):=rfl;unfold ev;rw[Bx.co,e];cases ixD t loc 0 with
 |some i=>rfl
 |none=>cases X t<;>rfl
theorem QFP:∀(t:Nat) (loc:List Nat) (k:Nat),ixD t loc (k+1)=(ixD t loc k).map (·+1)
 |t,[],k=>rfl
 |t,d::loc,k=>by
  show cn _ _ (ixD t loc _)=fV _ (cn _ _ (ixD t loc _));rw[X6,X6,QFP t loc _]
  grind
theorem LC(X:Nat->Bool)(loc:List Nat)(d t:Nat)(a:A)(st:List A)(m:Tr A):ev ⟨X,d::loc⟩ (.tmp t) (a::st) m=if d=t then some a else ev ⟨X,loc⟩ (.tmp t) st m:=by
 rw[CI,CI];show(match cn _ _ (ixD t loc _)with | some i=>CA i _ | none=>_)=_;rw[X6,QFP];by_cases e:d=t
 ·subst e;rw[if_pos (bz d),if_pos rfl];rfl
 ·rw[if_neg (by simp_all),if_neg e];cases ixD t loc 0<;>rfl
theorem RS.start{m:Tr A}{ts:Array Value}(k:Sl X β m ts):RS ⟨X,[]⟩ β [] m ts:=fun t a e=>by
 rw[CI]at e;replace e:cn _ _ none=some a:=e;rw[X6]at e;split at e
 ·exact k t a (by omega) e
 grind
theorem RS.push{loc:List Nat}{st:List A}{m:Tr A}{ts:Array Value}(k:RS ⟨X,loc⟩ β st m ts){d:Nat}(hd:d<ts.size){a:A}{v:Value}(hv:V β a=some v):RS ⟨X,d::loc⟩ β (a::st) m (ts.setIfInBounds d v):=fun t b e=>by
 rw[LC]at e;split at e
 ·simp_all
 ·obtain⟨u,g1,g2⟩:=k t b e;simp_all
theorem QB9{c:Lc}{st:List A}{m:Tr A}{a:Act}(k:RS c β st m a.tmps)(hg:Gl β n)(x:Operand)(b:A)(e:ev c x st m=some b):V β b=some (a.eval x):=by
 cases x with
 |tmp t =>
  obtain⟨v,h1,h2⟩:=k t b e;show _=some (a.tmps.getD t undef);simp_all
 |const v=>cases aa (show some _=some b from e);exact QCh β v
 |global g =>
  unfold ev oaD at e;simp only[X6]at e;split at e
  ·rename_i hle;cases aa (show some _=some b from e);obtain⟨sz,h1⟩:=hg.2 g (ae hle);show(β _).map _=_;rw[h1];rfl
  grind
 |func f=>cases aa (show some _=some b from e);rfl
theorem QB2(X:Nat->Bool)(t:Nat)(loc:List Nat)(a:A)(st:List A)(m:Tr A):(flD X (t::loc)).f (a::st) m=if X t then((flD X loc).f st m).put (some a) (po t)else(flD X loc).f st m:=by
 show(Bx.casesOn (motive:=fun _=>Bx (List A->Tr A->Tr A)) (flD X loc) (fun k=>cn _ ⟨fun st m=>aE st m fun a st=>(k st m).put (some a) (po t)⟩ ⟨fun st m=>aE st m fun _ st=>k st m⟩)).f _ m=_;cases flD X loc with
 |mk k =>
  cases X t<;>rfl
theorem gn{m:Tr A}{t:Nat}(hX:X t=true):∀ {loc:List Nat} {st:List A},st.length=loc.length->((flD X loc).f st m).get (po t)=ev ⟨X,loc⟩ (.tmp t) st m
 |[],[],_=>by rw[CI];rw[hX];rfl
 |d::loc,a::st,hl=>by
  have ih:=gn (m:=m) hX (loc:=loc) (st:=st) (by simp_all);rw[QB2,LC];by_cases e:d=t
  ·subst e;rw[if_pos hX,Tr.O8,if_pos rfl]
  ·rw[if_neg e,<-ih];split
   ·grind[Tr.UJ,vi]
   ·rfl
 |[],_::_,h=>by cases h
 |_::_,[],h=>by cases h
theorem QJS{m:Tr A}{ts:Array Value}{loc:List Nat}{st:List A}(hl:st.length=loc.length)(k:RS ⟨X,loc⟩ β st m ts):Sl X β ((flD X loc).f st m) ts:=fun t a hX ha=>k t a (by grind[gn])
end
end Go.Ev
namespace Go.Ev
open Go.RowKit
structure OpF(P:Program)(F:Fence):Prop where
 op:Open F
 rd:∀ {l:Nat} {f:FuncId} {tmps:Array Value} {asg body:Code} {w:World} {R:Ending->World->Prop},RoundIn bY 0 P l f tmps asg body w R->RoundIn F 0 P l f tmps asg body w R
theorem QBU(P:Program):OpF P bY:=⟨G9,fun h=>h⟩
theorem cH(P:Program)(l:Nat):OpF P (Fence.wide.inRound l):=⟨Wm l,fun h=>h⟩
def Lb(lv:Nat)(h:Tr B):Prop:=∀q x,h.get q=some x->x.lv<=lv
def CaP(lv:Nat)(β:Be)(h:Tr B)(n:Po)(w:World)(r:R)(e:Ending)(w':World):Prop:=∃v β',e = .returned v/\V β' r.a=some v/\Mv lv β h n w β' r.h r.n w'
def N2(P:Program)(lv:Nat)(g:FuncId)(args:List A)(h:Tr B)(n:Po)(r:R):Prop:=∀β w vs,Vs β args=some vs->Ok β h n w->Gl β n->Lb lv h ->
 (hasB P g=false/\∃v β' w',(callFunc g vs.toArray).run P w = .ok (.value v) w'/\V β' r.a=some v/\Mv lv β h n w β' r.h r.n w') \/
 ((callFunc g vs.toArray).run P w = .ok (.enter g vs.toArray) w/\Calls P g vs.toArray w (CaP lv β h n w r))
def RdS(P:Program)(lv:Nat)(l:Po)(args:List A)(h:Tr B)(n:Po)(r:R):Prop:=∀β w vs p,Vs β args=some vs->Ok β h n w->Gl β n->Lb lv h->β l=some p->YieldAt bY 0 P p.Y1 vs.toArray w (CaP lv β h n w r)
def MeS(P:Program)(lv:Nat)(T:TypeId)(name:String)(args:List A)(h:Tr B)(n:Po)(r:R):Prop:=∀β w v vs,Vs β args=some (v::vs)->Ok β h n w->Gl β n->Lb lv h ->
 ∃g,(callMethod (.iface T v) name vs.toArray).run P w = .ok (.enter g (v::vs).toArray) w/\Calls P g (v::vs).toArray w (CaP lv β h n w r)
def ug(P:Program)(ih:Ih):Prop:=∀tk r,ih tk=some r->match tk with
 |.ca lv g args h n=>N2 P lv g args h n r
 |.rd lv l args h n=>RdS P lv l args h n r
 |.me lv T name args h n=>MeS P lv T name args h n r
section
variable{P:Program}{β:Be}{c:Lc}{st:List A}{m:Tr A}{h:Tr B}{n:Po}{w:World}{lv:Nat}{r:R}{ih:Ih}{F:Fence}{a:Act}{Q:Exit->Act->World->Prop}{K:Act->World->Prop}
theorem QGE{ρ:Operand->Value}(k:Ok β h n w){o:Op}(hc:QG6 o=false)(hr:(qU P c o).f ih lv st m h n=some r)
  (hρ:∀z∈o.operands,∀a,ev c z st m=some a->V β a=some (ρ z)):Lo1 P lv β h n w o ρ r:=by
 unfold qU at hr;split at hr
 ·rename_i g hg;obtain⟨b,h1,hr⟩:=QX (show bd _ (fun a=>rz a h n)=some r from hr);obtain⟨e1,e2,e3⟩:=YE hr;obtain⟨v,g1,g2⟩:=QFC hg h1 hρ;exact⟨β,v,.value v,w,fun d ty pos aft gd=>g2 w d ty pos aft gd,.inl rfl,by simp_all,by grind[Mv.refl]⟩
 ·split at hr
  ·rename_i g hg;obtain⟨b,h1,hr⟩:=QX (show bd _ (fun a=>rz a h n)=some r from hr);obtain⟨e1,e2,e3⟩:=YE hr;obtain⟨v,g1,g2⟩:=QFK k.ob hg h1 hρ;exact⟨β,v,.value v,w,fun d ty pos aft gd=>g2 d ty pos aft gd,.inl rfl,by simp_all,by grind[Mv.refl]⟩
  ·split at hr
   ·rename_i g hg;obtain⟨q,h1,hr⟩:=QX (show bd (g.f st m) (fun q=>nw q.1 q.2 lv h n)=some r from hr);obtain⟨obj,sz,v,g1,g2,g3⟩:=QFH (h:=h) (n:=n) hg h1 hρ;obtain⟨e1,g4⟩:=yb (w':=w.alloc obj) k hr rfl ⟨rfl,rfl,rfl,trivial⟩ g2;exact⟨_,v,.value v,_,fun d ty pos aft gd=>g1 d ty pos aft gd,.inl rfl,by grind[Ke],g4⟩
   grind[QIx]
theorem QBY{o:Op}(hr:(qU P c o).f ih lv st m h n=some r):∀cl,o≠.defer cl:=fun cl e=>by subst e;cases hr
theorem QBT(hF:OpF P F)(k:Ok β h n w)(hg:Gl β n)(hL:Lb lv h)(hih:ug P ih){o:Oper}(hr:(qU P c o.op).f ih lv st m h n=some r)
  (hρ:∀z∈o.op.operands,∀b,ev c z st m=some b->V β b=some (a.eval z))
  (hK:∀β' v w',V β' r.a=some v->Mv lv β h n w β' r.h r.n w'->K (a.put o.dst v) w'):o.wpIn F 0 P a w K Q:=by
 unfold Oper.wpIn;refine⟨fun f _=>hF.op.fn f,?_⟩;rw[fF F _ o (QBY hr)];cases hc:QG6 o.op with
 |false =>
  obtain⟨β',v,nx,w',g1,g2,g3,g4⟩:=QGE k hc hr hρ;have:(execOp _ o).run P w = .ok nx w':=g1 o.dst _ o.pos _ _;rw[this];rcases g2 with rfl | ⟨rfl,rfl⟩
  ·exact hK β' v w' g3 g4
  ·exact hK β' undef w' g3 g4
 |true =>
  obtain⟨d,op,ty,pos,aft,gd⟩:=o;simp only at hr hc hρ hK ⊢;cases op with
  |call cl =>
   obtain⟨f,args,ts⟩:=cl;cases f with
   |value f =>
    obtain⟨x,h1,hr1⟩:=QX (show bd (ev c f st m) (fun a=>bd (HM c _ st m) fun xs=>match a with
     |.f g c=>ih _
     |.y r=>ih _
     |_=>none)=some r from hr)
    obtain⟨xs,h2,hr2⟩:=QX hr1;clear hr1 hr;have hx:=hρ f (by simp[aj,aS]) x h1;have hv:=Pp h2 fun z hz b e=>hρ z (by grind[aj,aS]) b e;have hd:F.depth.isSome=true->1<=0:=fun e=>by rw[hF.op.depth]at e;cases e
    have earg:args.map a.eval=(args.toList.map a.eval).toArray:=by grind
    split at hr2
    ·rename_i g cap;obtain⟨cv,c1,c2⟩:=V_f hx;have erun:(execOp a.eval ⟨d,.call ⟨.value f,args,ts⟩,ty,pos,aft,gd⟩).run P w=(callFunc g (args.toList.map a.eval++cv).toArray).run P w:=by
      simp only[execOp,resolve,c2,fi,ai,ax,af,invoke,earg];simp
     rw[erun];rcases hih _ _ hr2 β w _ (P2 hv c1) k hg hL with ⟨_,v,β',w',g1,g2,g3⟩ | ⟨g1,g2⟩
     ·rw[g1];exact hK β' v w' g2 g3
     ·rw[g1];refine⟨hd,hF.op.calls (g2.mono ?_)⟩;rintro e w' ⟨v,β',rfl,g3,g4⟩
      grind
    ·rename_i l;obtain⟨p,hp,c2⟩:=V_y hx;obtain⟨fn,tmps,asg,body,g1,g2⟩:=hih _ _ hr2 β w _ p hv k hg hL hp;have erun:(execOp a.eval ⟨d,.call ⟨.value f,args,ts⟩,ty,pos,aft,gd⟩).run P w = .ok (.round p.Y1 fn tmps asg body) w:=by
      simp only[execOp,resolve,c2,fi,ai,ax,af,invoke,earg];simp_all
     rw[erun];refine⟨hd,hF.rd (g2.mono ?_)⟩;rintro e w' ⟨v,β',rfl,g3,g4⟩
     grind
    trivial
   |invoke f name =>
    obtain⟨x,h1,hr1⟩:=QX (show bd (ev c f st m) (fun a=>bd (HM c _ st m) fun xs=>match a with
     |.xi T v=>ih _
     |_=>none)=some r from hr)
    obtain⟨xs,h2,hr2⟩:=QX hr1;clear hr1 hr;have hx:=hρ f (by simp[aj,aS]) x h1;have hv:=Pp h2 fun z hz b e=>hρ z (by grind[aj,aS]) b e;have hd:F.depth.isSome=true->1<=0:=fun e=>by rw[hF.op.depth]at e;cases e
    have earg:args.map a.eval=(args.toList.map a.eval).toArray:=by grind
    split at hr2
    ·rename_i T b;unfold V at hx;obtain⟨vb,b1,b2⟩:=Option.map_eq_some_iff.1 hx;obtain⟨g,g1,g2⟩:=hih _ _ hr2 β w _ _ (Vk b1 hv) k hg hL;have erun:(execOp a.eval ⟨d,.call ⟨.invoke f name,args,ts⟩,ty,pos,aft,gd⟩).run P w = .ok (.enter g (vb::args.toList.map a.eval).toArray) w:=by
      simp only[execOp,resolve,<-b2,ai,ax,af,invoke,earg]
      grind
     rw[erun];refine⟨hd,hF.op.calls (g2.mono ?_)⟩;rintro e w' ⟨v,β',rfl,g3,g4⟩
     grind
    trivial
   |_=>cases hc
  |_=>cases hc
theorem QIj(hF:OpF P F)(k:Ok β h n w)(hg:Gl β n)(hL:Lb lv h)(hs:RS c β st m a.tmps)(hih:ug P ih){o:Oper}(hr:(qU P c o.op).f ih lv st m h n=some r)
  (hK:∀β' v w',V β' r.a=some v->Mv lv β h n w β' r.h r.n w'->K (a.put o.dst v) w'):o.wpIn F 0 P a w K Q :=
 QBT hF k hg hL hih hr (fun z _ b e=>QB9 hs hg z b e) hK
end
end Go.Ev
namespace Go.Ev
open Go.RowKit
section
variable{P:Program}{X:Nat->Bool}{ih:Ih}{lv:Nat}{r:R}{h:Tr B}{n:Po}{m:Tr A}{st:List A}
theorem gM{ops l:List Oper}{o:Oper}{loc:List Nat}(hr:(TS P X ops (o::l) loc).f ih lv st m h n=some r):
    (∃r1,qY ops o=none/\(qU P ⟨X,loc⟩ o.op).f ih lv st m h n=some r1/\(TS P X ops l (qO o.dst loc)).f ih lv (push o.dst r1.a st) m r1.h r1.n=some r) \/
    ∃g t,qY ops o=some g/\wanted ⟨X,loc⟩ g st m=some t /\
      ((t=true/\∃r1,(qU P ⟨X,loc⟩ o.op).f ih lv st m h n=some r1/\(TS P X ops l (qO o.dst loc)).f ih lv (push o.dst r1.a st) m r1.h r1.n=some r) \/
       (t=false/\(qU P ⟨X,loc⟩ o.op).f=(qU P ⟨X,loc⟩ o.op).f/\(TS P X ops l (qO o.dst loc)).f ih lv (push o.dst u0 st) m h n=some r)):=by
  have e:TS P X ops (o::l) loc=(Bx.casesOn (TS P X ops l _) (fun k=>match qY ops o with
    | none=>(match C1 P ⟨X,loc⟩ o.op with
      | some g=>Bx.casesOn g fun g=>(match o.dst with
        | some _=>⟨fun ih lv st m h n=>bd (g st m) fun a=>k ih lv (a::st) m h n⟩
        | none=>⟨fun ih lv st m h n=>bd (g st m) fun _=>k ih lv st m h n⟩)
      | none=>Bx.casesOn (qU P ⟨X,loc⟩ o.op) fun f=>⟨fun ih lv st m h n=>bd (f ih lv st m h n) fun r=>k ih lv (push o.dst r.a st) m r.h r.n⟩)
    | some g=>Bx.casesOn (qU P ⟨X,loc⟩ o.op) fun f=>⟨fun ih lv st m h n=>bd (wanted ⟨X,loc⟩ g st m) fun t=>cn t (bd (f ih lv st m h n) fun r=>k ih lv (push o.dst r.a st) m r.h r.n) (k ih lv (push o.dst u0 st) m h n)⟩)):=rfl
  rw[e]at hr;cases hk:TS P X ops l _ with
  | mk k =>
  rw[hk]at hr;simp only at hr ⊢;cases hg:qY ops o with
  | none =>
    rw[hg]at hr;refine .inl ?_;unfold qU;cases hp:C1 P ⟨X,loc⟩ o.op with
    | some g =>
      rw[hp]at hr;cases g with
      | mk g =>
      simp only at hr ⊢;cases hd:o.dst with
      | some d =>
        rw[hd]at hr;obtain⟨a,h1,h2⟩:=QX (show bd _ (fun a=>k ih lv _ m h n)=some r from hr);refine⟨⟨.nm,a,.lf,h,n⟩,trivial,?_,h2⟩;rw[h1];rfl
      | none =>
        rw[hd]at hr;obtain⟨a,h1,h2⟩:=QX (show bd _ (fun _=>k ih lv st m h n)=some r from hr);refine⟨⟨.nm,a,.lf,h,n⟩,trivial,?_,h2⟩;rw[h1];rfl
    | none =>
      simp_all[qU,QX,bd,push,trivial]
  | some g =>
    rw[hg]at hr;refine .inr ?_;cases hf:qU P ⟨X,loc⟩ o.op with
    | mk f =>
    obtain⟨t,h1,h2⟩:=QX (show bd _ (fun t=>cn t _ _)=some r from hr);refine⟨g,t,rfl,h1,?_⟩;cases t with
    | true=>obtain⟨r1,h3,h4⟩:=QX h2;simp_all
    | false=>exact .inr ⟨rfl,trivial,h2⟩
end
section
variable{P:Program}{X:Nat->Bool}{ih:Ih}{lv:Nat}{F:Fence}{Q:Exit->Act->World->Prop}
theorem Li{β:Be}{loc:List Nat}{st:List A}{m:Tr A}{ops:Array Oper}{o:Oper}{ts:Array Value}{g:Option Nat×Bool}(hs:∀d,g.1=some d->∀a,ev ⟨X,loc⟩ (.tmp d) st m=some a->∃v,V β a=some v/\ts[d]?=some v){t:Bool}(hg:qY ops.toList o=some g)(hw:wanted ⟨X,loc⟩ g st m=some t):
  aQ o (yielded ops ts)=t:=by
 unfold qY at hg;split at hg
 ·cases hg
 ·rename_i j want he;have hg':=(aa hg).symm;subst hg';obtain⟨d,h1,hw⟩:=QX hw;obtain⟨oj,h2,h3⟩:=QX (show bd ops.toList[j]? _=some d from h1);obtain⟨a,h4,hw⟩:=QX hw;obtain⟨v,g1,g2⟩:=hs d h1 a h4;have hy:∀b:Option Bool,(match some v with | some (.bool b)=>some b | _=>none)=b->yielded ops ts j=b:=fun b hb=>by
   unfold yielded;have:ops[j]?=some oj:=by simpa using h2
   rw[this];show(match Option.bind oj.dst fun x=>ts[x]? with | some (.bool b)=>some b | _=>none)=b;rw[h3];show(match ts[d]? with | some (.bool b)=>some b | _=>none)=b;rw[g2];exact hb
  unfold aQ;rw[he];simp only;split at hw
  ·cases aa hw;rw[V_b g1]at hy;simp_all
  ·cases aa hw;cases aa (show some undef=some v from g1);rw[hy none rfl];rfl
  trivial
theorem ui{β:Be}{loc:List Nat}{st:List A}{m:Tr A}{ops:Array Oper}{o:Oper}{ts:Array Value}(hs:RS ⟨X,loc⟩ β st m ts){g:Option Nat×Bool}{t:Bool}(hg:qY ops.toList o=some g)(hw:wanted ⟨X,loc⟩ g st m=some t):
  aQ o (yielded ops ts)=t:=Li (fun d _ a e=>hs d a e) hg hw
theorem OT(a:Act)(d:Option Tmp)(v:Value):(a.put d v).tmps.size=a.tmps.size:=by cases d<;>simp[Act.put]
theorem jU(a:Act)(d:Option Tmp)(v:Value):(a.put d v).defers=a.defers:=by cases d<;>rfl
theorem RS.put{β:Be}{loc:List Nat}{st:List A}{m:Tr A}{a:Act}(k:RS ⟨X,loc⟩ β st m a.tmps){d:Option Tmp}(hd:kf a.tmps.size d=true){b:A}{v:Value}(hv:V β b=some v):RS ⟨X,qO d loc⟩ β (Go.Ev.push d b st) m (a.put d v).tmps:=by
 cases d with
 |none=>exact k
 |some d=>exact k.push (ae hd) hv
theorem yP{d:Option Tmp}{b:A}{st:List A}{loc:List Nat}(h:st.length=loc.length):(push d b st).length=(qO d loc).length:=by
 cases d with
 |none=>exact h
 |some d=>show st.length+1=loc.length+1;rw[h]
theorem jm(hF:OpF P F)(hih:ug P ih){ops:Array Oper}{N:Nat}:∀ {l:List Oper} {loc:List Nat} {st:List A} {m:Tr A} {h:Tr B} {n:Po} {β:Be} {a:Act} {w:World} {r:R},
  (TS P X ops.toList l loc).f ih lv st m h n=some r->(l.all fun o=>kf N o.dst)=true->a.tmps.size=N->Ok β h n w->Gl β n->Lb lv h->RS ⟨X,loc⟩ β st m a.tmps->st.length=loc.length ->
  (∀β' a' w',r.e = .nm->Sl X β' r.m a'.tmps->a'.tmps.size=N->a'.defers=a.defers->Mv lv β h n w β' r.h r.n w'->Q .normal a' w')->wpListIn F 0 P ops Q l a w
 |[],loc,st,m,h,n,β,a,w,r,hr,_,hN,hk,hg,_,hs,hl,hQ=>by
  have hr:(Bx.casesOn (motive:=fun _=>Bx Fo) (flD X loc) (fun f=>⟨fun _ _ st m h n=>some ⟨.nm,u0,f st m,h,n⟩⟩)).f ih lv st m h n=some r:=hr;cases hf:flD X loc with
  |mk f =>
  rw[hf]at hr;cases aa (show some (⟨.nm,u0,f st m,h,n⟩:R)=some r from hr);have:=QJS hl hs;rw[hf]at this;exact hQ β a w rfl this hN rfl (Mv.refl hk)
 |o::l,loc,st,m,h,n,β,a,w,r,hr,hd,hN,hk,hg,hL,hs,hl,hQ=>by
  rw[bB,aq]at hd;unfold wpListIn;have go1:∀r1,(qU P ⟨X,loc⟩ o.op).f ih lv st m h n=some r1->(TS P X _ l _).f ih lv _ m r1.h r1.n=some r->o.wpIn F 0 P a w (wpListIn F 0 P ops Q l) Q:=fun r1 h1 h2 =>
   QIj hF hk hg hL hs hih h1 fun β' v w' g1 g2=>by
    have hle:=g2.be hk;exact jm hF hih h2 hd.2 (by grind[OT]) g2.ok (hg.mv g2) (g2.yh lv (ar _) hL) ((hs.le hle).put (by simp_all) g1) (yP hl) fun β'' a' w'' q1 q2 q3 q4 q5=>hQ β'' a' w'' q1 q2 q3 (by rw[q4,jU]) (g2.trans q5)
  rcases gM hr with ⟨r1,h0,h1,h2⟩ | ⟨g,t,h0,h1,h2⟩
  ·have:aQ o (yielded ops a.tmps)=true:=by
    grind[aQ,qY]
   simp_all
  ·have hw:=ui hs h0 h1;rcases h2 with ⟨rfl,r1,h2,h3⟩ | ⟨rfl,_,h3⟩
   ·simp_all
   ·rw[if_neg (by simp_all)];refine⟨fun f _=>hF.op.fn f,?_⟩;exact jm hF hih h3 hd.2 (by grind[OT]) hk hg hL (hs.put (by simp_all) QKy) (yP hl) fun β'' a' w'' q1 q2 q3 q4 q5=>hQ β'' a' w'' q1 q2 q3 (by rw[q4,jU]) q5
end
end Go.Ev
namespace Go.Ev
open Go.RowKit
theorem dL(m t:Nat):bit m t=m.testBit t:=by
 have e1:eV (bg m t) 1=(m >>> t)%2:=Nat.and_one_is_mod _;unfold bit;rw[e1,Nat.testBit_eq_decide_div_mod_eq,bQ];have:=Nat.mod_two_eq_zero_or_one (m/2^t);rcases this with h | h<;>rw[h]<;>rfl
theorem Sw(a b t:Nat):bit (eG a b) t=(bit a t||bit b t):=by
 simp[dL,Nat.testBit_or]
theorem xb(k t:Nat):bit (bD 1 k) t=decide (k=t):=by
 simp[dL,bD,Nat.one_shiftLeft,Nat.testBit_two_pow]
theorem QCY(t:Nat):bit 0 t=false:=by simp[dL,Nat.zero_testBit]
theorem xM{acc:List Nat}{j:Nat}:∀ {es:List Edge},bit (dC acc es) j=true->∃e∈es,aW .any e=true/\(e.on=j\/bit (acc.getD e.on 0) j=true)
 |[],h=>by rw[show dC acc []=0 from rfl,QCY]at h;cases h
 |e::es,h=>by
  have e1:dC acc (e::es)=cn _ _ _:=rfl;rw[e1,X6]at h;split at h
  ·rw[Sw,Sw,xb,bF,bF]at h;rcases h with h | h | h
   ·obtain⟨x,h1,h2⟩:=xM h;grind
   all_goals simp_all
  ·obtain⟨x,h1,h2⟩:=xM h;grind
theorem QCI{acc:List Nat}{j:Nat}{e:Edge}:∀ {es:List Edge},e∈es->aW .any e=true->(e.on=j\/bit (acc.getD e.on 0) j=true)->bit (dC acc es) j=true
 |x::es,h,hb,hj=>by
  have e1:dC acc (x::es)=cn _ (eG (dC acc es) _) (dC acc es):=rfl;rw[e1,X6];rcases List.mem_cons.1 h with rfl | h
  ·rw[if_pos hb,Sw,Sw,xb];simp_all
  ·have:=QCI h hb hj;split
   ·rw[Sw,this];rfl
   omega
theorem uP:∀(l:List Oper) (acc:List Nat),∃r,zJ l acc=acc++r/\r.length=l.length
 |[],acc=>⟨[],by show acc=_;simp,rfl⟩
 |o::l,acc=>by
  obtain⟨r,h1,h2⟩:=uP l (acc++[dC acc o.after.toList]);simp_all[dC,zJ]
theorem QCH:∀(l:List Oper) (acc:List Nat) (i:Nat) (o:Oper),l[i]?=some o->(zJ l acc).getD (acc.length+i) 0=dC ((zJ l acc).take (acc.length+i)) o.after.toList
 |[],acc,i,o,h=>by cases h
 |x::l,acc,0,o,h=>by
  cases aa h;obtain⟨r,h1,_⟩:=uP l (acc++[dC acc x.after.toList]);simp_all[zJ,dC]
 |x::l,acc,i+1,o,h=>by
  have:=QCH l (acc++[dC acc x.after.toList]) i o (by trivial);rw[aH,List.length_singleton,bT,Nat.add_comm 1 i]at this;exact this
theorem getD_take{l:List Nat}{n i:Nat}(h:i<n):(l.take n).getD i 0=l.getD i 0:=by
 simp_all
structure Rg(P:Program)(ops:List Oper)(D:Nat->Nat):Prop where
 lt:∀ {k j},k<ops.length->bit (D k) j=true->j<k
 ex:∀ {k j:Nat} {o:Oper},ops[k]?=some o->bit (D k) j=true->∃e∈o.after.toList,aW .any e=true/\(e.on=j\/bit (D e.on) j=true)
 mkk:∀ {k j:Nat} {o:Oper},ops[k]?=some o->∀e∈o.after.toList,aW .any e=true->(e.on=j\/bit (D e.on) j=true)->bit (D k) j=true
 on:∀ {k:Nat} {o:Oper},ops[k]?=some o->∀e∈o.after.toList,aW .any e=true->e.on<k
 sl:∀ {k:Nat} {o:Oper} {t:Nat},ops[k]?=some o->t∈slotsOf ops o->t<1000000
 ds:∀ {i j:Nat} {o q:Oper} {d:Nat},ops[i]?=some o->ops[j]?=some q->i≠j->q.dst=some d->o.dst≠some d
 rd:∀ {i j:Nat} {o q:Oper} {d:Nat},ops[i]?=some o->ops[j]?=some q->i≠j->q.dst=some d->d∈slotsOf ops o->bit (D i) j=true\/bit (D j) i=true
 ld:∀ {i j:Nat} {o q:Oper},ops[i]?=some o->ops[j]?=some q->i<j->VH P o.op=true->VH P q.op=true->bit (D j) i=true
theorem QGI{P:Program}{ops:List Oper}(h:okR P ops (zJ ops []) (ops.map fun o=>VH P o.op)=true):Rg P ops (fun k=>(zJ ops []).getD k 0):=by
 unfold okR at h;rw[aB]at h;have h1:∀ {i o},ops[i]?=some o->(∀e∈o.after.toList,aW .any e=true->e.on<i)/\(∀t∈slotsOf ops o,t<1000000)/\∀ {j q},ops[j]?=some q->i≠j ->
   (∀t,q.dst=some t->o.dst≠some t/\(t∈slotsOf ops o->bit ((zJ ops []).getD i 0) j=true\/bit ((zJ ops []).getD j 0) i=true))/\(i<j->VH P o.op=true->VH P q.op=true->bit ((zJ ops []).getD j 0) i=true):=fun {i o} ho=>by
  have hlt:=(List.getElem?_eq_some_iff.1 ho).1;have g:=h i (List.mem_range.2 hlt);rw[ho]at g;simp only[aq,aB]at g;refine⟨fun e he hb=>?_,fun t ht=>ae (g.2.1 t ht),fun {j q} hq hij=>?_⟩
  ·have:=g.1 e he;rw[hb]at this;exact ae (by trivial)
  ·have hjl:=(List.getElem?_eq_some_iff.1 hq).1;have g2:=g.2.2 j (List.mem_range.2 hjl);rw[hq]at g2;simp only[bF,aq]at g2;rcases g2 with g2 | ⟨g2,g3⟩
   ·simp_all
   ·refine⟨fun t ht=>?_,fun h1 h2 h3=>?_⟩
    ·rw[ht]at g2;simp only[aq,bF,eE,List.any_eq_false]at g2
     grind[ao,bz,absurd]
    grind[VH,List.getD,aD]
 have hat:∀ {k o},ops[k]?=some o->(zJ ops []).getD k 0=dC ((zJ ops []).take k) o.after.toList:=fun {k o} ho=>by
  have:=QCH ops [] k o ho;simp_all
 have hex:∀ {k j o},ops[k]?=some o->bit ((zJ ops []).getD k 0) j=true->∃e∈o.after.toList,aW .any e=true/\(e.on=j\/bit ((zJ ops []).getD e.on 0) j=true):=fun {k j o} ho hb=>by
  grind[xM,getD_take]
 refine⟨fun {k j} hk hb=>?_,hex,fun {k j o} ho e he hb hj=>?_,fun ho=>(h1 ho).1,fun ho ht=>(h1 ho).2.1 _ ht,fun ho hq hij hd=>(((h1 ho).2.2 hq hij).1 _ hd).1,fun ho hq hij hd=>(((h1 ho).2.2 hq hij).1 _ hd).2,fun ho hq hij=>((h1 ho).2.2 hq (by omega)).2 hij⟩
 ·induction k using eP generalizing j with
  |_ k ih =>
   obtain⟨o,ho⟩:∃o,ops[k]?=some o:=⟨ops[k],by simp⟩;obtain⟨e,e1,e2,e3⟩:=hex ho hb;have hlt:=(h1 ho).1 e e1 e2;rcases e3 with e3 | e3
   ·omega
   ·have:=ih e.on hlt (by omega) e3;omega
 grind[QCI,getD_take]
theorem Rg.tr{P:Program}{ops:List Oper}{D:Nat->Nat}(g:Rg P ops D){k j i:Nat}(hk:k<ops.length)(h1:bit (D k) j=true)(h2:bit (D j) i=true):bit (D k) i=true:=by
 induction k using eP with
 |_ k ih =>
  obtain⟨o,ho⟩:∃o,ops[k]?=some o:=⟨ops[k],by simp⟩;obtain⟨e,e1,e2,e3⟩:=g.ex ho h1;have hlt:=g.on ho e e1 e2;refine g.mkk ho e e1 e2 (.inr ?_)
  grind
end Go.Ev
namespace Go.Ev
open Go.RowKit
noncomputable def rs (β:Be) (n:Po):Be:=fun q=>if q.n<n.n then β q else none
theorem WI(β:Be)(n:Po):Be.le (rs β n) β:=fun q p h=>by
 grind[rs]
theorem Ba{β β':Be}{n n':Po}(h:n.n<=n'.n)(k:∀q:Po,q.n<n.n->∀p,β q=some p->β' q=some p):Be.le (rs β n) (rs β' n'):=fun q p e=>by
 unfold rs at e ⊢
 grind
theorem qH{β:Be}{n q:Po}(h:q.n<n.n):rs β n q=β q:=if_pos h
theorem QIW{β:Be}{n q:Po}(h:n.n<=q.n):rs β n q=none:=if_neg (by omega)
theorem jl{β:Be}{n q:Po}(h:nmP n q=true){f:Pl->Value}{v:Value}(e:(β q).map f=some v):(rs β n q).map f=some v:=by
 rw[qH (ae h)];exact e
mutual
theorem gG{β:Be}{n:Po}:∀(a:A) (v:Value),gH n a=true->V β a=some v->V (rs β n) a=some v
 |.i _ _,_,_,e=>e
 |.b _,_,_,e=>e
 |.s _,_,_,e=>e
 |.k _,_,_,e=>e
 |.p q _,_,h,e=>by unfold gH at h;exact jl h e
 |.l q _ _ _,_,h,e=>by unfold gH at h;exact jl h e
 |.o q _ _ _,_,h,e=>by
  unfold gH at h;unfold V at e ⊢;rw[qH (ae h)];exact e
 |.m q,_,h,e=>by unfold gH at h;exact jl h e
 |.y q,_,h,e=>by unfold gH at h;exact jl h e
 |.f _ l,_,h,e=>by
  unfold gH at h;unfold V at e ⊢;obtain⟨r,h1,h2⟩:=Option.map_eq_some_iff.1 e;rw[I8 l r h h1];exact congrArg some h2
 |.g l,_,h,e=>by
  unfold gH at h;unfold V at e ⊢;obtain⟨r,h1,h2⟩:=Option.map_eq_some_iff.1 e;rw[I8 l r h h1];exact congrArg some h2
 |.t l,_,h,e=>by
  unfold gH at h;unfold V at e ⊢;obtain⟨r,h1,h2⟩:=Option.map_eq_some_iff.1 e;rw[I8 l r h h1];exact congrArg some h2
 |.xi _ b,_,h,e=>by
  unfold gH at h;unfold V at e ⊢;obtain⟨r,h1,h2⟩:=Option.map_eq_some_iff.1 e;rw[gG b r h h1];exact congrArg some h2
theorem I8{β:Be}{n:Po}:∀(l:List A) (vs:List Value),cJ n l=true->Vs β l=some vs->Vs (rs β n) l=some vs
 |[],_,_,e=>e
 |a::l,vs,h,e=>by
  unfold cJ at h;rw[aq]at h;obtain⟨v,r,h1,h2,rfl⟩:=XI e;exact Vk (gG a v h.1 h1) (I8 l r h.2 h2)
end
theorem QAn{a b:Value}(h:QAo a b=true):a=b:=by
 unfold QAo at h;split at h
 all_goals simp_all
mutual
theorem MW:∀(a b:A),same a b=true->a=b
 |.i k n,b,h=>by
  unfold same at h;cases b<;>simp only[aq,au]at h;obtain⟨h1,h2⟩:=h;rw[YW h1];rw[eqI_eq,beq_iff_eq]at h2;rw[h2]
 |.b x,b,h=>by
  unfold same at h;cases b<;>simp only[au]at h;rw[beq_iff_eq]at h;rw[h]
 |.s x,b,h=>by
  unfold same at h;cases b<;>simp only[au]at h;rw[eqL_eq h]
 |.k x,b,h=>by
  unfold same at h;cases b<;>simp only[au]at h;rw[QAn h]
 |.p n o,b,h=>by
  unfold same at h;cases b<;>simp only[aq,au]at h;rw[Po.eq_eq h.1,ah h.2]
 |.l n o x y,b,h=>by
  unfold same at h;cases b<;>simp only[aq,au]at h;rw[Po.eq_eq h.1,ah h.2.1,ah h.2.2.1,ah h.2.2.2]
 |.o n o x y,b,h=>by
  unfold same at h;cases b<;>simp only[aq,au]at h;rw[Po.eq_eq h.1,ah h.2.1,ah h.2.2.1,ah h.2.2.2]
 |.m n,b,h=>by
  unfold same at h;cases b<;>simp only[au]at h;rw[Po.eq_eq h]
 |.y n,b,h=>by unfold same at h;cases b<;>simp only[au]at h
 |.f g l,b,h=>by
  unfold same at h;cases b<;>simp only[aq,au]at h;rw[ah h.1,Eh _ _ h.2]
 |.g l,b,h=>by
  unfold same at h;cases b<;>simp only[au]at h;rw[Eh _ _ h]
 |.t l,b,h=>by
  unfold same at h;cases b<;>simp only[au]at h;rw[Eh _ _ h]
 |.xi T c,b,h=>by
  unfold same at h;cases b<;>simp only[aq,au]at h;rw[ah h.1,MW _ _ h.2]
theorem Eh:∀(l r:List A),Rk l r=true->l=r
 |[],[],_=>rfl
 |a::l,b::r,h=>by
  unfold Rk at h;rw[aq]at h;rw[MW a b h.1,Eh l r h.2]
 |[],_::_,h=>by unfold Rk at h;cases h
 |_::_,[],h=>by unfold Rk at h;cases h
end
theorem QEm{mask:Nat}{q:Po}{b:B}:∀ {v:Vw},(act mask v).get q=some b->(∃x∈v.pd,bit mask x.j=true/\x.n=q/\x.b=b)\/v.h.get q=some b:=by
 rintro⟨h,pd⟩ hb
 induction pd with
 |nil=>exact .inr hb
 |cons x pd ih =>
  have e:act mask ⟨h,x::pd⟩=cn _ ((act mask ⟨h,pd⟩).put _ x.n) (act mask ⟨h,pd⟩):=rfl
  grind[X6,Tr.KK,aa]
theorem QCf{q:Po}{b:B}:∀ {v:Vw},(QAJ v).get q=some b->(∃x∈v.pd,x.n=q/\x.b=b)\/v.h.get q=some b:=by
 rintro⟨h,pd⟩ hb
 induction pd<;>grind[Tr.KK,QAJ,aa]
theorem jN{mask:Nat}{x:Pn}:∀ {pd:List Pn},x∈rst mask pd->x∈pd/\bit mask x.j=false
 |[],h=>by cases h
 |y::pd,h=>by
  have e:rst mask (y::pd)=cn _ _ _:=rfl;rw[e,X6]at h;split at h
  ·obtain⟨h1,h2⟩:=jN h;simp_all
  ·rcases List.mem_cons.1 h with rfl | h
   ·simp_all
   ·obtain⟨h1,h2⟩:=jN h;simp_all
theorem dG{dm:Nat}{v:Vw}{x:Ms}:∀ {ms:List Ms},ckM dm v ms=true->x∈ms->bit dm x.j=true\/x.g (act x.mask v)=some x.a
 |y::ms,h,hx=>by
  have e:ckM dm v (y::ms)=cn _ _ _:=rfl;rw[e,X6]at h;split at h
  ·rcases List.mem_cons.1 hx with rfl | hx
   ·simp_all
   ·exact dG h hx
  ·cases hg:y.g (act y.mask v)with
   |none=>simp_all
   |some a =>
    rw[hg]at h;replace h:cn _ _ false=true:=h;rw[X6]at h;split at h
    ·rcases List.mem_cons.1 hx with rfl | hx
     ·grind[MW]
     ·exact dG h hx
    grind
theorem QCQ{g:Tr B->Option A}{mask:Nat}{a:A}{x:Hv}:∀ {l l':List Hv},ckE g mask a (l++x::l')=true->(∀y∈l,bit mask y.j=false)->bit mask x.j=false->g (act mask x.v)=some a
 |[],l',h,_,hx=>by
  have e:ckE g mask a ([]++x::l')=cn _ true _:=rfl;rw[e,X6,hx,if_neg (by decide)]at h;cases hg:g _ with
  |none=>simp_all
  |some b =>
   rw[hg]at h
   grind[cn,same,ckE,X6,MW]
 |y::l,l',h,hl,hx=>by
  have e:ckE g mask a (y::l++x::l')=cn _ true _:=rfl;rw[e,X6,hl y (by simp),if_neg (by decide)]at h;cases hg:g (act mask y.v)with
  |none=>simp_all
  |some b =>
   rw[hg]at h;replace h:cn _ _ false=true:=h;rw[X6]at h;split at h
   ·exact QCQ h (fun z hz=>hl z (by grind)) hx
   grind
end Go.Ev
namespace Go.Ev
open Go.RowKit
section
variable{P:Program}
theorem QKS(c c':Lc)(o:Op):(C1 P c o).isNone=(C1 P c' o).isNone:=by
 unfold C1;split<;>first | rfl | grind
theorem QKb(c c':Lc)(o:Op):(jk P c o).isNone=(jk P c' o).isNone:=by
 unfold jk;split<;>first | rfl | grind
theorem QKZ(c c':Lc)(o:Op):(p6 P c o).isNone=(p6 P c' o).isNone:=by
 unfold p6;grind
theorem Pe(c:Lc)(o:Op):VH P o=((C1 P c o).isNone&&(jk P c o).isNone&&(p6 P c o).isNone):=by
 grind[VH,QKS,QKb,QKZ]
def Wnt(X:Nat->Bool)(ops:List Oper)(loc:List Nat)(o:Oper)(st:List A)(m:Tr A):Prop:=qY ops o=none\/∃g,qY ops o=some g/\wanted ⟨X,loc⟩ g st m=some true
inductive SK(P:Program)(ih:Ih)(lv:Nat)(m:Tr A)(X:Nat->Bool)(ops:List Oper)(i dm:Nat)(lt:Bool)(loc:List Nat)(o:Oper)(z:Z):Z->Prop
 |off (g:Option Nat×Bool) (h1:qY ops o=some g) (h2:wanted ⟨X,loc⟩ g z.st m=some false):SK P ih lv m X ops i dm lt loc o z ⟨u0::z.st,z.v,z.n,(cn (VH P o.op) (⟨i,z.v⟩::z.hs) z.hs),z.ms⟩
 |pu (g:Bx Ac) (a:A) (h0:Wnt X ops loc o z.st m) (h1:C1 P ⟨X,loc⟩ o.op=some g) (h2:g.f z.st m=some a):SK P ih lv m X ops i dm lt loc o z ⟨a::z.st,z.v,z.n,z.hs,z.ms⟩
 |me (g:Bx Me) (a:A) (h0:Wnt X ops loc o z.st m) (h1:C1 P ⟨X,loc⟩ o.op=none) (h2:jk P ⟨X,loc⟩ o.op=some g) (h3:g.f z.st m (act dm z.v)=some a) (h4:gH z.n a=true) (h5:ckE (g.f z.st m) dm a z.hs=true):SK P ih lv m X ops i dm lt loc o z ⟨a::z.st,z.v,z.n,z.hs,cn lt (⟨i,g.f z.st m,dm,a⟩::z.ms) z.ms⟩
 |ne (g:Bx (List A->Tr A->Option (O×(Po->A)))) (q:O×(Po->A)) (h0:Wnt X ops loc o z.st m) (h1:C1 P ⟨X,loc⟩ o.op=none) (h2:jk P ⟨X,loc⟩ o.op=none) (h3:p6 P ⟨X,loc⟩ o.op=some g) (h4:g.f z.st m=some q):SK P ih lv m X ops i dm lt loc o z ⟨q.2 z.n::z.st,⟨z.v.h,⟨i,z.n,⟨q.1,lv⟩⟩::z.v.pd⟩,z.n.s,z.hs,z.ms⟩
 |lo (r:R) (h0:Wnt X ops loc o z.st m) (h1:VH P o.op=true) (h2:(qU P ⟨X,loc⟩ o.op).f ih lv z.st m (act dm z.v) z.n=some r) (h3:ckM dm ⟨r.h,rst dm z.v.pd⟩ z.ms=true) (h4:z.n.n<=r.n.n):SK P ih lv m X ops i dm lt loc o z ⟨r.a::z.st,⟨r.h,rst dm z.v.pd⟩,r.n,⟨i,z.v⟩::z.hs,z.ms⟩
theorem ze{ih:Ih}{lv:Nat}{m:Tr A}{X:Nat->Bool}{ops:List Oper}{i dm:Nat}{lt:Bool}{loc:List Nat}{o:Oper}{z z':Z}(h0:Wnt X ops loc o z.st m)(h:(pJ P ⟨X,loc⟩ o.op i dm lt).f ih lv m z=some z'):SK P ih lv m X ops i dm lt loc o z z':=by
 unfold pJ at h;cases hp:C1 P ⟨X,loc⟩ o.op with
 |some g =>
  rw[hp]at h;obtain⟨a,h1,h2⟩:=QX (show bd _ (fun a=>some ⟨a::z.st,z.v,z.n,z.hs,z.ms⟩)=some z' from h);cases aa h2;exact .pu g a h0 hp h1
 |none =>
  rw[hp]at h;cases hm:jk P ⟨X,loc⟩ o.op with
  |some g =>
   simp_all;obtain⟨a,h1,h2⟩:=QX (show bd _ (fun a=>gu _<|gu _ _)=some z' from h);obtain⟨h3,h2⟩:=Q5 h2;obtain⟨h4,h2⟩:=Q5 h2;cases aa h2;exact .me g a h0 hp hm h1 h3 h4
  |none =>
   simp_all;cases hn:p6 P ⟨X,loc⟩ o.op with
   |some g =>
    simp_all;obtain⟨q,h1,h2⟩:=QX (show bd (g.f z.st m) (fun q=>some ⟨q.2 z.n::z.st,⟨z.v.h,⟨i,z.n,⟨q.1,lv⟩⟩::z.v.pd⟩,z.n.s,z.hs,z.ms⟩)=some z' from h);cases aa h2;exact .ne g q h0 hp hm hn h1
   |none =>
    simp_all;obtain⟨r,h1,h2⟩:=QX (show bd ((loD P ⟨X,loc⟩ o.op).f ih lv z.st m _ z.n) (fun r=>gu _<|gu _ _)=some z' from h);obtain⟨h4,h2⟩:=Q5 h2;obtain⟨h3,h2⟩:=Q5 h2;cases aa h2;refine .lo r h0 (by rw[Pe ⟨X,loc⟩,hp,hm,hn];rfl) ?_ h3 (ae h4)
    grind[qU]
theorem QAj{ih:Ih}{lv:Nat}{m:Tr A}{X:Nat->Bool}{ops:List Oper}{i dm:Nat}{lt:Bool}{loc:List Nat}{o:Oper}{z z':Z}(h:(stepG P X loc ops o i dm lt).f ih lv m z=some z'):SK P ih lv m X ops i dm lt loc o z z':=by
 unfold stepG at h;cases hg:qY ops o with
 |none=>rw[hg]at h;exact ze (.inl hg) h
 |some g =>
  rw[hg]at h;obtain⟨t,h1,h2⟩:=QX (show bd _ (fun t=>cn t _ _)=some z' from h);cases t with
  |true=>exact ze (.inr ⟨g,hg,h1⟩) h2
  |false=>cases aa (show some (⟨u0::z.st,z.v,z.n,(cn _ _ z.hs),z.ms⟩:Z)=some z' from h2);exact .off g hg h1
theorem yz{ih:Ih}{lv:Nat}{m:Tr A}{X:Nat->Bool}{ops:List Oper}{D:List Nat}{ls:List Bool}:∀ {l:List Oper} {k:Nat} {loc:List Nat} {z zL:Z},(uM P X ops D ls l k loc).f ih lv m z=some zL ->
  ∃zf:Nat->Z,zf k=z/\zf (k+l.length)=zL/\∀i o,l[i]?=some o->SK P ih lv m X ops (k+i) (D.getD (k+i) 0) (QAI ls D (k+i)) (((l.take i).map CN).reverse++loc) o (zf (k+i)) (zf (k+i+1))
 |[],k,loc,z,zL,h=>by
  cases aa (show some z=some zL from h);exact⟨fun _=>z,rfl,rfl,fun i o ho=>by cases ho⟩
 |o::l,k,loc,z,zL,h=>by
  obtain⟨z1,h1,h2⟩:=QX (show bd ((stepG P X loc ops o k (D.getD k 0) (QAI ls D k)).f ih lv m z) (fun z=>(uM P X ops D ls l (k+1) (CN o::loc)).f ih lv m z)=some zL from h);obtain⟨zf,e1,e2,e3⟩:=yz h2;refine⟨fun i=>if i=k then z else zf i,if_pos rfl,?_,fun i p hp=>?_⟩
  ·grind
  ·cases i with
   |zero =>
    cases aa hp<;>simp_all[eZ,if_true,if_neg,QAj]
   |succ i =>
    grind
end
end Go.Ev
namespace Go.Ev
open Go.RowKit
structure Tc where
 P:Program
 ih:Ih
 lv:Nat
 m:Tr A
 X:Nat->Bool
 ops:List Oper
 D:Nat->Nat
 lt:Nat->Bool
 zf:Nat->Z
namespace Tc
variable(c:Tc)
noncomputable section
def loc(i:Nat):List Nat:=((c.ops.take i).map CN).reverse
def cx(i:Nat):Lc:=⟨c.X,c.loc i⟩
def st(i:Nat):List A:=(c.zf i).st
def n(i:Nat):Po:=(c.zf i).n
def vw(i:Nat):Vw:=(c.zf i).v
def W(i:Nat)(o:Oper):Prop:=c.ops[i]?=some o/\Wnt c.X c.ops (c.loc i) o (c.st i) c.m
def Off(i:Nat):Prop:=∃o g,c.ops[i]?=some o/\qY c.ops o=some g/\wanted (c.cx i) g (c.st i) c.m=some false/\c.zf (i+1)=⟨u0::c.st i,c.vw i,c.n i,(cn (VH c.P o.op) (⟨i,c.vw i⟩::(c.zf i).hs) (c.zf i).hs),(c.zf i).ms⟩
def Pure(i:Nat):Prop:=∃o g a,c.W i o/\C1 c.P (c.cx i) o.op=some g/\g.f (c.st i) c.m=some a/\c.zf (i+1)=⟨a::c.st i,c.vw i,c.n i,(c.zf i).hs,(c.zf i).ms⟩
def Rd(i:Nat)(g:Tr B->Option A)(a:A):Prop:=∃o g',c.W i o/\C1 c.P (c.cx i) o.op=none/\jk c.P (c.cx i) o.op=some g'/\g=g'.f (c.st i) c.m/\g (act (c.D i) (c.vw i))=some a/\gH (c.n i) a=true/\ckE g (c.D i) a (c.zf i).hs=true /\
 c.zf (i+1)=⟨a::c.st i,c.vw i,c.n i,(c.zf i).hs,cn (c.lt i) (⟨i,g,c.D i,a⟩::(c.zf i).ms) (c.zf i).ms⟩
def xr(i:Nat)(x:Pn):Prop:=∃o g q,c.W i o/\C1 c.P (c.cx i) o.op=none/\jk c.P (c.cx i) o.op=none/\p6 c.P (c.cx i) o.op=some g/\g.f (c.st i) c.m=some q/\x=⟨i,c.n i,⟨q.1,c.lv⟩⟩ /\
 c.zf (i+1)=⟨q.2 (c.n i)::c.st i,⟨(c.vw i).h,x::(c.vw i).pd⟩,(c.n i).s,(c.zf i).hs,(c.zf i).ms⟩
def Ld(i:Nat)(r:R):Prop:=∃o,c.W i o/\VH c.P o.op=true/\(qU c.P (c.cx i) o.op).f c.ih c.lv (c.st i) c.m (act (c.D i) (c.vw i)) (c.n i)=some r/\ckM (c.D i) ⟨r.h,rst (c.D i) (c.vw i).pd⟩ (c.zf i).ms=true/\(c.n i).n<=r.n.n /\
 c.zf (i+1)=⟨r.a::c.st i,⟨r.h,rst (c.D i) (c.vw i).pd⟩,r.n,⟨i,c.vw i⟩::(c.zf i).hs,(c.zf i).ms⟩
structure Ok:Prop where
 rg:Rg c.P c.ops c.D
 sk:∀i o,c.ops[i]?=some o->SK c.P c.ih c.lv c.m c.X c.ops i (c.D i) (c.lt i) (c.loc i) o (c.zf i) (c.zf (i+1))
 hs:(c.zf 0).hs=[]
 ms:(c.zf 0).ms=[]
 pd:(c.zf 0).v.pd=[]
 st0:(c.zf 0).st=[]
 ltt:∀i l o,i<l->c.ops[l]?=some o->VH c.P o.op=true->bit (c.D l) i=false->c.lt i=true
variable{c}
theorem Ok.step(k:c.Ok){i:Nat}(hi:i<c.ops.length):c.Off i\/c.Pure i\/(∃g a,c.Rd i g a)\/(∃x,c.xr i x)\/∃r,c.Ld i r:=by
 obtain⟨o,ho⟩:∃o,c.ops[i]?=some o:=⟨c.ops[i],by simp⟩;have h:=k.sk i o ho;generalize e:c.zf (i+1)=z' at h;cases h with
 |off g h1 h2=>exact .inl ⟨o,g,ho,h1,h2,e⟩
 |pu g a h0 h1 h2=>exact .inr (.inl ⟨o,g,a,⟨ho,h0⟩,h1,h2,e⟩)
 |me g a h0 h1 h2 h3 h4 h5=>exact .inr (.inr (.inl ⟨_,a,o,g,⟨ho,h0⟩,h1,h2,rfl,h3,h4,h5,e⟩))
 |ne g q h0 h1 h2 h3 h4=>exact .inr (.inr (.inr (.inl ⟨_,o,g,q,⟨ho,h0⟩,h1,h2,h3,h4,rfl,e⟩)))
 |lo r h0 h1 h2 h3 h4=>exact .inr (.inr (.inr (.inr ⟨r,o,⟨ho,h0⟩,h1,h2,h3,h4,e⟩)))
theorem Ld.VH{i:Nat}{r:R}(h:c.Ld i r):∃o,c.ops[i]?=some o/\VH c.P o.op=true:=by
 obtain⟨o,h1,h2,_⟩:=h;exact⟨o,h1.1,h2⟩
theorem Ok.n1(k:c.Ok){i:Nat}(hi:i<c.ops.length):(c.n i).n<=(c.n (i+1)).n:=by
 rcases k.step hi with ⟨o,g,_,_,_,e⟩ | ⟨o,g,a,_,_,_,e⟩ | ⟨g,a,o,g',_,_,_,_,_,_,_,e⟩ | ⟨x,o,g,q,_,_,_,_,_,_,e⟩ | ⟨r,o,_,_,_,_,h,e⟩<;>unfold Tc.n<;>rw[e]
 all_goals simp_all[ar,Po.cM,Tc.n]
theorem Ok.zG(k:c.Ok){i j:Nat}(h:i<=j)(hj:j<=c.ops.length):(c.n i).n<=(c.n j).n:=by
 induction j with
 |zero=>simp_all
 |succ j ih =>
  by_cases e:i=j+1
  ·simp_all
  ·exact aR (ih (by omega) (by omega)) (k.n1 (by omega))
theorem xr.n{i:Nat}{x:Pn}(h:c.xr i x):c.n (i+1)=(c.n i).s/\x.j=i/\x.n=c.n i/\x.b.lv=c.lv/\i<c.ops.length:=by
 obtain⟨o,g,q,h1,_,_,_,_,e1,e⟩:=h;subst e1;exact⟨by unfold Tc.n;rw[e];rfl,rfl,rfl,rfl,(List.getElem?_eq_some_iff.1 h1.1).1⟩
theorem Ok.p5(k:c.Ok){i j:Nat}{x y:Pn}(h:c.xr i x)(h':c.xr j y)(e:x.n=y.n):i=j:=by
 obtain⟨a1,a2,a3,_,a4⟩:=h.n;obtain⟨b1,b2,b3,_,b4⟩:=h'.n;have key:∀ {i j:Nat},c.n (i+1)=(c.n i).s->i<j->j<c.ops.length->(c.n i).n<(c.n j).n:=fun {i j} e1 hij hj=>by
  have:=k.zG (i:=i+1) (j:=j) (by omega) (by omega)
  grind[Po.cM]
 rcases Nat.lt_trichotomy i j with g | g | g
 all_goals grind
theorem xr.uniq{i:Nat}{x y:Pn}(h:c.xr i x)(h':c.xr i y):x=y:=by
 obtain⟨o,g,q,h1,h2,h3,h4,h5,h6,_⟩:=h;obtain⟨o',g',q',h1',h2',h3',h4',h5',h6',_⟩:=h';simp_all
theorem Ok.QDl(k:c.Ok){j:Nat}(hj:j<=c.ops.length){x:Pn}(hx:x∈(c.vw j).pd):x.j<j/\c.xr x.j x/\∀l r,c.Ld l r->l<j->bit (c.D l) x.j=false:=by
 induction j generalizing x with
 |zero=>unfold Tc.vw at hx;rw[k.pd]at hx;cases hx
 |succ j ih =>
  have old:∀ {y:Pn},y∈(c.vw j).pd->(∀r,¬c.Ld j r)->y.j<j+1/\c.xr y.j y/\∀l r,c.Ld l r->l<j+1->bit (c.D l) y.j=false:=fun {y} hy hn=>by
   grind
  have quiet:∀o,c.ops[j]?=some o->(¬(C1 c.P (c.cx j) o.op=none/\jk c.P (c.cx j) o.op=none/\p6 c.P (c.cx j) o.op=none))->∀r,¬c.Ld j r:=fun o ho hq r hl=>by
   obtain⟨o',h1,h2⟩:=hl.VH;rw[ho]at h1;cases aa h1;rw[Pe (c.cx j)]at h2;simp_all
  rcases k.step (i:=j) (by omega)with ⟨o,g,h1,h2,h3,e⟩ | ⟨o,g,a,h1,h2,_,e⟩ | ⟨g,a,o,g',h1,_,h2,_,_,_,_,e⟩ | ⟨y,hn⟩ | ⟨r,o,h1,h2,h3,h4,h5,e⟩
  ·unfold Tc.vw at hx;rw[e]at hx;refine old hx fun r hl=>?_;obtain⟨o',h1',_⟩:=hl;obtain⟨h4,h5⟩:=h1';rw[h1]at h4;cases aa h4;rcases h5 with h5 | ⟨g',h5,h6⟩
   all_goals grind[aa,Tc.cx]
  ·unfold Tc.vw at hx;rw[e]at hx;exact old hx (quiet o h1.1 fun h=>by simp_all)
  ·unfold Tc.vw at hx;rw[e]at hx;exact old hx (quiet o h1.1 fun h=>by simp_all)
  ·have hn':=hn;obtain⟨o,g,q,h1,_,_,h2,_,_,e⟩:=hn;unfold Tc.vw at hx;rw[e]at hx;rcases List.mem_cons.1 hx with rfl | hx
   ·obtain⟨_,e2,_,_,_⟩:=hn'.n;refine⟨by omega,by simp_all,fun l r hl hlt=>?_⟩;rw[e2];cases hb:bit _ j with
    |false=>rfl
    |true =>
     obtain⟨o',h1',_⟩:=hl.VH;have:=k.rg.lt (List.getElem?_eq_some_iff.1 h1').1 hb;omega
   ·exact old hx (quiet o h1.1 fun h=>by simp_all)
  ·unfold Tc.vw at hx;rw[e]at hx;obtain⟨g1,g2⟩:=jN hx
   grind
theorem Ok.still(k:c.Ok){i j:Nat}(h:i<=j)(hj:j<=c.ops.length)(hn:∀l r,i<=l->l<j->¬c.Ld l r):(c.vw j).h=(c.vw i).h:=by
 induction j with
 |zero=>simp_all
 |succ j ih =>
  by_cases e:i=j+1
  ·simp_all
  ·have ih:=ih (by omega) (by omega) fun l r h1 h2=>hn l r h1 (by omega);rw[<-ih];rcases k.step (i:=j) (by omega)with ⟨o,g,_,_,_,e⟩ | ⟨o,g,a,_,_,_,e⟩ | ⟨g,a,o,g',_,_,_,_,_,_,_,e⟩ | ⟨x,o,g,q,_,_,_,_,_,_,e⟩ | ⟨r,hl⟩
   ·unfold Tc.vw;rw[e];rfl
   ·unfold Tc.vw;rw[e];rfl
   ·unfold Tc.vw;rw[e];rfl
   ·unfold Tc.vw;rw[e];rfl
   grind
theorem Ok.views(k:c.Ok){j l:Nat}{o:Oper}(hj:j<=c.ops.length)(hlj:l<j)(ho:c.ops[l]?=some o)(hl:VH c.P o.op=true):∃l1 l2,(c.zf j).hs=l1++⟨l,c.vw l⟩::l2/\∀y∈l1,l<y.j/\y.j<j/\∃o',c.ops[y.j]?=some o'/\VH c.P o'.op=true:=by
 induction j with
 |zero=>omega
 |succ j ih =>
  obtain⟨oj,hoj⟩:∃o,c.ops[j]?=some o:=⟨c.ops[j]'(by omega),by simp⟩;have hhs:(c.zf (j+1)).hs=(cn (VH c.P oj.op) (⟨j,c.vw j⟩::(c.zf j).hs) (c.zf j).hs):=by
   have h:=k.sk j oj hoj;generalize e:c.zf (j+1)=z' at h;cases h with
   |off g h1 h2=>rfl
   |pu g a h0 h1 h2=>rw[Pe ⟨c.X,c.loc j⟩,h1];rfl
   |me g a h0 h1 h2 h3 h4 h5=>rw[Pe ⟨c.X,c.loc j⟩,h1,h2];rfl
   |ne g q h0 h1 h2 h3 h4=>rw[Pe ⟨c.X,c.loc j⟩,h1,h2,h3];rfl
   |lo r h0 h1 h2 h3 h4=>rw[h1];rfl
  by_cases e:l=j
  ·subst e;rw[hoj]at ho;cases aa ho;rw[hhs,hl];exact⟨[],_,rfl,fun y hy=>by cases hy⟩
  ·rw[hhs,X6]
   grind
theorem Ok.marks(k:c.Ok){i j:Nat}{g:Tr B->Option A}{a:A}(h:c.Rd i g a)(hlt:c.lt i=true)(hij:i<j)(hj:j<=c.ops.length):⟨i,g,c.D i,a⟩∈(c.zf j).ms:=by
 induction j with
 |zero=>omega
 |succ j ih =>
  by_cases e:i=j
  ·subst e;obtain⟨o,g',_,_,_,_,_,_,_,e⟩:=h;rw[e,hlt];show _∈(⟨i,g,c.D i,a⟩:Ms)::_;simp
  ·have ih:=ih (by omega) (by omega);rcases k.step (i:=j) (by omega)with ⟨o,g,_,_,_,e⟩ | ⟨o,g,a,_,_,_,e⟩ | ⟨g',a',o,g'',_,_,_,_,_,_,_,e⟩ | ⟨x,o,g,q,_,_,_,_,_,_,e⟩ | ⟨r,o,_,_,_,_,_,e⟩
   ·simp_all
   ·simp_all
   ·rw[e];rw[X6];grind
   all_goals simp_all
end
end Tc
end Go.Ev
namespace Go.Ev
open Go.RowKit
namespace Tc
variable{c:Tc}
noncomputable section
def val(c:Tc)(i:Nat):A:=match (c.zf (i+1)).st with | []=>u0 | a::_=>a
theorem Ok.st1(k:c.Ok){i:Nat}(hi:i<c.ops.length):c.st (i+1)=c.val i::c.st i:=by
 unfold val Tc.st;rcases k.step hi with ⟨o,g,_,_,_,e⟩ | ⟨o,g,a,_,_,_,e⟩ | ⟨g,a,o,g',_,_,_,_,_,_,_,e⟩ | ⟨x,o,g,q,_,_,_,_,_,_,e⟩ | ⟨r,o,_,_,_,_,_,e⟩<;>rw[e]<;>rfl
theorem QGj{i:Nat}{o:Oper}(ho:c.ops[i]?=some o):c.loc (i+1)=CN o::c.loc i:=by
 grind[Tc.loc,List.take_succ]
theorem Ok.len(k:c.Ok){i:Nat}(hi:i<=c.ops.length):(c.st i).length=(c.loc i).length:=by
 induction i with
 |zero=>unfold Tc.st Tc.loc;rw[k.st0];rfl
 |succ i ih =>
  have:c.ops[i]?=some (c.ops[i]'(by omega)):=by simp
  rw[k.st1 (by omega),QGj this];grind
theorem Ok.uJ(k:c.Ok){t:Nat}(ht:t≠1000000){j:Nat}(hj:j<=c.ops.length)(h:∀i o,i<j->c.ops[i]?=some o->o.dst≠some t):ev (c.cx j) (.tmp t) (c.st j) c.m=cn (c.X t) (c.m.get (po t)) none:=by
 induction j with
 |zero=>unfold Tc.cx Tc.st;rw[k.st0,CI];rfl
 |succ j ih =>
  have hoj:c.ops[j]?=some (c.ops[j]'(by omega)):=by simp
  unfold Tc.cx;rw[QGj hoj,k.st1 (by omega),LC,if_neg]
  ·exact ih (by omega) fun i o hi ho=>h i o (by omega) ho
  grind[CN]
theorem Ok.uI(k:c.Ok){t i:Nat}{o:Oper}(ho:c.ops[i]?=some o)(hd:o.dst=some t)(ht:t≠1000000){j:Nat}(hj:j<=c.ops.length)(hij:i<j):ev (c.cx j) (.tmp t) (c.st j) c.m=some (c.val i):=by
 induction j with
 |zero=>omega
 |succ j ih =>
  have hoj:c.ops[j]?=some (c.ops[j]'(by omega)):=by simp
  unfold Tc.cx;rw[QGj hoj,k.st1 (by omega),LC];by_cases e:i=j
  ·subst e;rw[ho]at hoj;cases aa hoj<;>simp_all[if_pos,CN]
  ·rw[if_neg]
   ·exact ih (by omega) (by omega)
   ·have:=k.rg.ds hoj ho (fun e'=>e e'.symm) hd
    grind[CN]
theorem Ok.vX(k:c.Ok){i l:Nat}{g:Tr B->Option A}{a:A}{o:Oper}(h:c.Rd i g a)(hli:l<i)(ho:c.ops[l]?=some o)(hl:VH c.P o.op=true)(hb:bit (c.D i) l=false):g (act (c.D i) (c.vw l))=some a:=by
 obtain⟨oi,g',h1,h2,h3,h4,h5,h6,h7,h8⟩:=h;have hi:=(List.getElem?_eq_some_iff.1 h1.1).1;obtain⟨l1,l2,e1,e2⟩:=k.views (by omega) hli ho hl;rw[e1]at h7;refine QCQ h7 (fun y hy=>?_) hb;obtain⟨y1,y2,o',y3,y4⟩:=e2 y hy;cases hby:bit _ y.j with
 |false=>rfl
 |true =>
  have:=k.rg.ld ho y3 y1 hl y4;rw[k.rg.tr hi hby this]at hb;cases hb
theorem Ok.yH(k:c.Ok){i j:Nat}{g:Tr B->Option A}{a:A}(h:c.Rd i g a)(hij:i<j)(hj:j<=c.ops.length)(hb:∀l r,c.Ld l r->i<l->l<j->bit (c.D l) i=false):
  ∃j',j'<=j/\(c.vw j').h=(c.vw j).h/\(∀l r,c.Ld l r->j'<=l->l<j->False)/\g (act (c.D i) (c.vw j'))=some a:=by
 induction j with
 |zero=>omega
 |succ j ih =>
  by_cases e:i=j
  ·subst e;obtain⟨oi,g',h1,h2,h3,h4,h5,h6,h7,h8⟩:=h;refine⟨i,by omega,by unfold Tc.vw;rw[h8];rfl,fun l r hl h1' h2'=>?_,h5⟩;have:l=i:=by omega
   subst this;obtain⟨o',g1,g2⟩:=hl.VH;rw[h1.1]at g1;grind[aa,Pe]
  ·by_cases hld:∃r,c.Ld j r
   ·obtain⟨r,hld⟩:=hld;have hbj:=hb j r hld (by omega) (by omega);obtain⟨o,g1,g2⟩:=hld.VH;have hm:=k.marks h (k.ltt i j o (by omega) g1 g2 hbj) (j:=j) (by omega) (by omega);obtain⟨o',h1,h2,h3,h4,h5,h6⟩:=hld;refine⟨j+1,ar _,rfl,fun l r' _ h1' h2'=>by omega,?_⟩;rcases dG h4 hm with h7 | h7
    all_goals grind[Tc.vw]
   ·have hst:=k.still (i:=j) (by omega) hj fun l r h1 h2 hl=>by
     grind
    grind
end
end Tc
end Go.Ev
namespace Go.Ev
open Go.RowKit
namespace Tc
variable{c:Tc}
def PN(c:Tc)(done:Nat->Bool)(κ i:Nat)(x:Pn):Prop:=c.xr i x/\done i=true/\∀l r,c.Ld l r->l<κ->bit (c.D l) i=false
def dj(c:Tc)(done:Nat->Bool)(κ:Nat)(q:Po)(b:B):Prop:=(c.vw κ).h.get q=some b\/∃i x,PN c done κ i x/\x.n=q/\x.b=b
structure Js(c:Tc)(N:Nat)(ds:List Deferred)(done:Nat->Bool)(β:Be)(a:Act):Prop where
 size:a.tmps.size=N
 defs:a.defers=ds
 cl:∀i,i<c.ops.length->done i=true->∀j,bit (c.D i) j=true->done j=true
 sl:∀i o d,c.ops[i]?=some o->done i=true->o.dst=some d->∃v,V (rs β (c.n (i+1))) (c.val i)=some v/\a.tmps[d]?=some v
 cr:∀t b,c.X t=true->c.m.get (po t)=some b->(∀i o,c.ops[i]?=some o->done i=true->o.dst≠some t)->∃v,V (rs β (c.n 0)) b=some v/\a.tmps[t]?=some v
structure Jm(c:Tc)(β0:Be)(w0:World)(done:Nat->Bool)(κ:Nat)(β:Be)(w:World):Prop where
 kl:κ<=c.ops.length
 ku:∀l o,c.ops[l]?=some o->VH c.P o.op=true->(done l=true↔l<κ)
 bl:∀q:Po,q.n<(c.n 0).n->β q=β0 q
 bn:∀i,i<c.ops.length->done i=false->∀q:Po,(c.n i).n<=q.n->q.n<(c.n (i+1)).n->β q=none
 bt:∀q:Po,(c.n c.ops.length).n<=q.n->β q=none
 ob:∀q b,(c.vw κ).h.get q=some b->∃p o,rs β (c.n κ) q=some p/\w.heap[p.Y1]?=some o/\Oo (rs β (c.n κ)) p o b.o
 pn:∀i x,PN c done κ i x->(c.vw κ).h.get x.n=none/\∃p o,rs β (c.n (i+1)) x.n=some p/\w.heap[p.Y1]?=some o/\Oo (rs β (c.n (i+1))) p o x.b.o/\w0.heap.size<=p.Y1
 inj:∀q q' b b' p p',dj c done κ q b->dj c done κ q' b'->β q=some p->β q'=some p'->p.Y1=p'.Y1->q=q'
 Ij:Cm w0 w
 sz:w0.heap.size<=w.heap.size
 fr:∀b,b<w0.heap.size->(∀q x p,(c.vw 0).h.get q=some x->c.lv<=x.lv->β0 q=some p->p.Y1≠b)->w.heap[b]?=w0.heap[b]?
 src:∀q x p,(c.vw κ).h.get q=some x->β q=some p->p.Y1<w0.heap.size->∃q0 c0 p0,(c.vw 0).h.get q0=some c0/\β0 q0=some p0/\p0.Y1=p.Y1/\(c.lv<=x.lv->c.lv<=c0.lv)
 yh:∀K,c.lv<=K->(∀q x,(c.vw 0).h.get q=some x->x.lv<=K)->∀q x,(c.vw κ).h.get q=some x->x.lv<=K
section
variable{N:Nat}{ds:List Deferred}{β0 β:Be}{w0 w:World}{done:Nat->Bool}{κ:Nat}{a:Act}
theorem Jm.all(j:Jm c β0 w0 done κ β w){q:Po}{b:B}(h:dj c done κ q b):∃p o,β q=some p/\w.heap[p.Y1]?=some o/\Oo β p o b.o:=by
 rcases h with h | ⟨i,x,h,rfl,rfl⟩
 ·obtain⟨p,o,h1,h2,h3⟩:=j.ob q b h;exact⟨p,o,WI _ _ _ _ h1,h2,h3.le (WI _ _)⟩
 ·obtain⟨_,p,o,h1,h2,h3,_⟩:=j.pn i x h;exact⟨p,o,WI _ _ _ _ h1,h2,h3.le (WI _ _)⟩
theorem Ok.part(k:c.Ok)(j:Jm c β0 w0 done κ β w){i j':Nat}(hj':j'<=c.ops.length)(hv:(c.vw j').h=(c.vw κ).h)(hl:∀l r,c.Ld l r->l<κ->l<j')(hd:∀t,bit (c.D i) t=true->done t=true){q:Po}{b:B}(h:(act (c.D i) (c.vw j')).get q=some b):
  (c.vw κ).h.get q=some b\/∃x,x.j<j'/\PN c done κ x.j x/\bit (c.D i) x.j=true/\x.n=q/\x.b=b:=by
 rcases QEm h with ⟨x,h1,h2,h3,h4⟩ | h
 ·obtain⟨g1,g2,g3⟩:=k.QDl hj' h1;exact .inr ⟨x,g1,⟨g2,hd _ h2,fun l r hl' h=>g3 l r hl' (hl l r hl' h)⟩,h2,h3,h4⟩
 simp_all
theorem Ok.QGL(k:c.Ok)(j:Jm c β0 w0 done κ β w){i j':Nat}(hj':j'<=c.ops.length)(hv:(c.vw j').h=(c.vw κ).h)(hl:∀l r,c.Ld l r->l<κ->l<j')(hd:∀t,bit (c.D i) t=true->done t=true):Ob β (act (c.D i) (c.vw j')) w:=fun q b h=>by
 rcases k.part j hj' hv hl hd h with h | ⟨x,_,h2,_,h3,h4⟩
 ·exact j.all (.inl h)
 ·exact j.all (.inr ⟨_,x,h2,h3,h4⟩)
theorem Ok.QKX(k:c.Ok)(j:Jm c β0 w0 done κ β w){i:Nat}(hi:i<c.ops.length)(hκ:κ<=i)(hn:∀l r,κ<=l->l<i->¬c.Ld l r)(hd:∀t,bit (c.D i) t=true->done t=true):Ev.Ok (rs β (c.n i)) (act (c.D i) (c.vw i)) (c.n i) w:=by
 have hp:=fun q b h=>k.part (q:=q) (b:=b) j (by omega) (k.still hκ (by omega) hn) (fun l r _ h=>by omega) hd h;refine⟨fun q b h=>?_,fun q q' b b' p p' h h' g g' e=>?_,fun q hq=>QIW hq⟩
 ·rcases hp q b h with h | ⟨x,h1,h2,_,h3,h4⟩
  ·obtain⟨p,o,g1,g2,g3⟩:=j.ob q b h;have hm:Be.le _ (rs β _):=Ba (k.zG hκ (by omega)) fun _ _ _ h=>h;exact⟨p,o,hm _ _ g1,g2,g3.le hm⟩
  ·obtain⟨_,p,o,g1,g2,g3,_⟩:=j.pn _ x h2;have hm:Be.le (rs β (c.n (x.j+1))) (rs β (c.n i)):=Ba (k.zG (by omega) (by omega)) fun _ _ _ h=>h;subst h3;subst h4;exact⟨p,o,hm _ _ g1,g2,g3.le hm⟩
 ·have cv:∀ {q b},(act _ _).get q=some b->dj c done κ q b:=fun {q b} h=>by
   rcases hp q b h with h | ⟨x,_,h2,_,h3,h4⟩
   ·exact .inl h
   ·exact .inr ⟨_,x,h2,h3,h4⟩
  exact j.inj q q' b b' p p' (cv h) (cv h') (WI _ _ _ _ g) (WI _ _ _ _ g') e
theorem Ok.slot(k:c.Ok)(s:Js c N ds done β a){i:Nat}{o:Oper}(ho:c.ops[i]?=some o)(hi:done i=false)(hd:∀t,bit (c.D i) t=true->done t=true){t:Nat}(ht:t∈slotsOf c.ops o){b:A}(e:ev (c.cx i) (.tmp t) (c.st i) c.m=some b):
  ∃v,V (rs β (c.n i)) b=some v/\a.tmps[t]?=some v:=by
 have hil:=(List.getElem?_eq_some_iff.1 ho).1;have h6:=Nat.ne_of_lt (k.rg.sl ho ht);have cross:(∀i o,c.ops[i]?=some o->done i=true->o.dst≠some t)->(∀i' o,i'<i->c.ops[i']?=some o->o.dst≠some t)->∃v,V (rs β (c.n i)) b=some v/\a.tmps[t]?=some v:=fun h1 h2=>by
  rw[k.uJ h6 (by omega) h2,X6]at e;split at e
  ·rename_i hX;obtain⟨v,g1,g2⟩:=s.cr t b hX e h1;exact⟨v,IF (Ba (k.zG (ba _) (by omega)) fun _ _ _ h=>h) _ _ g1,g2⟩
  grind
 by_cases hx:∃(j:Nat) (q:Oper),c.ops[j]?=some q/\q.dst=some t
 ·obtain⟨j,q,hq,hqd⟩:=hx;have hjl:=(List.getElem?_eq_some_iff.1 hq).1;have uniq:∀ {i':Nat} {o':Oper},c.ops[i']?=some o'->o'.dst=some t->i'=j:=fun {i' o'} h1 h2=>by
   by_cases e:i'=j
   ·exact e
   ·exact absurd h2 (k.rg.ds h1 hq e hqd)
  by_cases hij:i=j
  ·grind
  ·rcases k.rg.rd ho hq hij hqd ht with hb | hb
   ·have hji:=k.rg.lt hil hb;rw[k.uI hq hqd h6 (by omega) hji]at e;cases aa e;obtain⟨v,g1,g2⟩:=s.sl j q t hq (hd j hb) hqd;exact⟨v,IF (Ba (k.zG (by omega) (by omega)) fun _ _ _ h=>h) _ _ g1,g2⟩
   ·have hlt:=k.rg.lt hjl hb;refine cross (fun i' o' h1 h2 h3=>?_) (fun i' o' h1 h2 h3=>?_)
    ·have:=uniq h1 h3;subst this;rw[s.cl _ hjl h2 _ hb]at hi;cases hi
    grind
 grind
theorem Ok.gl(k:c.Ok)(j:Jm c β0 w0 done κ β w)(g:Gl β0 (c.n 0)){i:Nat}(hi:i<=c.ops.length):Gl (rs β (c.n i)) (c.n i):=by
 have hle:=k.zG (ba i) hi;refine⟨aR g.1 hle,fun x hx=>?_⟩;obtain⟨sz,e⟩:=g.2 x hx;have h1:=aA (QF7 hx) g.1;exact⟨sz,by rw[qH (by omega),j.bl _ h1];exact e⟩
theorem Ok.oper(k:c.Ok)(s:Js c N ds done β a)(j:Jm c β0 w0 done κ β w)(g:Gl β0 (c.n 0)){i:Nat}{o:Oper}(ho:c.ops[i]?=some o)(hi:done i=false)(hd:∀t,bit (c.D i) t=true->done t=true):
  ∀z∈o.op.operands,∀b,ev (c.cx i) z (c.st i) c.m=some b->V (rs β (c.n i)) b=some (a.eval z):=fun z hz b e=>by
 have hil:=(List.getElem?_eq_some_iff.1 ho).1;cases z with
 |tmp t =>
  have ht:t∈slotsOf c.ops o:=by
   unfold slotsOf;rw[List.mem_append];exact .inl (List.mem_filterMap.2 ⟨.tmp t,by simp_all,rfl⟩)
  obtain⟨v,h1,h2⟩:=k.slot s ho hi hd ht e;show _=some (a.tmps.getD t undef);simp_all
 |const v=>cases aa (show some _=some b from e);exact QCh _ v
 |global x =>
  unfold ev oaD at e;simp only[X6]at e;split at e
  ·rename_i hle;cases aa (show some _=some b from e);obtain⟨sz,h1⟩:=(k.gl j g (i:=i) (by omega)).2 x (ae hle);show(rs β _ _).map _=_;rw[h1];rfl
  grind
 |func f=>cases aa (show some _=some b from e);rfl
theorem Ok.guard(k:c.Ok)(s:Js c N ds done β a){i:Nat}{o:Oper}(ho:c.ops[i]?=some o)(hi:done i=false)(hd:∀t,bit (c.D i) t=true->done t=true){g:Option Nat×Bool}{t:Bool}(hg:qY c.ops o=some g)(hw:wanted (c.cx i) g (c.st i) c.m=some t):
  aQ o (yielded c.ops.toArray a.tmps)=t:=by
 refine Li (fun d hd' b e=>k.slot s ho hi hd ?_ e) (by omega) hw
 grind[slotsOf]
theorem Ok.wanted(k:c.Ok)(s:Js c N ds done β a){i:Nat}{o:Oper}(hi:done i=false)(hd:∀t,bit (c.D i) t=true->done t=true)(hw:c.W i o):aQ o (yielded c.ops.toArray a.tmps)=true:=by
 rcases hw.2 with h | ⟨g,h1,h2⟩
 ·grind[qY,aQ]
 ·exact k.guard s hw.1 hi hd h1 h2
end
end Tc
end Go.Ev
namespace Go.Ev
open Go.RowKit
namespace Tc
variable{c:Tc}
def dn(done:Nat->Bool)(k:Nat):Nat->Bool:=fun i=>decide (i=k)||done i
theorem Ad(done:Nat->Bool)(k:Nat):dn done k k=true:=by simp[dn]
theorem Sf{done:Nat->Bool}{k i:Nat}(h:i≠k):dn done k i=done i:=by simp[dn,h]
theorem uO{done:Nat->Bool}{k i:Nat}(h:done i=true):dn done k i=true:=by simp[dn,h]
section
variable{N:Nat}{ds:List Deferred}{β0 β β':Be}{w0 w w':World}{done:Nat->Bool}{κ:Nat}{a:Act}
theorem Js.put(k:c.Ok)(s:Js c N ds done β a){i:Nat}{o:Oper}{v:Value}(ho:c.ops[i]?=some o)(hd:∀t,bit (c.D i) t=true->done t=true)(hN:kf N o.dst=true)(hβ:Be.le β β')(hv:V (rs β' (c.n (i+1))) (c.val i)=some v):
  Js c N ds (dn done i) β' (a.put o.dst v):=by
 have TN:∀ {j q d},c.ops[j]?=some q->j≠i->q.dst=some d->(a.put o.dst v).tmps[d]?=a.tmps[d]?:=fun {j q d} hq hj hqd=>by
  have:=k.rg.ds ho hq (fun e=>hj e.symm) hqd;cases hod:o.dst with
  |none=>rfl
  |some d' =>
   show(a.tmps.setIfInBounds d' v)[d]?=_;simp_all
 refine⟨by rw[OT];exact s.size,by rw[jU];exact s.defs,fun j hj hdj t ht=>?_,fun j q d hq hdj hqd=>?_,fun t b hX hb hno=>?_⟩
 ·by_cases e:j=i
  ·grind[uO]
  ·rw[Sf e]at hdj;exact uO (s.cl j hj hdj t ht)
 ·by_cases e:j=i
  ·subst e;rw[ho]at hq;cases aa hq;refine⟨v,hv,?_⟩;rw[hqd];rw[hqd]at hN;have:d<a.tmps.size:=by rw[s.size];exact ae hN
   show(a.tmps.setIfInBounds d v)[d]?=_
   grind
  ·rw[Sf e]at hdj;obtain⟨u,g1,g2⟩:=s.sl j q d hq hdj hqd;exact⟨u,IF (Ba (ar _) fun q _ p h=>hβ q p h) _ _ g1,by grind⟩
 ·obtain⟨u,g1,g2⟩:=s.cr t b hX hb fun j q hq hdj=>hno j q hq (uO hdj);refine⟨u,IF (Ba (ar _) fun q _ p h=>hβ q p h) _ _ g1,?_⟩;have:=hno i o ho (Ad done i);cases hod:o.dst with
  |none=>exact g2
  |some d' =>
   show(a.tmps.setIfInBounds d' v)[t]?=_;simp_all
theorem Jm.move(k:c.Ok)(j:Jm c β0 w0 done κ β w){i κ':Nat}(hκ:κ<=κ')(hk':κ'<=c.ops.length)(hv:(c.vw κ').h=(c.vw κ).h)(hl:∀l r,c.Ld l r->l<κ->l<κ')(hu:∀l o,c.ops[l]?=some o->VH c.P o.op=true->(dn done i l=true↔l<κ'))(hn:∀x,¬c.xr i x):Jm c β0 w0 (dn done i) κ' β w:=by
 have hp:∀ {i' x},PN c (dn done i) κ' i' x->PN c done κ i' x:=fun {i' x} h=>by
  have:i'≠i:=by rintro rfl;exact hn x h.1
  exact⟨h.1,by have:=h.2.1;grind[Sf],fun l r h1 h2=>h.2.2 l r h1 (hl l r h1 h2)⟩
 have hi:∀ {q b},dj c _ κ' q b->dj c done κ q b:=fun {q b} h=>by
  rcases h with h | ⟨i',x,h1,h2,h3⟩
  ·exact .inl (by simp_all)
  ·exact .inr ⟨i',x,hp h1,h2,h3⟩
 refine⟨hk',hu,j.bl,fun i' h1 h2=>j.bn i' h1 ?_,j.bt,fun q b h=>?_,fun i' x h=>?_,fun q q' b b' p p' h h'=>j.inj q q' b b' p p' (hi h) (hi h'),j.Ij,j.sz,j.fr,fun q x p h=>?_,by rw[hv];exact j.yh⟩
 ·cases hd:done i' with
  |false=>rfl
  |true=>grind[uO]
 ·rw[hv]at h;obtain⟨p,o,h1,h2,h3⟩:=j.ob q b h;have hm:Be.le _ (rs β _):=Ba (k.zG hκ hk') fun _ _ _ h=>h;exact⟨p,o,hm _ _ h1,h2,h3.le hm⟩
 ·rw[hv];exact j.pn i' x (hp h)
 ·rw[hv]at h;exact j.src q x p h
theorem xr.quiet{i:Nat}{x:Pn}(h:c.xr i x){o:Oper}(ho:c.ops[i]?=some o):VH c.P o.op=false:=by
 obtain⟨o',g,q,h1,h2,h3,h4,_⟩:=h;have e:=h1.1;grind[aa,Pe]
theorem Jm.new(k:c.Ok)(j:Jm c β0 w0 done κ β w){i:Nat}{x:Pn}{obj:Obj}{sz:Nat}(hx:c.xr i x)(hi:done i=false)(ho:Oo (rs β (c.n i)) ⟨w.heap.size,0,sz⟩ obj x.b.o):
  Jm c β0 w0 (dn done i) κ (Cu β (c.n i) ⟨w.heap.size,0,sz⟩) (w.alloc obj)/\Be.le β (Cu β (c.n i) ⟨w.heap.size,0,sz⟩):=by
 obtain⟨e1,e2,e3,e4,hil⟩:=hx.n;have hnn:=j.bn i hil hi _ (ar _) (by rw[e1,Po.cM];omega);have hle:=kq ⟨w.heap.size,0,sz⟩ hnn;have hne:∀ {q:Po},q.n≠(c.n i).n->Cu β (c.n i) ⟨w.heap.size,0,sz⟩ q=β q:=fun {q} h=>Gn β _ (by grind);have hm:∀(m:Po),Be.le _ (rs _ m):=fun m=>Ba (ar _) fun q _ p h=>hle q p h;have hheap:∀ {b:Nat},b<w.heap.size->(w.alloc obj).heap[b]?=w.heap[b]?:=fun {b} hb=>by
  show(w.heap.push obj)[b]?=_;grind
 have hlt:∀ {b:Nat} {o:Obj},w.heap[b]?=some o->b<w.heap.size:=fun h=>(Array.getElem?_eq_some_iff.1 h).1;have hget:(c.vw κ).h.get (c.n i)=none:=by
  cases hg:(c.vw κ).h.get _ with
  |none=>rfl
  |some b =>
   obtain⟨p,o,g1,_⟩:=j.ob _ b hg;have:=WI _ _ _ _ g1;simp_all
 have hp:∀ {i' x'},PN c (dn done i) κ i' x'->(i'=i/\x'=x)\/(i'≠i/\PN c done κ i' x'):=fun {i' x'} h=>by
  by_cases e:i'=i
  ·subst e;exact .inl ⟨rfl,h.1.uniq hx⟩
  ·exact .inr ⟨e,h.1,by have:=h.2.1;grind[Sf],h.2.2⟩
 have hin:∀ {q b},dj c _ κ q b->(q=c.n i/\b=x.b)\/(q≠c.n i/\dj c done κ q b):=fun {q b} h=>by
  rcases h with h | ⟨i',x',h1,h2,h3⟩
  ·refine .inr ⟨?_,.inl h⟩
   grind
  ·rcases hp h1 with ⟨rfl,rfl⟩ | ⟨e,h1'⟩
   ·simp_all
   ·refine .inr ⟨?_,.inr ⟨i',x',h1',h2,h3⟩⟩;intro e5;exact e (k.p5 h1'.1 hx (by simp_all))
 refine⟨⟨j.kl,fun l o hlo hll=>?_,fun q hq=>?_,fun i' h1 h2 q h3 h4=>?_,fun q hq=>?_,fun q b h=>?_,fun i' x' h=>?_,fun q q' b b' p p' h h' g g' e=>?_,⟨j.Ij.os,j.Ij.tape,j.Ij.out,j.Ij.drawn⟩,aR j.sz (by simp),fun b hb hh=>?_,fun q y p h g hlt'=>?_,j.yh⟩,hle⟩
 ·rw[<-j.ku l o hlo hll,Sf];rintro rfl;rw[hx.quiet hlo]at hll;grind
 ·have:=k.zG (ba i) (by omega);rw[hne (by omega)];exact j.bl q hq
 ·have hii:i'≠i:=by rintro rfl;grind[Ad]
  have:q.n≠(c.n i).n:=by
   rcases aX i' i with g | g
   ·have:=k.zG (i:=i'+1) (j:=i) (by omega) (by omega);omega
   ·have:=k.zG (i:=i+1) (j:=i') (by omega) (by omega)
    grind[Po.cM]
  rw[hne this];rw[Sf hii]at h2;exact j.bn i' h1 h2 q h3 h4
 ·have:=k.zG (i:=i+1) (by omega) (ar _);rw[e1,Po.cM]at this;rw[hne (by omega)];exact j.bt q hq
 ·obtain⟨p,o,g1,g2,g3⟩:=j.ob q b h;exact⟨p,o,hm _ _ _ g1,by grind,g3.le (hm _)⟩
 ·rcases hp h with ⟨rfl,rfl⟩ | ⟨_,h⟩
  ·rw[e3];refine⟨hget,_,obj,by grind[qH,Po.cM,Ke],?_,ho.le (Ba (by grind[Po.cM]) fun q _ p h=>hle q p h),j.sz⟩;show(w.heap.push obj)[w.heap.size]?=_;simp
  ·obtain⟨g0,p,o,g1,g2,g3,g4⟩:=j.pn i' x' h;exact⟨g0,p,o,hm _ _ _ g1,by grind,g3.le (hm _),g4⟩
 ·have old:∀ {q b p},q≠c.n i->dj c done κ q b->Cu β (c.n i) ⟨w.heap.size,0,sz⟩ q=some p->β q=some p/\p.Y1<w.heap.size:=fun {q b p} h1 h2 h3=>by
   rw[Gn β _ h1]at h3;obtain⟨p',o,k1,k2,_⟩:=j.all h2;simp_all
  rcases hin h with ⟨rfl,_⟩ | ⟨h1,h2⟩<;>rcases hin h' with ⟨rfl,_⟩ | ⟨h1',h2'⟩
  ·rfl
  ·grind[Ke]
  ·grind[Ke]
  ·exact j.inj q q' b b' p p' h2 h2' (old h1 h2 g).1 (old h1' h2' g').1 e
 ·rw[hheap (aA hb j.sz)];exact j.fr b hb hh
 ·have:q≠c.n i:=by grind
  rw[Gn β _ this]at g;exact j.src q y p h g hlt'
end
end Tc
end Go.Ev
namespace Go.Ev
open Go.RowKit
namespace Tc
variable{c:Tc}
section
variable{N:Nat}{ds:List Deferred}{β0 β β':Be}{w0 w w':World}{done:Nat->Bool}{κ:Nat}{a:Act}
noncomputable def Ik (β β':Be) (n n':Po):Be:=fun q=>if q.n<n.n then β q else if q.n<n'.n then β' q else β q
theorem Jm.VH(k:c.Ok)(j:Jm c β0 w0 done κ β w){i:Nat}{r:R}(hl:c.Ld i r)(hi:done i=false)(hκ:κ<=i)(hn:∀l r,κ<=l->l<i->¬c.Ld l r)(hd:∀t,bit (c.D i) t=true->done t=true)
  (M:Mv c.lv (rs β (c.n i)) (act (c.D i) (c.vw i)) (c.n i) w β' r.h r.n w') :
  ∃βn,Be.le β βn/\rs βn (c.n (i+1))=β'/\Jm c β0 w0 (dn done i) (i+1) βn w':=by
 obtain⟨o,ho,hlo⟩:=hl.VH;have hil:=(List.getElem?_eq_some_iff.1 ho).1;obtain⟨e1,e2⟩:c.n (i+1)=r.n/\(c.vw (i+1)).h=r.h:=by
  obtain⟨_,_,_,_,_,_,e⟩:=hl;unfold Tc.n Tc.vw;simp_all
 have hle0:(c.n i).n<=r.n.n:=M.le;have hpart:=fun q b h=>k.part (q:=q) (b:=b) j (i:=i) (j':=i) (by omega) (k.still hκ (by omega) hn) (fun l r _ h=>by omega) hd h;have cv:∀ {q b},(act (c.D i) (c.vw i)).get q=some b->dj c done κ q b:=fun {q b} h=>by
  rcases hpart q b h with h | ⟨x,_,h2,_,h3,h4⟩
  ·exact .inl h
  ·exact .inr ⟨_,x,h2,h3,h4⟩
 refine⟨Ik β β' (c.n i) r.n,?_⟩;have hle:Be.le β (Ik β β' (c.n i) r.n):=fun q p h=>by
  unfold Ik;split
  ·exact h
  ·rename_i h1;split
   ·rename_i h2;rw[j.bn i hil hi q (by omega) (by simp_all)]at h;cases h
   omega
 have hrs:rs (Ik β β' (c.n i) r.n) r.n=β':=by
  funext q;unfold rs;split
  ·rename_i h1;unfold Ik;split
   ·rename_i h2;rw[M.old q h2,qH h2]
   ·rfl
  ·rename_i h1;exact(M.ok.top q (by omega)).symm
 have hm:∀(m:Po),Be.le (rs β m) (rs (Ik β β' (c.n i) r.n) m):=fun m=>Ba (ar _) fun q _ p h=>hle q p h;have hnl:∀x,¬c.xr i x:=fun x h=>by rw[h.quiet ho]at hlo;grind
 have hp:∀ {i' x'},PN c (dn done i) (i+1) i' x'->i'≠i/\PN c done κ i' x'/\bit (c.D i) i'=false:=fun {i' x'} h=>by
  have e:i'≠i:=by rintro rfl;exact hnl _ h.1
  exact⟨e,⟨h.1,by have:=h.2.1;grind[Sf],fun l r h1 h2=>h.2.2 l r h1 (by omega)⟩,h.2.2 i r hl (by omega)⟩
 have apart:∀ {i' x'},PN c (dn done i) (i+1) i' x'->∀ {q b p p0},(act (c.D i) (c.vw i)).get q=some b->rs β (c.n i) q=some p->β x'.n=some p0->p.Y1≠p0.Y1:=fun {i' x'} h {q b p p0} hq hp1 hp0 e=>by
  obtain⟨h1,h2,h3⟩:=hp h;have:=j.inj q x'.n b x'.b p p0 (cv hq) (.inr ⟨i',x',h2,rfl,rfl⟩) (WI _ _ _ _ hp1) hp0 e;subst this;rcases hpart _ b hq with h4 | ⟨y,y1,y2,y3,y4,y5⟩
  ·rw[(j.pn i' x' h2).1]at h4;cases h4
  ·have:=k.p5 y2.1 h2.1 y4;simp_all
 have own:∀ {q b p},r.h.get q=some b->Ik β β' (c.n i) r.n q=some p->β' q=some p:=fun {q b p} h1 h2=>by
  obtain⟨p',o',g1,_⟩:=M.ok.ob q b h1;have:=WI _ _ _ _ (show rs (Ik β β' (c.n i) r.n) r.n q=some p' by simp_all);simp_all
 have apart2:∀ {i' x'},PN c (dn done i) (i+1) i' x'->∀ {q b p p0},r.h.get q=some b->β' q=some p->β x'.n=some p0->p.Y1≠p0.Y1:=fun {i' x'} h {q b p p0} hq hp1 hp0 e=>by
  obtain⟨p',o',g1,g2,_⟩:=j.all (.inr ⟨i',x',(hp h).2.1,rfl,rfl⟩:dj c done κ x'.n x'.b);rw[hp0]at g1;cases g1;have hlt:=(Array.getElem?_eq_some_iff.1 g2).1;obtain⟨q0,c0,p1,k1,k2,k3,_⟩:=M.src q b p hq hp1 (by omega)
  grind
 refine⟨hle,by simp_all,hil,fun l ol hol hll=>?_,fun q hq=>?_,fun i' h1 h2 q h3 h4=>?_,fun q hq=>?_,fun q b h=>?_,fun i' x' h=>?_,fun q q' b b' p p' h h' g g' e=>?_,⟨M.os.trans j.Ij.os,M.tape.trans j.Ij.tape,M.out.trans j.Ij.out,trivial⟩,aR j.sz M.size,fun b hb hh=>?_,fun q y p h g hlt'=>?_,fun K hK hh=>?_⟩
 ·by_cases e:l=i
  ·grind[Ad]
  ·rw[Sf e];rcases aX l i with g | g
   ·have:=hd l (k.rg.ld hol ho g hll hlo)
    grind
   ·have:=j.ku l ol hol hll
    grind
 ·have:=k.zG (ba i) (by omega);unfold Ik;rw[if_pos (by omega)];exact j.bl q hq
 ·have hii:i'≠i:=by rintro rfl;grind[Ad]
  rw[Sf hii]at h2;have hb:=j.bn i' h1 h2 q h3 h4;unfold Ik;rcases aX i' i with g | g
  ·have:=k.zG (i:=i'+1) (j:=i) (by omega) (by omega)
   grind
  ·have:=k.zG (i:=i+1) (j:=i') (by omega) (by omega)
   grind
 ·have:=k.zG (i:=i+1) (j:=c.ops.length) (by omega) (ar _);rw[e1]at this;unfold Ik;rw[if_neg (by omega),if_neg (by omega)];exact j.bt q hq
 ·rw[e2]at h;rw[e1,hrs];exact M.ok.ob q b h
 ·obtain⟨h1,h2,h3⟩:=hp h;obtain⟨g0,p,o',g1,g2,g3,g4⟩:=j.pn i' x' h2;have hp0:=WI _ _ _ _ g1;refine⟨?_,p,o',hm _ _ _ g1,?_,g3.le (hm _),g4⟩
  ·rw[e2];cases hg:r.h.get x'.n with
   |none=>rfl
   |some b =>
    obtain⟨p1,o1,k1,_⟩:=M.ok.ob _ b hg;have:p1=p:=by
     have:=WI _ _ _ _ (show rs (Ik β β' (c.n i) r.n) r.n x'.n=some p1 by simp_all);rw[hle _ _ hp0]at this;simp_all
    grind
  ·rw[M.fr p.Y1 (Array.getElem?_eq_some_iff.1 g2).1 fun q b p1 hq _ hp1=>apart h hq hp1 hp0];exact g2
 ·rcases h with h | ⟨i1,x1,h1,rfl,rfl⟩<;>rcases h' with h' | ⟨i2,x2,h2,rfl,rfl⟩
  ·rw[e2]at h h';exact M.ok.inj q q' b b' p p' h h' (own h g) (own h' g') e
  ·rw[e2]at h;obtain⟨_,p0,_,k1,_⟩:=j.pn i2 x2 (hp h2).2.1;have hp0:=WI _ _ _ _ k1;rw[hle _ _ hp0]at g';grind
  ·rw[e2]at h';obtain⟨_,p0,_,k1,_⟩:=j.pn i1 x1 (hp h1).2.1;have hp0:=WI _ _ _ _ k1;rw[hle _ _ hp0]at g;grind
  ·obtain⟨_,p1,_,k1,_⟩:=j.pn i1 x1 (hp h1).2.1;obtain⟨_,p2,_,k2,_⟩:=j.pn i2 x2 (hp h2).2.1;have hp1:=WI _ _ _ _ k1;have hp2:=WI _ _ _ _ k2;rw[hle _ _ hp1]at g;cases g;rw[hle _ _ hp2]at g';cases g';exact j.inj _ _ _ _ _ _ (.inr ⟨i1,x1,(hp h1).2.1,rfl,rfl⟩) (.inr ⟨i2,x2,(hp h2).2.1,rfl,rfl⟩) hp1 hp2 e
 ·rw[M.fr b (aA hb j.sz) fun q x p hq hlv hp1 e=>?_]
  ·exact j.fr b hb hh
  ·rcases hpart q x hq with h4 | ⟨y,y1,y2,y3,y4,y5⟩
   ·obtain⟨q0,c0,p0,k1,k2,k3,k4⟩:=j.src q x p h4 (WI _ _ _ _ hp1) (by omega);exact hh q0 c0 p0 k1 (k4 hlv) k2 (by omega)
   ·obtain⟨_,p0,_,k1,_,_,k4⟩:=j.pn _ y y2;rw[y4]at k1;have h8:=WI _ _ _ _ k1;rw[WI _ _ _ _ hp1]at h8;cases h8;omega
 ·rw[e2]at h;obtain⟨q1,c1,p1,k1,k2,k3,k4⟩:=M.src q y p h (own h g) (aA hlt' j.sz);rcases hpart q1 c1 k1 with h4 | ⟨x,x1,x2,x3,x4,x5⟩
  ·obtain⟨q0,c0,p0,m1,m2,m3,m4⟩:=j.src q1 c1 p1 h4 (WI _ _ _ _ k2) (by omega);exact⟨q0,c0,p0,m1,m2,by omega,fun h=>m4 (k4 h)⟩
  ·obtain⟨_,p0,_,m1,_,_,m4⟩:=j.pn _ x x2;rw[x4]at m1;have:=WI _ _ _ _ m1;rw[WI _ _ _ _ k2]at this;cases this;omega
 ·rw[e2];refine M.yh K hK fun q x hq=>?_;rcases hpart q x hq with h4 | ⟨y,y1,y2,y3,y4,y5⟩
  ·exact j.yh K hK hh q x h4
  ·rw[<-y5,y2.1.n.2.2.2.1];exact hK
end
end Tc
end Go.Ev
namespace Go.Ev
open Go.RowKit
theorem kj{P:Program}{F:Fence}{a:Act}{w w':World}{K:Act->World->Prop}{Q:Exit->Act->World->Prop}(hF:OpF P F){o:Oper}{v:Value}(hnd:∀cl,o.op≠.defer cl)
  (hrun:∀d ty pos aft gd,(execOp a.eval ⟨d,o.op,ty,pos,aft,gd⟩).run P w = .ok (.value v) w') (hK:K (a.put o.dst v) w'):o.wpIn F 0 P a w K Q:=by
 refine⟨fun f _=>hF.op.fn f,?_⟩;rw[fF F _ o hnd];have:(execOp _ o).run P w = .ok _ w':=hrun o.dst _ o.pos _ _;rw[this];exact hK
namespace Tc
variable{c:Tc}
section
variable{N:Nat}{ds:List Deferred}{β0 β β':Be}{w0 w w':World}{done:Nat->Bool}{κ:Nat}{a:Act}
theorem Off.not{i:Nat}(h:c.Off i){o:Oper}(h':c.W i o):False:=by
 obtain⟨o1,g,h1,h2,h3,_⟩:=h;have e:=h'.1;rw[h1]at e;cases aa e;rcases h'.2 with h4 | ⟨g',h4,h5⟩
 all_goals grind[aa,Tc.cx]
theorem Ok.ahead(k:c.Ok)(j:Jm c β0 w0 done κ β w){i:Nat}{o:Oper}(ho:c.ops[i]?=some o)(hl:VH c.P o.op=true)(hi:done i=false)(hd:∀t,bit (c.D i) t=true->done t=true):κ<=i/\∀l r,κ<=l->l<i->¬c.Ld l r:=by
 refine⟨?_,fun l r h1 h2 hld=>?_⟩
 ·rcases aX i κ with g | g
  ·rw[(j.ku i o ho hl).2 g]at hi;cases hi
  omega
 ·obtain⟨ol,hol,hll⟩:=hld.VH;have:=(j.ku l ol hol hll).1 (hd l (k.rg.ld hol ho h2 hll hl));omega
theorem first(c:Tc)(κ:Nat):∀i,κ<=i->(∀l o,κ<=l->l<i->c.ops[l]?=some o->VH c.P o.op=false)\/∃l o,κ<=l/\l<i/\c.ops[l]?=some o/\VH c.P o.op=true/\∀l' o',κ<=l'->l'<l->c.ops[l']?=some o'->VH c.P o'.op=false
 |0,h=>.inl fun l o h1 h2=>by omega
 |i+1,h=>by
  by_cases e:κ=i+1
  ·grind
  ·rcases first c κ i (by omega)with g | ⟨l,o,g1,g2,g3⟩
   all_goals grind
theorem Ok.read(k:c.Ok)(s:Js c N ds done β a)(j:Jm c β0 w0 done κ β w){i:Nat}{g:Tr B->Option A}{x:A}(h:c.Rd i g x)(hil:i<c.ops.length)(hi:done i=false)(hd:∀t,bit (c.D i) t=true->done t=true):
  ∃h',Ob β h' w/\g h'=some x:=by
 have quiet:∀ {l r},c.Ld l r->∀ {P:Prop},(∀o,c.ops[l]?=some o->VH c.P o.op=false)->P:=fun {l r} hld {P} hq=>by
  obtain⟨o,h1,h2⟩:=hld.VH;simp_all
 rcases aX i κ with gt | gle
 ·obtain⟨j',h1,h2,h3,h4⟩:=k.yH h gt j.kl fun l r hld h1 h2=>by
   obtain⟨o,ho,hl⟩:=hld.VH;cases hb:bit _ i with
   |false=>rfl
   |true =>
    rw[s.cl l (List.getElem?_eq_some_iff.1 ho).1 ((j.ku l o ho hl).2 h2) i hb]at hi;cases hi
  refine⟨_,k.QGL j (aR h1 j.kl) h2 (fun l r hld hlt=>?_) hd,h4⟩
  grind
 ·rcases first c κ i gle with hn | ⟨l,o,h1,h2,h3,h4,h5⟩
  ·obtain⟨_,_,_,_,_,_,h5,_⟩:=h;exact⟨_,k.QGL j (by omega) (k.still gle (by omega) fun l r h1 h2 hld=>quiet hld fun o ho=>hn l o h1 h2 ho) (fun l r _ _=>by omega) hd,h5⟩
  ·have hb:bit (c.D i) l=false:=by
    cases hb:bit _ l with
    |false=>rfl
    |true=>have:=(j.ku l o h3 h4).1 (hd l hb);omega
   refine⟨_,k.QGL j (by omega) (k.still h1 (by omega) fun l' r h1 h2 hld=>quiet hld fun o ho=>h5 l' o h1 h2 ho) (fun l' r _ _=>by omega) hd,k.vX h h2 h3 h4 hb⟩
theorem Ok.QKQ(k:c.Ok)(s:Js c N ds done β a)(j:Jm c β0 w0 done κ β w)(g:Gl β0 (c.n 0))(hL:Lb c.lv (c.vw 0).h)(hih:ug c.P c.ih){F:Fence}(hF:OpF c.P F){Q:Exit->Act->World->Prop}{K:Act->World->Prop}(hN:(c.ops.all fun o=>kf N o.dst)=true)
  {i:Nat} (hil:i<c.ops.length) (hi:done i=false) (hd:∀t,bit (c.D i) t=true->done t=true)
  (hK:∀a' w' κ' β',Js c N ds (dn done i) β' a'->Jm c β0 w0 (dn done i) κ' β' w'->K a' w'):wpOpIn F 0 c.P c.ops.toArray Q i K a w:=by
 obtain⟨o,ho⟩:∃o,c.ops[i]?=some o:=⟨c.ops[i],by simp⟩;have hdo:kf N o.dst=true:=by
  grind
 unfold wpOpIn;have ho':c.ops.toArray[i]?=some o:=by simp_all
 rw[ho'];simp only;have kept:(∀x,¬c.xr i x)->VH c.P o.op=false->Jm c β0 w0 (dn done i) κ β w:=fun hn hq =>
  Jm.move k j (ar _) j.kl rfl (fun _ _ _ h=>h) (fun l ol hol hll=>by
   rw[Sf]
   ·exact j.ku l ol hol hll
   grind) hn
 have nonew:∀ {x:Pn},c.xr i x->∃g q,c.W i o/\C1 c.P (c.cx i) o.op=none/\jk c.P (c.cx i) o.op=none/\p6 c.P (c.cx i) o.op=some g/\g.f (c.st i) c.m=some q:=fun {x} hx=>by
  obtain⟨o',g,q,h1,h2,h3,h4,h5,_⟩:=hx;have e:=h1.1;grind
 have valI:∀ {b:A} {l:List A},(c.zf (i+1)).st=b::l->c.val i=b:=fun e=>by grind[Tc.val]
 have wnt:∀ {o'},c.W i o'->o'=o/\aQ o (yielded c.ops.toArray a.tmps)=true:=fun {o'} hw=>by
  have e:=hw.1;rw[ho]at e;cases aa e;exact⟨rfl,k.wanted s hi hd hw⟩
 have hρ:=k.oper s j g ho hi hd;rcases k.step hil with hoff | ⟨o1,gg,x,h1,h2,h3,e⟩ | ⟨gg,x,hrd⟩ | ⟨x,hnew⟩ | ⟨r,hld⟩
 ·have hoff':=hoff;obtain⟨o1,gg,h1,h2,h3,e⟩:=hoff;rw[ho]at h1;cases aa h1;rw[if_neg (by rw[k.guard s ho hi hd h2 h3];decide)];refine⟨fun f _=>hF.op.fn f,?_⟩;have hnn:∀x,¬c.xr i x:=fun x hx=>by
   obtain⟨_,_,hw,_⟩:=nonew hx;exact hoff'.not hw
  have hnl:∀r,¬c.Ld i r:=fun r hx=>by
   obtain⟨_,hw,_⟩:=hx;exact hoff'.not hw
  have hv:V (rs β (c.n (i+1))) (c.val i)=some undef:=by rw[valI (by rw[e])];rfl
  cases hlo:VH c.P o.op with
  |false=>exact hK _ _ κ β (s.put k ho hd hdo (Be.le_refl β) hv) (kept hnn hlo)
  |true =>
   obtain⟨g1,g2⟩:=k.ahead j ho hlo hi hd;refine hK _ _ (i+1) β (s.put k ho hd hdo (Be.le_refl β) hv) (Jm.move k j (by omega) (by omega) (k.still (by omega) (by omega) fun l r h1 h2 hx=>?_) (fun _ _ _ h=>by omega) (fun l ol hol hll=>?_) hnn)
   ·grind
   ·by_cases e:l=i
    ·grind[Ad]
    ·rw[Sf e];rcases aX l i with g | g
     ·have:=hd l (k.rg.ld hol ho g hll hlo)
      grind
     ·have:=j.ku l ol hol hll
      grind
 ·obtain⟨rfl,hw⟩:=wnt h1;rw[if_pos hw];obtain⟨v,g1,g2⟩:=QFC h2 h3 hρ;refine kj hF (fun cl e=>by rw[e]at h2;cases h2) (fun d ty pos aft gd=>g2 w d ty pos aft gd) (hK _ _ κ β (s.put k ho hd hdo (Be.le_refl β) ?_) (kept (fun x hx=>?_) (by rw[Pe (c.cx i),h2];rfl)))
  ·rw[valI (by rw[e])];have:c.n (i+1)=c.n i:=by unfold Tc.n;rw[e];rfl
   simp_all
  simp_all
 ·obtain⟨h',hob,hx⟩:=k.read s j hrd hil hi hd;obtain⟨o1,g',h1,h2,h3,h4,h5,h6,h7,e⟩:=hrd;obtain⟨rfl,hw⟩:=wnt h1;rw[if_pos hw];subst h4;obtain⟨v,g1,g2⟩:=QFK hob h3 hx fun z hz b e=>IF (WI _ _) _ _ (hρ z hz b e);refine kj hF (fun cl e=>by rw[e]at h3;cases h3) (fun d ty pos aft gd=>g2 d ty pos aft gd) (hK _ _ κ β (s.put k ho hd hdo (Be.le_refl β) ?_) (kept (fun x hx=>?_) (by grind[Pe])))
  ·rw[valI (by rw[e])];have:c.n (i+1)=c.n i:=by unfold Tc.n;rw[e];rfl
   grind[gG]
  simp_all
 ·have hnew':=hnew;obtain⟨o1,g',q,h1,h2,h3,h4,h5,h6,e⟩:=hnew;obtain⟨rfl,hw⟩:=wnt h1;rw[if_pos hw];obtain⟨obj,sz,v,g1,g2,g3⟩:=QFH (h:=.lf) (w:=w) h4 h5 hρ;obtain⟨j1,j2⟩:=Jm.new k j hnew' hi (obj:=obj) (sz:=sz) (by simp_all);refine kj hF (fun cl e=>by rw[e]at h4;cases h4) (fun d ty pos aft gd=>g1 d ty pos aft gd) (hK _ _ κ _ (s.put k ho hd hdo j2 ?_) j1);rw[valI (by rw[e])];refine g3 _ ?_;obtain⟨e1,_⟩:=hnew'.n
  grind[qH,Po.cM,Ke]
 ·have hld':=hld;obtain⟨o1,h1,h2,h3,h4,h5,e⟩:=hld;obtain⟨rfl,hw⟩:=wnt h1;rw[if_pos hw];obtain⟨g1,g2⟩:=k.ahead j ho h2 hi hd;refine QBT hF (k.QKX j hil g1 g2 hd) (k.gl j g (by omega)) (fun q x hq=>?_) hih h3 hρ fun β' v w' hv M=>?_
  ·rcases k.part j (i:=i) (j':=i) (by omega) (k.still g1 (by omega) g2) (fun l r _ h=>by omega) hd hq with h | ⟨y,_,y2,_,_,y5⟩
   ·exact j.yh c.lv (ar _) hL q x h
   ·rw[<-y5,y2.1.n.2.2.2.1];omega
  obtain⟨βn,m1,m2,m3⟩:=Jm.VH k j hld' hi g1 g2 hd M;refine hK _ _ (i+1) βn (s.put k ho hd hdo m1 ?_) m3;simp_all
end
end Tc
end Go.Ev
namespace Go.Ev
open Go.RowKit
section
variable{P:Program}{X:Nat->Bool}{ih:Ih}{lv:Nat}{F:Fence}{Q:Exit->Act->World->Prop}
theorem QBu{l:Array Bool}{i:Nat}(hi:i<l.size)(j:Nat):(l.setIfInBounds i true).getD j true=Tc.dn (fun j=>l.getD j true) i j:=by
 unfold Tc.dn;by_cases e:j=i
 ·simp_all
 ·have e2:i≠j:=by omega
  simp_all
def und(l:Array Bool):Nat:=l.toList.count false
theorem pC{l:Array Bool}{i:Nat}(hi:i<l.size)(h:l.getD i true=false):und (l.setIfInBounds i true)+1=und l:=by
 unfold und;have hl:l.toList[i]=false:=by simp_all
 grind
theorem QDO{l:Array Bool}{i:Nat}(h:l.getD i true=false):0<und l:=by
 grind[aX,pC]
namespace Tc
variable{c:Tc}{N:Nat}{ds:List Deferred}{β0:Be}{w0:World}
theorem Ok.uX(k:c.Ok){l:Array Bool}(hl:l.size=c.ops.length)(hr:bV .any c.ops.toArray l=[]):∀i,i<c.ops.length->l.getD i true=true:=by
 intro i
 induction i using eP with
 |_ i ih =>
  intro hi;cases h:l.getD i true with
  |true=>rfl
  |false =>
   obtain⟨o,ho⟩:∃o,c.ops[i]?=some o:=⟨c.ops[i],by simp⟩;have:i∈bV .any c.ops.toArray l:=mem_ready.2 ⟨h,o,by simp_all,fun e he hb=>by
    have hlt:=k.rg.on ho e (by simp_all) hb
    grind⟩
   simp_all
theorem Ok.any(k:c.Ok)(g:Gl β0 (c.n 0))(hL:Lb c.lv (c.vw 0).h)(hih:ug c.P c.ih)(hF:OpF c.P F)(hN:(c.ops.all fun o=>kf N o.dst)=true)
  (hQ:∀κ β a w,(∀done,(∀i,i<c.ops.length->done i=true)->Js c N ds done β a->Jm c β0 w0 done κ β w->Q .normal a w)):∀(f:Nat) (l:Array Bool) (a:Act) (w:World) (κ:Nat) (β:Be),l.size=c.ops.length->Js c N ds (fun i=>l.getD i true) β a->Jm c β0 w0 (fun i=>l.getD i true) κ β w->und l<=f->wpAnyIn F 0 c.P .any c.ops.toArray Q f l a w
 |0,l,a,w,κ,β,hl,s,j,hu=>by
  have hr:bV .any c.ops.toArray l=[]:=by
   cases h:bV .any _ l with
   |nil=>rfl
   |cons i r =>
    have:i∈bV .any c.ops.toArray l:=by simp_all
    have:=QDO (mem_ready.1 this).1;omega
  exact⟨hr,hQ κ β a w _ (k.uX hl hr) s j⟩
 |f+1,l,a,w,κ,β,hl,s,j,hu=>by
  refine⟨fun hr=>hQ κ β a w _ (k.uX hl hr) s j,fun i hi=>?_⟩;obtain⟨h1,o,h2,h3⟩:=mem_ready.1 hi;have ho:c.ops[i]?=some o:=by simp_all
  have hil:=(List.getElem?_eq_some_iff.1 ho).1;refine k.QKQ s j g hL hih hF hN hil h1 (fun t ht=>?_) fun a' w' κ' β' s' j'=>?_
  ·obtain⟨e,e1,e2,e3⟩:=k.rg.ex ho ht;have hlt:=k.rg.on ho e e1 e2;have h4:l.getD e.on true=true:=by
    grind
   rcases e3 with e3 | e3
   ·simp_all
   ·exact s.cl e.on (by omega) h4 t e3
  ·have hfun:(fun j=>(l.setIfInBounds i true).getD j true)=dn (fun j=>l.getD j true) i:=by
    grind[QBu]
   have hu':=pC (by omega) h1;exact k.any g hL hih hF hN hQ f _ a' w' κ' β' (by simp_all) (by simp_all) (by simp_all) (by omega)
end Tc
theorem QEl{ls:List Bool}{D:List Nat}{i l:Nat}(h:i<l)(h2:ls[l]?=some true)(h3:bit (D.getD l 0) i=false):QAI ls D i=true:=by
 unfold QAI;rw[List.any_eq_true];refine⟨l,List.mem_range.2 (List.getElem?_eq_some_iff.1 h2).1,?_⟩;have:ls.getD l false=true:=by simp_all
 rw[this,h3,aD h];rfl
theorem QES(hF:OpF P F)(hih:ug P ih){ops:Array Oper}{N:Nat}{m:Tr A}{h:Tr B}{n:Po}{β:Be}{a:Act}{w:World}{r:R}{id:Nat}(hr:(uN P X ops.toList).f ih lv m h n=some r)(hN:(ops.toList.all fun o=>kf N o.dst)=true)
  (hs:a.tmps.size=N) (hk:Ok β h n w) (hg:Gl β n) (hL:Lb lv h) (hsl:Sl X β m a.tmps)
  (hQ:∀β' a' w',r.e = .nm->Sl X β' r.m a'.tmps->a'.tmps.size=N->a'.defers=a.defers->Mv lv β h n w β' r.h r.n w'->Q .normal a' w'):(Code.region id ops true).wpIn F 0 P Q a w:=by
 unfold uN at hr;simp only[X6]at hr;split at hr
 ·rename_i hc;rw[aq,aq]at hc;obtain⟨hc1,hc2,hc3⟩:=hc;have hX:X 1000000=false:=by simp_all
  have hr1:bd ((uM P X ops.toList (zJ ops.toList []) (ops.toList.map fun o=>VH P o.op) ops.toList 0 []).f ih lv m ⟨[],⟨h,[]⟩,n,[],[]⟩) (fun z=>some (⟨.nm,u0,(flD X (ops.toList.map CN).reverse).f z.st m,QAJ z.v,z.n⟩:R))=some r:=by
   omega
  obtain⟨zL,h1,h2⟩:=QX hr1;cases aa h2;obtain⟨zf,z0,z1,z2⟩:=yz h1;rw[bh]at z1;let c:Tc:=⟨P,ih,lv,m,X,ops.toList,fun k=>(zJ ops.toList []).getD k 0,QAI (ops.toList.map fun o=>VH P o.op) (zJ ops.toList []),zf⟩;have hcx:c.Ok:=⟨QGI hc3,fun i o ho=>by
   have:=z2 i o ho;simp only[bh,List.append_nil]at this;exact this,by grind,by grind,by grind,by grind,
   fun i l o hil ho hl hb=>QEl hil (by grind) hb⟩
  have hn0:c.n 0=n:=by show(zf 0).n=n;rw[z0]
  have hv0:c.vw 0=⟨h,[]⟩:=by show(zf 0).v=_;rw[z0]
  have hrs:rs β n=β:=by
   funext q;unfold rs;split
   ·rfl
   ·rename_i h1;exact(hk.top q (by omega)).symm
  have hlen:c.ops.length=ops.size:=by rfl
  refine wpIn_region_any hc1 ?_;have f0:∀i,i<c.ops.length->(aG ops.size false).getD i true=false:=fun i hi=>by
   simp_all
  have f1:∀i o,c.ops[i]?=some o->(aG ops.size false).getD i true=true->False:=fun i o ho h=>by
   grind
  have hop:ops=c.ops.toArray:=by rfl
  have hfin:∀κ β' a' w',(∀done,(∀i,i<c.ops.length->done i=true)->Tc.Js c N a.defers done β' a'->Tc.Jm c β w done κ β' w'->Q .normal a' w'):=fun κ β' a' w' done hd s j=>by
   have hst:(c.vw c.ops.length).h=(c.vw κ).h:=hcx.still j.kl (ar _) fun l r h1 h2 hl=>by
    obtain⟨o,ho,hlo⟩:=hl.VH;have:=(j.ku l o ho hlo).1 (hd l h2);omega
   have hzL:c.zf c.ops.length=zL:=by
    omega
   have hpart:∀ {q b},(QAJ zL.v).get q=some b->(c.vw κ).h.get q=some b\/∃x,Tc.PN c done κ x.j x/\x.n=q/\x.b=b:=fun {q b} hq=>by
    rcases QCf hq with ⟨x,g1,g2,g3⟩ | g1
    ·obtain⟨k1,k2,k3⟩:=hcx.QDl (ar _) (x:=x) (by grind[Tc.vw]);exact .inr ⟨x,⟨k2,hd _ k1,fun l r hl hlt=>k3 l r hl (aA hlt j.kl)⟩,g2,g3⟩
    grind[Tc.vw]
   have hcv:∀ {q b},(QAJ zL.v).get q=some b->Tc.dj c done κ q b:=fun {q b} hq=>by
    rcases hpart hq with g | ⟨x,g1,g2,g3⟩
    ·exact .inl g
    ·exact .inr ⟨_,x,g1,g2,g3⟩
   have hnL:c.n c.ops.length=zL.n:=by grind[Tc.n]
   refine hQ β' a' w' rfl ?_ s.size s.defs ⟨by rw[<-hn0,<-hnL];exact hcx.zG (ba _) (ar _),fun q hq=>j.bl q (by grind),⟨fun q b hq=>j.all (hcv hq),fun q q' b b' p p' g g' k1 k2 e=>j.inj q q' b b' p p' (hcv g) (hcv g') k1 k2 e,fun q hq=>j.bt q (by grind)⟩,
    j.Ij.os,j.Ij.tape,j.Ij.out,j.Ij.drawn,j.sz,fun b hb hh=>j.fr b hb fun q x p h1 h2 h3=>hh q x p (by grind) h2 h3,fun q x p hq hp hlt=>?_,fun K hK hh q x hq=>?_⟩
   ·have hl2:(c.st c.ops.length).length=(c.loc c.ops.length).length:=hcx.len (ar _);have hloc:c.loc c.ops.length=(ops.toList.map CN).reverse:=by
     grind[Tc.loc,List.take_length]
    have hstL:c.st c.ops.length=zL.st:=by grind[Tc.st]
    intro t b hX' hb;rw[<-hloc,<-hstL]at hb;have hb:ev (c.cx c.ops.length) (.tmp t) (c.st c.ops.length) c.m=some b:=by rw[<-hb];exact(gn hX' hl2).symm
    have ht:t≠1000000:=by grind
    by_cases hx:∃(i:Nat) (o:Oper),c.ops[i]?=some o/\o.dst=some t
    ·obtain⟨i,o,ho,hod⟩:=hx;have hil:=(List.getElem?_eq_some_iff.1 ho).1;rw[hcx.uI ho hod ht (ar _) hil]at hb;cases aa hb;obtain⟨v,g1,g2⟩:=s.sl i o t ho (hd i hil) hod
     grind[IF,WI]
    ·rw[hcx.uJ ht (ar _) fun i o _ ho hod=>hx ⟨i,o,ho,hod⟩,X6,if_pos hX']at hb;obtain⟨v,g1,g2⟩:=s.cr t b hX' hb fun i o ho _ hod=>hx ⟨i,o,ho,hod⟩
     grind[IF,WI]
   ·rcases hpart hq with g | ⟨y,g1,g2,g3⟩
    ·obtain⟨q0,c0,p0,k1,k2,k3,k4⟩:=j.src q x p g hp hlt
     grind
    ·obtain⟨_,p0,_,k1,_,_,k4⟩:=j.pn _ y g1;have h8:=WI _ _ _ _ k1
     grind
   ·rcases hpart hq with g | ⟨y,g1,g2,g3⟩
    ·exact j.yh K hK (by grind) q x g
    ·rw[<-g3,g1.1.n.2.2.2.1];exact hK
  have hinj:∀q q' b b' p p',Tc.dj c (fun i=>(aG ops.size false).getD i true) 0 q b->Tc.dj c (fun i=>(aG ops.size false).getD i true) 0 q' b'->β q=some p->β q'=some p'->p.Y1=p'.Y1->q=q':=by
   have old:∀ {q b},Tc.dj c (fun i=>(aG ops.size false).getD i true) 0 q b->h.get q=some b:=fun {q b} g=>by
    rcases g with g | ⟨i,x,g,_⟩
    ·grind
    ·have h5:(aG ops.size false).getD i true=true:=g.2.1;rw[f0 i g.1.n.2.2.2.2]at h5;cases h5
   exact fun q q' b b' p p' g g'=>hk.inj q q' b b' p p' (old g) (old g')
  have main:=Tc.Ok.any (F:=F) (Q:=Q) (ds:=a.defers) (w0:=w) (β0:=β) (N:=N) hcx (by grind) (by grind) hih hF hN hfin ops.size (aG ops.size false) a { w with drawn:=w.drawn+1 } 0 β (by grind)
   ⟨hs,rfl,fun i hi h=>(by grind),fun i o d ho h=>(f1 i o ho h).elim,fun t b hX hb _=>(by rw[hn0,hrs];exact hsl t b hX hb)⟩
   ⟨ba _,fun l o ho hl=>⟨fun h=>(f1 l o ho h).elim,fun h=>by omega⟩,fun q _=>rfl,fun i hi _ q hq _=>hk.top q (by have:=hcx.zG (ba i) (by omega);rw[hn0]at this;omega),
    fun q hq=>hk.top q (by have:=hcx.zG (ba c.ops.length) (ar _);rw[hn0]at this;omega),
    fun q b h=>(by rw[hn0,hrs];rw[hv0]at h;exact hk.ob q b h),
    fun i x hx=>(by have h5:(aG ops.size false).getD i true=true:=hx.2.1;rw[f0 i hx.1.n.2.2.2.2]at h5;cases h5),
    hinj,⟨rfl,rfl,rfl,trivial⟩,ar _,fun _ _ _=>rfl,fun q x p h g _=>⟨q,x,p,h,g,rfl,fun h=>h⟩,fun _ _ h=>h⟩ (by
     have:und (aG ops.size false)<=(aG ops.size false).toList.length:=List.count_le_length;simpa using this)
  omega
 trivial
end
end Go.Ev
namespace Go.Ev
open Go.RowKit
def Iu(b0:Nat)(β:Be)(h:Tr B)(w:World):List Deferred->Prop
 |[]=>True
 |d::l=>(∃D,d={ target:=.collected D,args:=#[] }/\b0<=D/\w.heap[D]?=some (.deferred (some []))/\(∀q x p,h.get q=some x->β q=some p->p.Y1≠D)/\∀d'∈l,d'≠d)/\Iu b0 β h w l
theorem Iu.mv{b0 lv:Nat}{β β':Be}{h h':Tr B}{n n':Po}{w w':World}(M:Mv lv β h n w β' h' n' w'):∀ {l:List _},Iu b0 β h w l->Iu b0 β' h' w' l
 |[],_=>trivial
 |d::l,⟨⟨D,h1,h2,h3,h4,h5⟩,k⟩=>by
  have hD:=(Array.getElem?_eq_some_iff.1 h3).1;refine⟨⟨D,h1,h2,?_,fun q x p hq hp e=>?_,h5⟩,k.mv M⟩
  ·rw[M.fr D hD fun q x p hq _ hp=>h4 q x p hq hp];exact h3
  ·obtain⟨q0,c0,p0,g1,g2,g3,_⟩:=M.src q x p hq hp (by omega)
   grind
structure Sta(X:Nat->Bool)(N b0 lv:Nat)(β:Be)(m:Tr A)(h:Tr B)(n:Po)(a:Act)(w:World):Prop where
 sl:Sl X β m a.tmps
 sz:a.tmps.size=N
 ok:Ok β h n w
 gl:Gl β n
 lb:Lb lv h
 df:Iu b0 β h w a.defers
 b0:b0<=w.heap.size
def exO:Ex->Exit
 |.nm=>.normal
 |.ex id=>.exit id
 |.rt=>.ret
section
variable{P:Program}{X:Nat->Bool}{N b0:Nat}{lv:Nat}{ih:Ih}{F:Fence}{rf:Bool}
def dx(P:Program)(ih:Ih)(rf:Bool)(X:Nat->Bool)(N:Nat)(F:Fence)(c:Code):Prop:=∀ {Q:Exit->Act->World->Prop} {lv b0:Nat} {m:Tr A} {h:Tr B} {n:Po} {β:Be} {a:Act} {w:World} {r:R},(CW P rf X c).f ih lv m h n=some r->Sta X N b0 lv β m h n a w ->
 (∀β' a' w',Sta X N b0 lv β' r.m r.h r.n a' w'->Mv lv β h n w β' r.h r.n w'->Q (exO r.e) a' w')->c.wpIn F 0 P Q a w
theorem Sta.mv{β β':Be}{m m':Tr A}{h h':Tr B}{n n':Po}{a a':Act}{w w':World}(s:Sta X N b0 lv β m h n a w)(M:Mv lv β h n w β' h' n' w')(h1:Sl X β' m' a'.tmps)(h2:a'.tmps.size=N)(h3:a'.defers=a.defers):Sta X N b0 lv β' m' h' n' a' w' :=
 ⟨h1,h2,M.ok,s.gl.mv M,M.yh lv (ar _) s.lb,by rw[h3];exact s.df.mv M,aR s.b0 M.size⟩
theorem QAC(hF:OpF P F)(hih:ug P ih){id:Nat}{ops:Array Oper}{dr:Bool}(hN:IV N (.region id ops dr)=true):dx P ih rf X N F (.region id ops dr):=by
 intro Q lv b0 m h n β a w r hr s hQ;have fin:∀β' a' w',r.e = .nm->Sl X β' r.m _->a'.tmps.size=N->a'.defers=a.defers->Mv lv β h n w β' r.h r.n w'->Q .normal a' w':=fun β' a' w' h1 h2 h3 h4 M=>by
  have:=hQ β' a' w' (s.mv M h2 h3 h4) M;rw[h1]at this;exact this
 cases dr with
 |true=>exact QES hF hih (show(uN P X _).f ih lv m h n=some r from hr) hN s.sz s.ok s.gl s.lb s.sl fin
 |false =>
  exact wpIn_region_list (jm hF hih hr hN s.sz s.ok s.gl s.lb (RS.start s.sl) rfl fin)
theorem QHL{x y:Code}(hx:dx P ih rf X N F x)(hy:dx P ih rf X N F y):dx P ih rf X N F (.seq x y):=by
 intro Q lv b0 m h n β a w r hr s hQ;obtain⟨r1,h1,h2⟩:=QX hr;refine wpIn_seq (hx h1 s fun β' a' w' s' M=>?_);cases he:r1.e with
 |nm =>
  rw[he]at h2;exact hy h2 s' fun β'' a'' w'' s'' M'=>hQ β'' a'' w'' s'' (M.trans M')
 |ex id =>
  rw[he]at h2;cases aa h2;have:=hQ β' a' w' s' M;rw[he]at this;exact this
 |rt =>
  rw[he]at h2;cases aa h2;have:=hQ β' a' w' s' M;rw[he]at this;exact this
theorem QEa{c:Operand}{x y:Code}(hx:dx P ih rf X N F x)(hy:dx P ih rf X N F y):dx P ih rf X N F (.cond c x y):=by
 intro Q lv b0 m h n β a w r hr s hQ;obtain⟨v,h1,h2⟩:=QX hr;obtain⟨t,h3,h4⟩:=QX h2;have hv:=QB9 (RS.start s.sl) s.gl c v h1;rw[A.QHx h3]at hv;refine wpIn_cond_split (V_b hv) (fun e=>?_) fun e=>?_
 ·subst e;exact hx h4 s hQ
 ·subst e;exact hy h4 s hQ
theorem QCM{id:Nat}{x:Code}(hx:dx P ih rf X N F x):dx P ih rf X N F (.block id x):=by
 intro Q lv b0 m h n β a w r hr s hQ;obtain⟨r1,h1,h2⟩:=QX hr;refine wpIn_block (hx h1 s fun β' a' w' s' M=>?_);cases he:r1.e with
 |nm =>
  rw[he]at h2;cases aa h2;have:=hQ β' a' w' s' M;rw[he]at this;exact this
 |ex i =>
  rw[he]at h2;replace h2:(bif ao i id then some (⟨.nm,u0,r1.m,r1.h,r1.n⟩:R)else some r1)=some r:=h2;show(if i=id then Q .normal a' w' else Q _ a' w');by_cases e:i=id
  ·subst e;rw[bz]at h2;cases aa h2;rw[if_pos rfl];exact hQ β' a' w' s' M
  ·have:ao i id=false:=by
    cases hb:ao i id<;>simp_all
   rw[this]at h2;cases aa h2;rw[if_neg e];have:=hQ β' a' w' s' M;rw[he]at this;exact this
 |rt =>
  rw[he]at h2;cases aa h2;have:=hQ β' a' w' s' M;rw[he]at this;exact this
theorem QEZ{x:Code}(hx:dx P ih rf X N F x):dx P ih rf X N F (.loop x):=by
 intro Q lv b0 m h n β a w r hr s hQ;refine wpIn_loop_ghost (fun k a' w'=>∃β' m' h' n',QBe _ k m' h' n'=some r/\Sta X N b0 lv β' m' h' n' a' w'/\Mv lv β h n w β' h' n' w') lim ⟨β,m,h,n,hr,s,Mv.refl s.ok⟩ ?_;rintro k a1 w1 ⟨β1,m1,h1,n1,g1,g2,g3⟩;cases k with
 |zero=>cases g1
 |succ k =>
  obtain⟨r1,k1,k2⟩:=QX (show bd _ (fun r=>Ex.casesOn r.e (QBe ((CW P rf X x).f ih lv) k r.m r.h r.n) (fun _=>some r) (some r))=some r from g1);refine hx k1 g2 fun β' a' w' s' M=>?_;cases he:r1.e with
  |nm =>
   rw[he]at k2;exact⟨k,Nat.lt_succ_self k,β',r1.m,r1.h,r1.n,k2,s',g3.trans M⟩
  |ex i =>
   rw[he]at k2;cases aa k2;have:=hQ β' a' w' s' (g3.trans M);rw[he]at this;exact this
  |rt =>
   rw[he]at k2;cases aa k2;have:=hQ β' a' w' s' (g3.trans M);rw[he]at this;exact this
theorem QCL{x:Code}(hrf:rf=true->F=bY)(hx:dx P ih rf X N F x):dx P ih rf X N F (.scope x):=by
 intro Q lv b0 m h n β a w r hr s hQ;obtain⟨h1,h2⟩:=Q5 hr;have hx:=hx (Q:=Exit.noGoto Q) h2 s fun β' a' w' s' M=>by
  have:=hQ β' a' w' s' M;cases he:r.e<;>rw[he]at this<;>exact this
 rw[hrf h1]at hx ⊢;exact wpIn_wide.2 (wp_scope_straight (wpIn_wide.1 hx))
end
end Go.Ev
